-- printed by pprint.py (this session's program over the kit's printer) out of the translation. Lean checks it.
import Derived.Test.YtoieojmfkkidnaaPx0
import Derived.Test.YtoieojmfkkidnaaPx7
namespace Go.Proofs.Ytoieojmfkkidnaa.P
open Go.RowKit Go.Proofs.YtoieojmfkkidnaaX Go.Proofs.YtoieojmfkkidnaaW.PrintWords Go.Proofs.YtoieojmfkkidnaaW.PrintLast Go.Proofs.YtoieojmfkkidnaaW.PrintMore
attribute [local go_sem] max2_int min2_int max_two min_two max_three min_three max_four min_four   -- for this text's walks alone
set_option linter.unusedVariables false
set_option linter.unusedSimpArgs false

/-- A state of type 136 at block g of W; what its slices lead to came in by w0. -/
def IsS136 (w0 W : World) (g : Nat) (f0 : List Int) (f1 : Int) : Prop := ∃ A0 c0, W.heap[g]? = some (.cells #[.slice A0 f0.length c0, .int .i64 f1] 136 (0, 0)) ∧ w0.heap.size ≤ g ∧ Kd.C (Kd.int .u8) w0 A0 f0.length f0
theorem IsS136.grown {w0 W : World} {g : Nat} {f0 : List Int} {f1 : Int} {W1 : World} {row : Option Nat} (h : IsS136 w0 W g f0 f1) (hw : W.grownBy W1 row) (hne : some g ≠ row) : IsS136 w0 W1 g f0 f1 := by
 obtain ⟨A0,c0,hb,hg,hr0⟩:=h
 exact ⟨A0,c0,blk_grown hb hw hne,hg,hr0⟩
theorem IsS136.own_neN {w0 W : World} {g : Nat} {f0 : List Int} {f1 : Int} {α : Type} {d : Kd α} {e : Nat} {base : Nat} {ok : Nat → Prop} {v : Value} {xs : List α} (h : IsS136 w0 W g f0 f1) (ho : Kd.N d e W base ok v xs) (ht : e ≠ 136) : some g ≠ v.ownBlock := by
 obtain ⟨A0,c0,hb,hg,hr0⟩:=h
 exact Kd.N_ne ho hb ht
theorem IsS136.fresh {w0 W : World} {g : Nat} {f0 : List Int} {f1 : Int} (h : IsS136 w0 W g f0 f1) : ∀ k, W.heap.size ≤ k → k ≠ g := by
 obtain ⟨A0,c0,hb,hg,hr0⟩:=h
 exact Kd.freshB hb
theorem IsS136.kept {w0 W : World} {g : Nat} {f0 : List Int} {f1 : Int} {W1 : World} {S : Nat → Prop} (h : IsS136 w0 W g f0 f1) (hk : Kept W W1 S) (hne : ¬ S g) : IsS136 w0 W1 g f0 f1 := by
 obtain ⟨A0,c0,hb,hg,hr0⟩:=h
 exact ⟨A0,c0,blk_kept hb hk hne,hg,hr0⟩
theorem IsS136.below {w0 W : World} {g : Nat} {f0 : List Int} {f1 : Int} {W1 : World} (h : IsS136 w0 W g f0 f1) (hw : Below W.heap.size W W1) : IsS136 w0 W1 g f0 f1 := h.grown (grown_of_below hw none) (by simp)
theorem IsS136.alloc {w0 W : World} {g : Nat} {f0 : List Int} {f1 : Int} (h : IsS136 w0 W g f0 f1) (o : Obj) : IsS136 w0 (W.alloc o) g f0 f1 := h.below (below_alloc (Below.refl _ _) o)
theorem IsS136.drewN {w0 W : World} {g : Nat} {f0 : List Int} {f1 : Int} (h : IsS136 w0 W g f0 f1) (m : Nat) : IsS136 w0 (W.drewN m) g f0 f1 := h
theorem IsS136.drew {w0 W : World} {g : Nat} {f0 : List Int} {f1 : Int} (h : IsS136 w0 W g f0 f1) : IsS136 w0 W.drew g f0 f1 := h
theorem IsS136.at_ {w0 W : World} {g : Nat} {f0 : List Int} {f1 : Int} {w' : World} {m : Nat} (hq : W.drewN m = w') (h : IsS136 w0 W g f0 f1) : IsS136 w0 w' g f0 f1 := by subst hq; exact IsS136.drewN h m
theorem IsS136.apart {w0 W : World} {g : Nat} {f0 : List Int} {f1 : Int} {α : Type} {d : Kd α} {e : Nat} {base : Nat} {ok : Nat → Prop} {v : Value} {xs : List α} (h : IsS136 w0 W g f0 f1) (ho : d.R e W base ok v xs) (ht : ∀ q, q ∈ e :: d.E → q ≠ 136) : d.R e W base (fun k => ok k ∧ k ≠ g) v xs := by
 obtain ⟨A0,c0,hb,hg,hr0⟩:=h
 exact Kd.R_types ho hb ht
theorem IsS136.own_ne {w0 W : World} {g : Nat} {f0 : List Int} {f1 : Int} {α : Type} {d : Kd α} {e : Nat} {base : Nat} {ok : Nat → Prop} {v : Value} {xs : List α} (h : IsS136 w0 W g f0 f1) (ho : d.R e W base ok v xs) (ht : e ≠ 136) : some g ≠ v.ownBlock := by
 obtain ⟨A0,c0,hb,hg,hr0⟩:=h
 exact Kd.R_ne ho hb ht
theorem IsS136.apartQ {w0 W : World} {g : Nat} {f0 : List Int} {f1 : Int} {α : Type} {d : Kd α} {e : Nat} {base : Nat} {ok : Nat → Prop} {v : Value} {xs : List α} (h : IsS136 w0 W g f0 f1) (ho : d.Q e W base ok v xs) (ht : ∀ q, q ∈ e :: d.E → q ≠ 136) : d.Q e W base (fun k => ok k ∧ k ≠ g) v xs := by
 obtain ⟨A0,c0,hb,hg,hr0⟩:=h
 exact Kd.Q_types ho hb ht
theorem IsS136.own_neQ {w0 W : World} {g : Nat} {f0 : List Int} {f1 : Int} {α : Type} {d : Kd α} {e : Nat} {base : Nat} {ok : Nat → Prop} {v : Value} {xs : List α} (h : IsS136 w0 W g f0 f1) (ho : d.Q e W base ok v xs) (ht : e ≠ 136) : some g ≠ v.ownBlock := by
 obtain ⟨A0,c0,hb,hg,hr0⟩:=h
 exact Kd.Q_ne ho hb ht
theorem IsS136.apartS {w0 W : World} {g : Nat} {f0 : List Int} {f1 : Int} {α : Type} {d : Kd α} {e : Nat} {base : Nat} {ok : Nat → Prop} {v : Value} {xs : List α} (h : IsS136 w0 W g f0 f1) (ho : d.S e W base ok v xs) (ht : ∀ q, q ∈ e :: d.E → q ≠ 136) : d.S e W base (fun k => ok k ∧ k ≠ g) v xs := by
 obtain ⟨A0,c0,hb,hg,hr0⟩:=h
 exact Kd.S_types ho hb ht
theorem IsS136.own_neS {w0 W : World} {g : Nat} {f0 : List Int} {f1 : Int} {α : Type} {d : Kd α} {e : Nat} {base : Nat} {ok : Nat → Prop} {v : Value} {xs : List α} (h : IsS136 w0 W g f0 f1) (ho : d.S e W base ok v xs) (ht : e ≠ 136) : some g ≠ v.ownBlock := by
 obtain ⟨A0,c0,hb,hg,hr0⟩:=h
 exact Kd.S_ne ho hb ht
theorem IsS136.lt {w0 W : World} {g : Nat} {f0 : List Int} {f1 : Int} (h : IsS136 w0 W g f0 f1) : g < W.heap.size := by
 obtain ⟨A0,c0,hb,hg,hr0⟩:=h
 exact blk_lt hb
theorem IsS136.ge {w0 W : World} {g : Nat} {f0 : List Int} {f1 : Int} (h : IsS136 w0 W g f0 f1) : w0.heap.size ≤ g := by
 obtain ⟨A0,c0,hb,hg,hr0⟩:=h
 exact hg
theorem IsS136.ne_blk {w0 W : World} {g : Nat} {f0 : List Int} {f1 : Int} {a : Nat} {cs : Array Value} {t : TypeId} {fr : Nat × Nat} (h : IsS136 w0 W g f0 f1) (hb2 : W.heap[a]? = some (.cells cs t fr)) (ht : t ≠ 136) : g ≠ a := by
 obtain ⟨A0,c0,hb,hg,hr0⟩:=h;rintro rfl;rw [hb] at hb2
 injection hb2 with hb2
 injection hb2 with _ ht2
 exact ht ht2.symm
theorem IsS136.far {w0 W : World} {g : Nat} {f0 : List Int} {f1 : Int} {p : Addr} (h : IsS136 w0 W g f0 f1) (hne : g ≠ p.block) (u : Value) : IsS136 w0 (W.setCell p u) g f0 f1 := by
 obtain ⟨A0,c0,hb,hg,hr0⟩:=h
 exact ⟨A0,c0,blk_far hb hne u,hg,hr0⟩
theorem cellS136_0 {W : World} {g : Nat} {A0 : Option Addr} {c0 : Nat} {f0 : List Int} {f1 : Int} (h : W.heap[g]? = some (.cells #[.slice A0 f0.length c0, .int .i64 f1] 136 (0, 0))) : W.cell? ⟨g, 0, none⟩ = some (.slice A0 f0.length c0) := (blk_cell h 0).trans rfl
theorem cellS136_1 {W : World} {g : Nat} {A0 : Option Addr} {c0 : Nat} {f0 : List Int} {f1 : Int} (h : W.heap[g]? = some (.cells #[.slice A0 f0.length c0, .int .i64 f1] 136 (0, 0))) : W.cell? ⟨g, 1, none⟩ = some (.int .i64 f1) := (blk_cell h 1).trans rfl
theorem IsS136.set_1 {w0 W : World} {g : Nat} {f0 : List Int} {f1 : Int} (h : IsS136 w0 W g f0 f1) (x : Int) : IsS136 w0 (W.setCell ⟨g, 1, none⟩ (.int .i64 x)) g f0 x := by
 obtain ⟨A0,c0,hb,hg,hr0⟩:=h
 exact ⟨A0,c0,by simpa using blk_set hb 1 (.int .i64 x),hg,hr0⟩
theorem IsS136.new (w0 W : World) (A0 : Option Addr) (c0 : Nat) (f0 : List Int) (f1 : Int) (hB : Below w0.heap.size w0 W) (hr0 : Kd.C (Kd.int .u8) w0 A0 f0.length f0) : IsS136 w0 (W.alloc (.cells #[.slice A0 f0.length c0, .int .i64 f1] 136)) W.heap.size f0 f1 := ⟨A0, c0, by simpa using heap_alloc_new W _, hB.size, hr0⟩
theorem IsS136.p {w0 W W' : World} {g : Nat} {f0 f0' : List Int} {f1 f1' : Int} (h : Aside0 (IsS136 w0 W g f0 f1)) (t : IsS136 w0 W g f0 f1 → IsS136 w0 W' g f0' f1' := by intro h;repeat (first|(with_reducible first|exact h|apply IsS136.alloc|apply IsS136.drewN|apply IsS136.drew|apply IsS136.set_1|(apply IsS136.far;rotate_left;exact Aside0.out (by with_reducible assumption);rotate_right))|exact h)) : IsS136 w0 W' g f0' f1' := t h.out

/-! ### spec_l6Rd_pick: function 111 -/
def spec_l6Rd_pick.j0 : Nat → Int → Bool → List Int → Int → Option (Int × Int)
 | 0,_,_,_,_=>none
 | k+1,x1,x24,x1000,x1001=>if x24=true then (some (0,x1001)) else (if (wrap64 (x1001 - 1))<(x1000.length:Int) then (if 0≤(wrap64 (x1001 - 1)) then (if x1=0 then (none) else (some (Int.tmod (wrap64 (rd x1000 (wrap64 (x1001 - 1)))) x1,x1001))) else (none)) else (if (x1000.length:Int)=0 then (none) else (if 0≤(Int.tmod (wrap64 (x1001 - 1)) (x1000.length:Int)) then (if (Int.tmod (wrap64 (x1001 - 1)) (x1000.length:Int))<(x1000.length:Int) then (if 0≤(Int.tmod (wrap64 ((wrap64 ((wrap64 (x1001 - 1)) * 7))+3)) (x1000.length:Int)) then (if (Int.tmod (wrap64 ((wrap64 ((wrap64 (x1001 - 1)) * 7))+3)) (x1000.length:Int))<(x1000.length:Int) then (if x1=0 then (none) else (some (Int.tmod (Go.bits .xor .i64 (wrap64 ((wrap64 ((wrap64 ((wrap64 ((wrap64 (rd x1000 (Int.tmod (wrap64 (x1001 - 1)) (x1000.length:Int)))) * 131))+(wrap64 ((wrap64 (rd x1000 (Int.tmod (wrap64 ((wrap64 ((wrap64 (x1001 - 1)) * 7))+3)) (x1000.length:Int)))) * 1117))))+(wrap64 ((wrap64 (x1001 - 1)) * 29))))+(wrap64 ((wrap64 (Int.tdiv (wrap64 (x1001 - 1)) (x1000.length:Int))) * 53)))) (wrap64 (Int.tdiv (wrap64 ((wrap64 ((wrap64 ((wrap64 ((wrap64 (rd x1000 (Int.tmod (wrap64 (x1001 - 1)) (x1000.length:Int)))) * 131))+(wrap64 ((wrap64 (rd x1000 (Int.tmod (wrap64 ((wrap64 ((wrap64 (x1001 - 1)) * 7))+3)) (x1000.length:Int)))) * 1117))))+(wrap64 ((wrap64 (x1001 - 1)) * 29))))+(wrap64 ((wrap64 (Int.tdiv (wrap64 (x1001 - 1)) (x1000.length:Int))) * 53)))) 64))) x1,x1001))) else (none)) else (none)) else (none)) else (none))))
def spec_l6Rd_pick.f (k : Nat) (s0_0 : List Int) (s0_1 : Int) (a1 : Int) : Option (Int × Int) := if a1 < 1 then (spec_l6Rd_pick.j0 k a1 true s0_0 (wrap64 (s0_1 + 1))) else (spec_l6Rd_pick.j0 k a1 ((s0_0.length : Int) == 0) s0_0 (wrap64 (s0_1 + 1)))
theorem spec_l6Rd_pick.mono_l : ∀ k, (∀ y0 y1 y2 y3, LeO (spec_l6Rd_pick.j0 k y0 y1 y2 y3) (spec_l6Rd_pick.j0 (k + 1) y0 y1 y2 y3))
 | 0=>fun _ _ _ _ r h=>by simp [spec_l6Rd_pick.j0] at h
 | k+1=>by
  have ih0:=spec_l6Rd_pick.mono_l k
  ·intros
   unfold spec_l6Rd_pick.j0
   repeat' first
   | (with_reducible first|apply ih0|exact LeO.refl _|exact LeO.none _|refine LeO.ite ?_ ?_|refine LeO.bind ?_ (fun _=>?_))|exact LeO.none _|refine LeO.ite ?_ ?_|refine LeO.bind ?_ (fun _=>?_)
theorem spec_l6Rd_pick.mono : ∀ a0 a1 a2 k, LeO (spec_l6Rd_pick.f k a0 a1 a2) (spec_l6Rd_pick.f (k + 1) a0 a1 a2) := by
 intro a0 a1 a2 k;have ih0:=spec_l6Rd_pick.mono_l k
 unfold spec_l6Rd_pick.f
 repeat' first
   | (with_reducible first|apply ih0|exact LeO.refl _|exact LeO.none _|refine LeO.ite ?_ ?_|refine LeO.bind ?_ (fun _=>?_))|exact LeO.none _|refine LeO.ite ?_ ?_|refine LeO.bind ?_ (fun _=>?_)
set_option maxHeartbeats 8000000 in
set_option maxRecDepth 100000 in
theorem spec_l6Rd_pick.calls {k : Nat} {g : Nat} {s0_0 : List Int} {s0_1 : Int} {a1 : Int} {r1 : Int} {r2 : Int} {w0 w : World} (hI : IsS136 w0 w g s0_0 s0_1) (hB : Below w0.heap.size w0 w) (h : spec_l6Rd_pick.f k s0_0 s0_1 a1 = some (r1, r2)) :
  Calls Try.prog 111 #[.pointer (some ⟨g,0,none⟩),.int .i64 a1] w fun e w'=>e=.returned (.int .i64 r1)∧IsS136 w0 w' g s0_0 r2∧Below w0.heap.size w0 w'∧KeepBut w w' g none:=by
 have HI0:=mA hI;have HK:=mA (KeepBut.refl w g none);have HL:=mA hB.size;clear hI;have HW0:=mA hB.size;have HB:=mA hB;clear hB;have H:(if a1<1 then (spec_l6Rd_pick.j0 k a1 true s0_0 (wrap64 (s0_1+1))) else (spec_l6Rd_pick.j0 k a1 ((s0_0.length:Int) == 0) s0_0 (wrap64 (s0_1+1))))=some (r1,r2):=h;clear h;have HC3:=mA H;clear H;obtain ⟨ASz4_0,cSz4_0,HGz4,hgz4,HSz4_0⟩:=HI0.out;have hcz4_0:=cellS136_0 HGz4;have hcz4_1:=cellS136_1 HGz4;have hfz4_1:=blk_frozen HGz4 1;clear HGz4 hgz4
 go_enter Try.func111,Try.ntmps111
 go_upto_region 2 with (fail)
 repeat (go_quiet (fail);go_upto_region 2 with (fail))
 go_cut [24] (fun v24 wc=>∃ (kq:Nat) (x24_2:Bool),v24=.bool x24_2∧Aside0 (spec_l6Rd_pick.j0 kq a1 x24_2 s0_0 (wrap64 (s0_1+1))=some (r1,r2))∧Aside0 (kq≤k)∧Aside0 (IsS136 w0 wc g s0_0 (wrap64 (s0_1+1)))∧Aside0 (KeepBut w wc g none)∧Aside0 (Below w0.heap.size w0 wc))
 case first =>
  have H:=HC3.out;clear HC3
  by_cases c5:a1<1
  ·rw [if_pos c5] at H;have c5b0:decide (a1<1)=true:=decide_eq_true c5;clear c5
   (first|rw [c5b0]|(simp only [i64_w,i32_w];rw [c5b0])|skip)
   have H':=mA H;clear H
   go_wp2
   repeat (go_quiet (fail);try go_wp2)
   go_meet
   case rel=>exact ⟨_,(true),bZ,H',⟨by first|omega|exact Nat.le_refl _⟩,⟨IsS136.p HI0⟩,⟨pH HK⟩,⟨pQ HB (IsS136.ge HI0.out)⟩⟩
  ·rw [if_neg c5] at H;have c5b0:decide (a1<1)=false:=decide_eq_false c5;clear c5
   (first|rw [c5b0]|(simp only [i64_w,i32_w];rw [c5b0])|skip)
   have H':=mA H;clear H;obtain ⟨ASz6_0,cSz6_0,HGz6,hgz6,HSz6_0⟩:=HI0.out;have hcz6_0:=cellS136_0 HGz6;have hcz6_1:=cellS136_1 HGz6;have hfz6_1:=blk_frozen HGz6 1;clear HGz6 hgz6
   go_wp2
   repeat (go_quiet (fail);try go_wp2)
   go_meet
   case rel=>exact ⟨_,(((s0_0.length:Int) == 0)),bZ,H',⟨by first|omega|exact Nat.le_refl _⟩,⟨IsS136.p HI0⟩,⟨pH HK⟩,⟨pQ HB (IsS136.ge HI0.out)⟩⟩
 case rest =>
  clear HC3
  (try clear hcz4_0);(try clear hcz4_1);(try clear hfz4_1)
  obtain ⟨kq,x24_2,rfl,HA,HJ2,HI0,HK,HB⟩:=hcut
  cases kq with
  | zero=>exact absurd HA.out (by simp [spec_l6Rd_pick.j0])
  | succ kj2 =>
   have H:=HA.out;clear HA;simp only [spec_l6Rd_pick.j0] at H
   by_cases c7:x24_2=true
   ·subst c7;rw [if_pos rfl] at H;simp only [Option.some.injEq,Prod.mk.injEq] at H;obtain ⟨rfl,rfl⟩:=H
    go_wp2
    repeat (go_quiet (fail);try go_wp2)
    go_ret
    exact ⟨by first|rfl|(simp [errW_none,errW_some]<;>rfl)|(simp [*,errW_none,errW_some]<;>rfl),IsS136.p HI0,pQ HB (IsS136.ge HI0.out),pH HK⟩
   ·replace c7:=Bool.eq_false_iff.mpr c7;subst c7
    rw [if_neg nFT] at H
    by_cases c8:(wrap64 ((wrap64 (s0_1+1)) - 1))<(s0_0.length:Int)
    ·rw [if_pos c8] at H;have c8b0:decide ((wrap64 ((wrap64 (s0_1+1)) - 1))<(s0_0.length:Int))=true:=decide_eq_true c8;clear c8;obtain ⟨ji9,hji9⟩:∃ j_:Int,(wrap64 ((wrap64 (s0_1+1)) - 1))=j_:=⟨_,rfl⟩
     replace H:(if 0≤(ji9) then (if a1=0 then (none) else (some (Int.tmod (wrap64 (rd s0_0 (ji9))) a1,(wrap64 (s0_1+1))))) else (none))=some (r1,r2):=by first|(rw [hji9] at H;exact H)|(simp only [hji9] at H ⊢;exact H)
     (try rw [hji9] at c8b0)
     have hji9w:(IntKind.i64.wrap ((wrap64 (s0_1+1)) - 1))=ji9:=(i64_w _).trans hji9
     by_cases c10:0≤(ji9)
     ·rw [if_pos c10] at H;have c10b0:decide (0≤(ji9))=true:=decide_eq_true c10;clear c10
      by_cases c11:a1=0
      ·rw [if_pos c11] at H
       exact absurd H (by simp)
      ·rw [if_neg c11] at H;have c11b0:(a1 == 0)=false:=beq_eq_false_iff_ne.mpr c11;have c11b1:(a1 != 0)=true:=bne_iff_ne.mpr c11;simp only [Option.some.injEq,Prod.mk.injEq] at H;obtain ⟨rfl,rfl⟩:=H;obtain ⟨ASz12_0,cSz12_0,HGz12,hgz12,HSz12_0⟩:=HI0.out;have hcz12_0:=cellS136_0 HGz12;have hcz12_1:=cellS136_1 HGz12;have hfz12_1:=blk_frozen HGz12 1;clear HGz12 hgz12;have p101:0≤((ji9):Int):=of_decide_eq_true bA;have q101:(ji9)<(s0_0.length:Int):=of_decide_eq_true bA;obtain ⟨ad101,e101,hx101_0⟩:=Kd.at_int HSz12_0 (ji9) p101 q101;cases e101;replace hx101_0:=pw_cell_below HB.out hx101_0;replace p101:=eq_true p101;replace q101:=eq_true q101
       go_wp2
       repeat (go_quiet (fail);try go_wp2)
       go_ret
       exact ⟨by first|rfl|(simp [errW_none,errW_some]<;>rfl)|(simp only [← hji9];first|rfl|(simp [errW_none,errW_some]<;>rfl))|(simp [*,errW_none,errW_some]<;>rfl),IsS136.p HI0,pQ HB (IsS136.ge HI0.out),pH HK⟩
     ·rw [if_neg c10] at H
      exact absurd H (by simp)
    ·rw [if_neg c8] at H;have c8b0:decide ((wrap64 ((wrap64 (s0_1+1)) - 1))<(s0_0.length:Int))=false:=decide_eq_false c8;clear c8
     by_cases c13:(s0_0.length:Int)=0
     ·rw [if_pos c13] at H
      exact absurd H (by simp)
     ·rw [if_neg c13] at H;have c13b0:((s0_0.length:Int) == 0)=false:=beq_eq_false_iff_ne.mpr c13;have c13b1:((s0_0.length:Int) != 0)=true:=bne_iff_ne.mpr c13
      have c13b2:¬ (s0_0=[]):=fun h_=>c13 (by rw [h_];rfl)
      obtain ⟨ji14,hji14⟩:∃ j_:Int,(Int.tmod (wrap64 ((wrap64 (s0_1+1)) - 1)) (s0_0.length:Int))=j_:=⟨_,rfl⟩
      replace H:(if 0≤(ji14) then (if (ji14)<(s0_0.length:Int) then (if 0≤(Int.tmod (wrap64 ((wrap64 ((wrap64 ((wrap64 (s0_1+1)) - 1)) * 7))+3)) (s0_0.length:Int)) then (if (Int.tmod (wrap64 ((wrap64 ((wrap64 ((wrap64 (s0_1+1)) - 1)) * 7))+3)) (s0_0.length:Int))<(s0_0.length:Int) then (if a1=0 then (none) else (some (Int.tmod (Go.bits .xor .i64 (wrap64 ((wrap64 ((wrap64 ((wrap64 ((wrap64 (rd s0_0 (ji14))) * 131))+(wrap64 ((wrap64 (rd s0_0 (Int.tmod (wrap64 ((wrap64 ((wrap64 ((wrap64 (s0_1+1)) - 1)) * 7))+3)) (s0_0.length:Int)))) * 1117))))+(wrap64 ((wrap64 ((wrap64 (s0_1+1)) - 1)) * 29))))+(wrap64 ((wrap64 (Int.tdiv (wrap64 ((wrap64 (s0_1+1)) - 1)) (s0_0.length:Int))) * 53)))) (wrap64 (Int.tdiv (wrap64 ((wrap64 ((wrap64 ((wrap64 ((wrap64 (rd s0_0 (ji14))) * 131))+(wrap64 ((wrap64 (rd s0_0 (Int.tmod (wrap64 ((wrap64 ((wrap64 ((wrap64 (s0_1+1)) - 1)) * 7))+3)) (s0_0.length:Int)))) * 1117))))+(wrap64 ((wrap64 ((wrap64 (s0_1+1)) - 1)) * 29))))+(wrap64 ((wrap64 (Int.tdiv (wrap64 ((wrap64 (s0_1+1)) - 1)) (s0_0.length:Int))) * 53)))) 64))) a1,(wrap64 (s0_1+1))))) else (none)) else (none)) else (none)) else (none))=some (r1,r2):=by first|(rw [hji14] at H;exact H)|(simp only [hji14] at H ⊢;exact H)
      by_cases c15:0≤(ji14)
      ·rw [if_pos c15] at H;have c15b0:decide (0≤(ji14))=true:=decide_eq_true c15;clear c15
       by_cases c16:(ji14)<(s0_0.length:Int)
       ·rw [if_pos c16] at H;have c16b0:decide ((ji14)<(s0_0.length:Int))=true:=decide_eq_true c16;clear c16;obtain ⟨ji17,hji17⟩:∃ j_:Int,(Int.tmod (wrap64 ((wrap64 ((wrap64 ((wrap64 (s0_1+1)) - 1)) * 7))+3)) (s0_0.length:Int))=j_:=⟨_,rfl⟩
        replace H:(if 0≤(ji17) then (if (ji17)<(s0_0.length:Int) then (if a1=0 then (none) else (some (Int.tmod (Go.bits .xor .i64 (wrap64 ((wrap64 ((wrap64 ((wrap64 ((wrap64 (rd s0_0 (ji14))) * 131))+(wrap64 ((wrap64 (rd s0_0 (ji17))) * 1117))))+(wrap64 ((wrap64 ((wrap64 (s0_1+1)) - 1)) * 29))))+(wrap64 ((wrap64 (Int.tdiv (wrap64 ((wrap64 (s0_1+1)) - 1)) (s0_0.length:Int))) * 53)))) (wrap64 (Int.tdiv (wrap64 ((wrap64 ((wrap64 ((wrap64 ((wrap64 (rd s0_0 (ji14))) * 131))+(wrap64 ((wrap64 (rd s0_0 (ji17))) * 1117))))+(wrap64 ((wrap64 ((wrap64 (s0_1+1)) - 1)) * 29))))+(wrap64 ((wrap64 (Int.tdiv (wrap64 ((wrap64 (s0_1+1)) - 1)) (s0_0.length:Int))) * 53)))) 64))) a1,(wrap64 (s0_1+1))))) else (none)) else (none))=some (r1,r2):=by first|(rw [hji17] at H;exact H)|(simp only [hji17] at H ⊢;exact H)
        by_cases c18:0≤(ji17)
        ·rw [if_pos c18] at H;have c18b0:decide (0≤(ji17))=true:=decide_eq_true c18;clear c18
         by_cases c19:(ji17)<(s0_0.length:Int)
         ·rw [if_pos c19] at H;have c19b0:decide ((ji17)<(s0_0.length:Int))=true:=decide_eq_true c19;clear c19
          by_cases c20:a1=0
          ·rw [if_pos c20] at H
           exact absurd H (by simp)
          ·rw [if_neg c20] at H;have c20b0:(a1 == 0)=false:=beq_eq_false_iff_ne.mpr c20;have c20b1:(a1 != 0)=true:=bne_iff_ne.mpr c20;simp only [Option.some.injEq,Prod.mk.injEq] at H;obtain ⟨rfl,rfl⟩:=H;obtain ⟨ASz21_0,cSz21_0,HGz21,hgz21,HSz21_0⟩:=HI0.out;have hcz21_0:=cellS136_0 HGz21;have hcz21_1:=cellS136_1 HGz21;have hfz21_1:=blk_frozen HGz21 1;clear HGz21 hgz21;have p102:0≤((ji14):Int):=of_decide_eq_true bA;have q102:(ji14)<(s0_0.length:Int):=of_decide_eq_true bA;obtain ⟨ad102,e102,hx102_0⟩:=Kd.at_int HSz21_0 (ji14) p102 q102;cases e102;replace hx102_0:=pw_cell_below HB.out hx102_0;replace p102:=eq_true p102;replace q102:=eq_true q102;have p103:0≤((ji17):Int):=of_decide_eq_true bA;have q103:(ji17)<(s0_0.length:Int):=of_decide_eq_true bA;obtain ⟨ad103,e103,hx103_0⟩:=Kd.at_int HSz21_0 (ji17) p103 q103
           obtain rfl:ad102=ad103:=(by injection e103)
           replace hx103_0:=pw_cell_below HB.out hx103_0;replace p103:=eq_true p103;replace q103:=eq_true q103
           go_wp2
           repeat (go_quiet (fail);try go_wp2)
           go_ret
           exact ⟨by first|rfl|(simp [errW_none,errW_some]<;>rfl)|(simp only [← hji14,← hji17];first|rfl|(simp [errW_none,errW_some]<;>rfl))|(simp [*,errW_none,errW_some]<;>rfl),IsS136.p HI0,pQ HB (IsS136.ge HI0.out),pH HK⟩
         ·rw [if_neg c19] at H
          exact absurd H (by simp)
        ·rw [if_neg c18] at H
         exact absurd H (by simp)
       ·rw [if_neg c16] at H
        exact absurd H (by simp)
      ·rw [if_neg c15] at H
       exact absurd H (by simp)

/-! ### spec_l72Num: function 123 -/
def spec_l72Num.f (k : Nat) (s0_0 : List Int) (s0_1 : Int) : Option (Int × Int) := (spec_l6Rd_pick.f k s0_0 s0_1 200).bind fun bt104 => ((spec_l6Rd_pick.f k s0_0 bt104.2 30000).bind fun bt106 => ((some (([0, 1, 2, 3, wrap64 (bt104.1 - 1), 99999, 127, 126, 16383, bt106.1] : List Int) : List Int)).bind fun y108 => ((spec_l6Rd_pick.f k s0_0 bt106.2 10).bind fun bt111 => (if 0 ≤ bt111.1 then (if bt111.1 < (y108.length : Int) then (some (rd y108 bt111.1, bt111.2)) else (none)) else (none)))))
theorem spec_l72Num.mono : ∀ a0 a1 k, LeO (spec_l72Num.f k a0 a1) (spec_l72Num.f (k + 1) a0 a1) := by
 intro a0 a1 k
 unfold spec_l72Num.f
 repeat' first
   | (with_reducible first|apply spec_l6Rd_pick.mono|exact LeO.refl _|exact LeO.none _|refine LeO.ite ?_ ?_|refine LeO.bind ?_ (fun _=>?_))|exact LeO.none _|refine LeO.ite ?_ ?_|refine LeO.bind ?_ (fun _=>?_)
set_option maxHeartbeats 8000000 in
set_option maxRecDepth 100000 in
theorem spec_l72Num.calls {k : Nat} {g : Nat} {s0_0 : List Int} {s0_1 : Int} {r1 : Int} {r2 : Int} {w0 w : World} (hI : IsS136 w0 w g s0_0 s0_1) (hB : Below w0.heap.size w0 w) (h : spec_l72Num.f k s0_0 s0_1 = some (r1, r2)) :
  Calls Try.prog 123 #[.pointer (some ⟨g,0,none⟩)] w fun e w'=>e=.returned (.int .i64 r1)∧IsS136 w0 w' g s0_0 r2∧Below w0.heap.size w0 w'∧KeepBut w w' g none:=by
 have HI0:=mA hI;have HK:=mA (KeepBut.refl w g none);have HL:=mA hB.size;clear hI;have HW0:=mA hB.size;have HB:=mA hB;clear hB;have H:((spec_l6Rd_pick.f k s0_0 s0_1 200).bind fun bt104=>((spec_l6Rd_pick.f k s0_0 bt104.2 30000).bind fun bt106=>((some (([0,1,2,3,wrap64 (bt104.1 - 1),99999,127,126,16383,bt106.1]:List Int):List Int)).bind fun y108=>((spec_l6Rd_pick.f k s0_0 bt106.2 10).bind fun bt111=>(if 0≤bt111.1 then (if bt111.1<(y108.length:Int) then (some (rd y108 bt111.1,bt111.2)) else (none)) else (none))))))=some (r1,r2):=h;clear h;obtain ⟨⟨t104,t105⟩,A2,H⟩:=bI H;(try dsimp only at H);obtain ⟨⟨t106,t107⟩,A3,H⟩:=bI H;(try dsimp only at H);obtain ⟨y108,hy108⟩:∃ y_:List Int,y_=(([0,1,2,3,wrap64 (t104 - 1),99999,127,126,16383,t106]:List Int)):=⟨_,rfl⟩
 replace H:((spec_l6Rd_pick.f k s0_0 t107 10).bind fun bt111=>(if 0≤bt111.1 then (if bt111.1<(y108.length:Int) then (some (rd y108 bt111.1,bt111.2)) else (none)) else (none)))=some (r1,r2):=qH hy108 H
 have Ny108:=mA hy108;clear hy108;obtain ⟨⟨t111,t112⟩,A4,H⟩:=bI H;(try dsimp only at H)
 by_cases c5:0≤t111
 ·rw [if_pos c5] at H;have c5b0:decide (0≤t111)=true:=decide_eq_true c5;clear c5
  by_cases c6:t111<(y108.length:Int)
  ·rw [if_pos c6] at H;have c6b0:decide (t111<(y108.length:Int))=true:=decide_eq_true c6;clear c6;simp only [Option.some.injEq,Prod.mk.injEq] at H;obtain ⟨rfl,rfl⟩:=H
   go_enter Try.func123,Try.ntmps123
   go_wp2_with (first|((with_reducible refine gT 4 rfl ?_);refine gC (some 4) Try.func111 (spec_l6Rd_pick.calls (IsS136.p HI0) (pQ HB (IsS136.ge HI0.out)) A2.out) ?_;rintro e w7 ⟨rfl,hi,hb,hk⟩;refine ⟨_,rfl,?_⟩;replace HK:=mA (KeepBut.trans (pH HK) hk (.inl rfl));replace HB:=mA hb;replace HI0:=mA hi;(try clear hb);(try clear hk);(try clear hi))|((with_reducible refine gT 7 rfl ?_);refine gC (some 7) Try.func111 (spec_l6Rd_pick.calls (IsS136.p HI0) (pQ HB (IsS136.ge HI0.out)) A3.out) ?_;rintro e w8 ⟨rfl,hi,hb,hk⟩;refine ⟨_,rfl,?_⟩;replace HK:=mA (KeepBut.trans (pH HK) hk (.inl rfl));replace HB:=mA hb;replace HI0:=mA hi;(try clear hb);(try clear hk);(try clear hi))|((with_reducible refine gT 8 rfl ?_);refine Kd.R_lit (Kd.int .i64) _ 3 ?hg (N:=8) ?hd (xs:=([0,1,2,3,wrap64 (t104 - 1),99999,127,126,16383,t106]:List Int)) (inner:=[.int .i64 0,.int .i64 1,.int .i64 2,.int .i64 3,.int .i64 (wrap64 (t104 - 1)),.int .i64 99999,.int .i64 127,.int .i64 126,.int .i64 16383,.int .i64 t106]) (ok:=fun _=>True) (okp:=fun _=>True) ?hr ?hp (fun _ hk=>hk) trivial (Below.refl _ _) (Nat.le_refl _) (by simp) ?_;(case hd=>rfl);(case hg=>rfl);(case hr=>first|(go_simp;done)|(go_simp;rfl));(case hp=>exact (Reps.one (show Kd.M (Kd.int .i64) _ _ _ 0 [.int .i64 0] from rfl) (Reps.one (show Kd.M (Kd.int .i64) _ _ _ 1 [.int .i64 1] from rfl) (Reps.one (show Kd.M (Kd.int .i64) _ _ _ 2 [.int .i64 2] from rfl) (Reps.one (show Kd.M (Kd.int .i64) _ _ _ 3 [.int .i64 3] from rfl) (Reps.one (show Kd.M (Kd.int .i64) _ _ _ (wrap64 (t104 - 1)) [.int .i64 (wrap64 (t104 - 1))] from rfl) (Reps.one (show Kd.M (Kd.int .i64) _ _ _ 99999 [.int .i64 99999] from rfl) (Reps.one (show Kd.M (Kd.int .i64) _ _ _ 127 [.int .i64 127] from rfl) (Reps.one (show Kd.M (Kd.int .i64) _ _ _ 126 [.int .i64 126] from rfl) (Reps.one (show Kd.M (Kd.int .i64) _ _ _ 16383 [.int .i64 16383] from rfl) (Reps.one (show Kd.M (Kd.int .i64) _ _ _ t106 [.int .i64 t106] from rfl) (Reps.none _ _))))))))))));intro v109 w9 ho10 hb hg_ hnew_;clear hg_ hnew_;(first|rw [← Ny108.out] at ho10|(simp only [Int.reduceToNat] at ho10;rw [← Ny108.out] at ho10));have HO110:=mA (Kd.R_lower ho10 (kS HK));replace HK:=mA (KeepBut.trans (pH HK) (KeepBut.of_below hb g none) (.inl rfl));replace HB:=mA (below_step (pQ HB (IsS136.ge HI0.out)) hb);replace HI0:=mA (IsS136.below (IsS136.p HI0) hb);clear hb ho10)|((with_reducible refine gT 10 rfl ?_);refine gC (some 10) Try.func111 (spec_l6Rd_pick.calls (IsS136.p HI0) (pQ HB (IsS136.ge HI0.out)) A4.out) ?_;rintro e w11 ⟨rfl,hi,hb,hk⟩;refine ⟨_,rfl,?_⟩;replace HO110:=mA (rK (IsS136.apart (IsS136.p HI0) (pR HO110.out) aD) hk);replace HK:=mA (KeepBut.trans (pH HK) hk (.inl rfl));replace HB:=mA hb;replace HI0:=mA hi;(try clear hb);(try clear hk);(try clear hi);obtain ⟨Ao12,co12,rfl⟩:=Kd.R_slice HO110.out;have p113:0≤(t111:Int):=of_decide_eq_true bA;have q113:t111<(y108.length:Int):=of_decide_eq_true bA;obtain ⟨ad113,e113,hx113_0⟩:=Kd.at_int (Kd.R_reads' HO110.out).2.2 t111 p113 q113;cases e113;replace p113:=eq_true p113;replace q113:=eq_true q113))
   go_ret
   exact ⟨by first|rfl|(simp [errW_none,errW_some]<;>rfl)|(simp [*,errW_none,errW_some]<;>rfl),IsS136.p HI0,pQ HB (IsS136.ge HI0.out),pH HK⟩
  ·rw [if_neg c6] at H
   exact absurd H (by simp)
 ·rw [if_neg c5] at H
  exact absurd H (by simp)

/-! ### spec_l72Cmd: function 117 -/
def spec_l72Cmd.f (k : Nat) (s0_0 : List Int) (s0_1 : Int) : Option (Int × Int × Int × Int × Int × Int × Int × Int × Int × Int × Int) := (spec_l6Rd_pick.f k s0_0 s0_1 8).bind fun bt115 => ((spec_l6Rd_pick.f k s0_0 bt115.2 4).bind fun bt117 => ((spec_l6Rd_pick.f k s0_0 bt117.2 4).bind fun bt119 => ((spec_l6Rd_pick.f k s0_0 bt119.2 3).bind fun bt121 => ((spec_l6Rd_pick.f k s0_0 bt121.2 5).bind fun bt123 => ((spec_l6Rd_pick.f k s0_0 bt123.2 3).bind fun bt125 => ((spec_l6Rd_pick.f k s0_0 bt125.2 3).bind fun bt127 => ((spec_l6Rd_pick.f k s0_0 bt127.2 4).bind fun bt129 => ((spec_l6Rd_pick.f k s0_0 bt129.2 4).bind fun bt131 => ((spec_l6Rd_pick.f k s0_0 bt131.2 5).bind fun bt133 => ((spec_l6Rd_pick.f k s0_0 bt133.2 16).bind fun bt136 => (if bt136.1 = 0 then ((spec_l72Num.f k s0_0 bt136.2).bind fun bt138 => (some (bt115.1, bt117.1, wrap64 (1 + bt119.1), wrap64 (1 + bt121.1), bt138.1, bt125.1, bt127.1, wrap64 (1 + bt129.1), bt131.1, wrap64 (bt133.1 - 1), bt138.2))) else (if bt136.1 = 1 then ((some (([(-1), 8, 99] : List Int) : List Int)).bind fun y140 => ((spec_l6Rd_pick.f k s0_0 bt136.2 3).bind fun bt143 => (if 0 ≤ bt143.1 then (if bt143.1 < (y140.length : Int) then (some (rd y140 bt143.1, bt117.1, wrap64 (1 + bt119.1), wrap64 (1 + bt121.1), wrap64 (1 + bt123.1), bt125.1, bt127.1, wrap64 (1 + bt129.1), bt131.1, wrap64 (bt133.1 - 1), bt143.2)) else (none)) else (none)))) else (if bt136.1 = 2 then ((some (([(-2), 100000] : List Int) : List Int)).bind fun y146 => ((spec_l6Rd_pick.f k s0_0 bt136.2 2).bind fun bt149 => (if 0 ≤ bt149.1 then (if bt149.1 < (y146.length : Int) then (some (bt115.1, bt117.1, wrap64 (1 + bt119.1), wrap64 (1 + bt121.1), wrap64 (1 + bt123.1), bt125.1, bt127.1, rd y146 bt149.1, bt131.1, wrap64 (bt133.1 - 1), bt149.2)) else (none)) else (none)))) else (some (bt115.1, bt117.1, wrap64 (1 + bt119.1), wrap64 (1 + bt121.1), wrap64 (1 + bt123.1), bt125.1, bt127.1, wrap64 (1 + bt129.1), bt131.1, wrap64 (bt133.1 - 1), bt136.2)))))))))))))))
theorem spec_l72Cmd.mono : ∀ a0 a1 k, LeO (spec_l72Cmd.f k a0 a1) (spec_l72Cmd.f (k + 1) a0 a1) := by
 intro a0 a1 k
 unfold spec_l72Cmd.f
 repeat' first
   | (with_reducible first|apply spec_l6Rd_pick.mono|apply spec_l72Num.mono|exact LeO.refl _|exact LeO.none _|refine LeO.ite ?_ ?_|refine LeO.bind ?_ (fun _=>?_))|exact LeO.none _|refine LeO.ite ?_ ?_|refine LeO.bind ?_ (fun _=>?_)
set_option maxHeartbeats 8000000 in
set_option maxRecDepth 100000 in
theorem spec_l72Cmd.calls {k : Nat} {g : Nat} {s0_0 : List Int} {s0_1 : Int} {r1 : Int} {r2 : Int} {r3 : Int} {r4 : Int} {r5 : Int} {r6 : Int} {r7 : Int} {r8 : Int} {r9 : Int} {r10 : Int} {r11 : Int} {w0 w : World} (hI : IsS136 w0 w g s0_0 s0_1) (hB : Below w0.heap.size w0 w) (h : spec_l72Cmd.f k s0_0 s0_1 = some (r1, r2, r3, r4, r5, r6, r7, r8, r9, r10, r11)) :
  Calls Try.prog 117 #[.pointer (some ⟨g,0,none⟩)] w fun e w'=>e=.returned (.agg #[.int .i64 r1,.int .i64 r2,.int .i64 r3,.int .i64 r4,.int .i64 r5,.int .i64 r6,.int .i64 r7,.int .i64 r8,.int .i64 r9,.int .i64 r10])∧IsS136 w0 w' g s0_0 r11∧Below w0.heap.size w0 w'∧KeepBut w w' g none:=by
 have hu24:=Try.underlying24;have HI0:=mA hI;have HK:=mA (KeepBut.refl w g none);have HL:=mA hB.size;clear hI;have HW0:=mA hB.size;have HB:=mA hB;clear hB;have H:((spec_l6Rd_pick.f k s0_0 s0_1 8).bind fun bt115=>((spec_l6Rd_pick.f k s0_0 bt115.2 4).bind fun bt117=>((spec_l6Rd_pick.f k s0_0 bt117.2 4).bind fun bt119=>((spec_l6Rd_pick.f k s0_0 bt119.2 3).bind fun bt121=>((spec_l6Rd_pick.f k s0_0 bt121.2 5).bind fun bt123=>((spec_l6Rd_pick.f k s0_0 bt123.2 3).bind fun bt125=>((spec_l6Rd_pick.f k s0_0 bt125.2 3).bind fun bt127=>((spec_l6Rd_pick.f k s0_0 bt127.2 4).bind fun bt129=>((spec_l6Rd_pick.f k s0_0 bt129.2 4).bind fun bt131=>((spec_l6Rd_pick.f k s0_0 bt131.2 5).bind fun bt133=>((spec_l6Rd_pick.f k s0_0 bt133.2 16).bind fun bt136=>(if bt136.1=0 then ((spec_l72Num.f k s0_0 bt136.2).bind fun bt138=>(some (bt115.1,bt117.1,wrap64 (1+bt119.1),wrap64 (1+bt121.1),bt138.1,bt125.1,bt127.1,wrap64 (1+bt129.1),bt131.1,wrap64 (bt133.1 - 1),bt138.2))) else (if bt136.1=1 then ((some (([(-1),8,99]:List Int):List Int)).bind fun y140=>((spec_l6Rd_pick.f k s0_0 bt136.2 3).bind fun bt143=>(if 0≤bt143.1 then (if bt143.1<(y140.length:Int) then (some (rd y140 bt143.1,bt117.1,wrap64 (1+bt119.1),wrap64 (1+bt121.1),wrap64 (1+bt123.1),bt125.1,bt127.1,wrap64 (1+bt129.1),bt131.1,wrap64 (bt133.1 - 1),bt143.2)) else (none)) else (none)))) else (if bt136.1=2 then ((some (([(-2),100000]:List Int):List Int)).bind fun y146=>((spec_l6Rd_pick.f k s0_0 bt136.2 2).bind fun bt149=>(if 0≤bt149.1 then (if bt149.1<(y146.length:Int) then (some (bt115.1,bt117.1,wrap64 (1+bt119.1),wrap64 (1+bt121.1),wrap64 (1+bt123.1),bt125.1,bt127.1,rd y146 bt149.1,bt131.1,wrap64 (bt133.1 - 1),bt149.2)) else (none)) else (none)))) else (some (bt115.1,bt117.1,wrap64 (1+bt119.1),wrap64 (1+bt121.1),wrap64 (1+bt123.1),bt125.1,bt127.1,wrap64 (1+bt129.1),bt131.1,wrap64 (bt133.1 - 1),bt136.2))))))))))))))))=some (r1,r2,r3,r4,r5,r6,r7,r8,r9,r10,r11):=h;clear h;obtain ⟨⟨t115,t116⟩,A2,H⟩:=bI H;(try dsimp only at H);obtain ⟨⟨t117,t118⟩,A3,H⟩:=bI H;(try dsimp only at H);obtain ⟨⟨t119,t120⟩,A4,H⟩:=bI H;(try dsimp only at H);obtain ⟨⟨t121,t122⟩,A5,H⟩:=bI H;(try dsimp only at H);obtain ⟨⟨t123,t124⟩,A6,H⟩:=bI H;(try dsimp only at H);obtain ⟨⟨t125,t126⟩,A7,H⟩:=bI H;(try dsimp only at H);obtain ⟨⟨t127,t128⟩,A8,H⟩:=bI H;(try dsimp only at H);obtain ⟨⟨t129,t130⟩,A9,H⟩:=bI H;(try dsimp only at H);obtain ⟨⟨t131,t132⟩,A10,H⟩:=bI H;(try dsimp only at H);obtain ⟨⟨t133,t134⟩,A11,H⟩:=bI H;(try dsimp only at H);obtain ⟨⟨t136,t137⟩,A12,H⟩:=bI H;(try dsimp only at H)
 by_cases c13:t136=0
 ·rw [if_pos c13] at H;obtain ⟨c13b0,c13b1⟩:=eqB c13;clear c13;obtain ⟨⟨t138,t139⟩,A14,H⟩:=bI H;(try dsimp only at H);simp only [Option.some.injEq,Prod.mk.injEq] at H;obtain ⟨rfl,rfl,rfl,rfl,rfl,rfl,rfl,rfl,rfl,rfl,rfl⟩:=H
  go_enter Try.func117,Try.ntmps117
  go_wp2_with (first|((with_reducible refine gLg rfl (by assumption) ?_);refine ldV ?_)|((with_reducible refine gSt rfl (by assumption) ?_);refine stV ?_)|((with_reducible refine gT 2 rfl ?_);refine bE 2 #[.int .i64 0,.int .i64 0,.int .i64 0,.int .i64 0,.int .i64 0,.int .i64 0,.int .i64 0,.int .i64 0,.int .i64 0,.int .i64 0] 24 ?_;intro gb114 hg w15 hbox hb;replace HB:=mA (below_step (pQ HB (IsS136.ge HI0.out)) hb);have BK114:=mA hbox;have GW114:=mA (lG (kS HK) hg);have GE114:=mA (Nat.le_trans HW0.out (lG (kS HK) hg));replace HK:=mA (KeepBut.trans (pH HK) (KeepBut.of_below hb g none) (.inl rfl));have NB0_114:=mA (lN (IsS136.lt (show IsS136 w0 _ g s0_0 s0_1 from IsS136.p HI0)) hg);have NB114_0:=nS NB0_114;replace HI0:=mA (IsS136.below (IsS136.p HI0) hb);clear hb hbox hg)|((with_reducible refine gT 5 rfl ?_);refine gC (some 5) Try.func111 (spec_l6Rd_pick.calls (IsS136.p HI0) (pQ HB (IsS136.ge HI0.out)) A2.out) ?_;rintro e w16 ⟨rfl,hi,hb,hk⟩;refine ⟨_,rfl,?_⟩;replace BK114:=mA (kB hk (pK BK114.out) NB114_0);replace HK:=mA (KeepBut.trans (pH HK) hk (.inl rfl));replace HB:=mA hb;replace HI0:=mA hi;(try clear hb);(try clear hk);(try clear hi))|((with_reducible refine gT 7 rfl ?_);refine gC (some 7) Try.func111 (spec_l6Rd_pick.calls (IsS136.p HI0) (pQ HB (IsS136.ge HI0.out)) A3.out) ?_;rintro e w17 ⟨rfl,hi,hb,hk⟩;refine ⟨_,rfl,?_⟩;replace BK114:=mA (kB hk (pK BK114.out) NB114_0);replace HK:=mA (KeepBut.trans (pH HK) hk (.inl rfl));replace HB:=mA hb;replace HI0:=mA hi;(try clear hb);(try clear hk);(try clear hi))|((with_reducible refine gT 9 rfl ?_);refine gC (some 9) Try.func111 (spec_l6Rd_pick.calls (IsS136.p HI0) (pQ HB (IsS136.ge HI0.out)) A4.out) ?_;rintro e w18 ⟨rfl,hi,hb,hk⟩;refine ⟨_,rfl,?_⟩;replace BK114:=mA (kB hk (pK BK114.out) NB114_0);replace HK:=mA (KeepBut.trans (pH HK) hk (.inl rfl));replace HB:=mA hb;replace HI0:=mA hi;(try clear hb);(try clear hk);(try clear hi))|((with_reducible refine gT 12 rfl ?_);refine gC (some 12) Try.func111 (spec_l6Rd_pick.calls (IsS136.p HI0) (pQ HB (IsS136.ge HI0.out)) A5.out) ?_;rintro e w19 ⟨rfl,hi,hb,hk⟩;refine ⟨_,rfl,?_⟩;replace BK114:=mA (kB hk (pK BK114.out) NB114_0);replace HK:=mA (KeepBut.trans (pH HK) hk (.inl rfl));replace HB:=mA hb;replace HI0:=mA hi;(try clear hb);(try clear hk);(try clear hi))|((with_reducible refine gT 15 rfl ?_);refine gC (some 15) Try.func111 (spec_l6Rd_pick.calls (IsS136.p HI0) (pQ HB (IsS136.ge HI0.out)) A6.out) ?_;rintro e w20 ⟨rfl,hi,hb,hk⟩;refine ⟨_,rfl,?_⟩;replace BK114:=mA (kB hk (pK BK114.out) NB114_0);replace HK:=mA (KeepBut.trans (pH HK) hk (.inl rfl));replace HB:=mA hb;replace HI0:=mA hi;(try clear hb);(try clear hk);(try clear hi))|((with_reducible refine gT 18 rfl ?_);refine gC (some 18) Try.func111 (spec_l6Rd_pick.calls (IsS136.p HI0) (pQ HB (IsS136.ge HI0.out)) A7.out) ?_;rintro e w21 ⟨rfl,hi,hb,hk⟩;refine ⟨_,rfl,?_⟩;replace BK114:=mA (kB hk (pK BK114.out) NB114_0);replace HK:=mA (KeepBut.trans (pH HK) hk (.inl rfl));replace HB:=mA hb;replace HI0:=mA hi;(try clear hb);(try clear hk);(try clear hi))|((with_reducible refine gT 20 rfl ?_);refine gC (some 20) Try.func111 (spec_l6Rd_pick.calls (IsS136.p HI0) (pQ HB (IsS136.ge HI0.out)) A8.out) ?_;rintro e w22 ⟨rfl,hi,hb,hk⟩;refine ⟨_,rfl,?_⟩;replace BK114:=mA (kB hk (pK BK114.out) NB114_0);replace HK:=mA (KeepBut.trans (pH HK) hk (.inl rfl));replace HB:=mA hb;replace HI0:=mA hi;(try clear hb);(try clear hk);(try clear hi))|((with_reducible refine gT 22 rfl ?_);refine gC (some 22) Try.func111 (spec_l6Rd_pick.calls (IsS136.p HI0) (pQ HB (IsS136.ge HI0.out)) A9.out) ?_;rintro e w23 ⟨rfl,hi,hb,hk⟩;refine ⟨_,rfl,?_⟩;replace BK114:=mA (kB hk (pK BK114.out) NB114_0);replace HK:=mA (KeepBut.trans (pH HK) hk (.inl rfl));replace HB:=mA hb;replace HI0:=mA hi;(try clear hb);(try clear hk);(try clear hi))|((with_reducible refine gT 25 rfl ?_);refine gC (some 25) Try.func111 (spec_l6Rd_pick.calls (IsS136.p HI0) (pQ HB (IsS136.ge HI0.out)) A10.out) ?_;rintro e w24 ⟨rfl,hi,hb,hk⟩;refine ⟨_,rfl,?_⟩;replace BK114:=mA (kB hk (pK BK114.out) NB114_0);replace HK:=mA (KeepBut.trans (pH HK) hk (.inl rfl));replace HB:=mA hb;replace HI0:=mA hi;(try clear hb);(try clear hk);(try clear hi))|((with_reducible refine gT 27 rfl ?_);refine gC (some 27) Try.func111 (spec_l6Rd_pick.calls (IsS136.p HI0) (pQ HB (IsS136.ge HI0.out)) A11.out) ?_;rintro e w25 ⟨rfl,hi,hb,hk⟩;refine ⟨_,rfl,?_⟩;replace BK114:=mA (kB hk (pK BK114.out) NB114_0);replace HK:=mA (KeepBut.trans (pH HK) hk (.inl rfl));replace HB:=mA hb;replace HI0:=mA hi;(try clear hb);(try clear hk);(try clear hi))|((with_reducible refine gT 3 rfl ?_);refine bE 3 #[.int .i64 0,.int .i64 0,.int .i64 0,.int .i64 0,.int .i64 0,.int .i64 0,.int .i64 0,.int .i64 0,.int .i64 0,.int .i64 0] 24 ?_;intro gb135 hg w26 hbox hb;replace HB:=mA (below_step (pQ HB (IsS136.ge HI0.out)) hb);have BK135:=mA hbox;have GW135:=mA (lG (kS HK) hg);have GE135:=mA (Nat.le_trans HW0.out (lG (kS HK) hg));replace HK:=mA (KeepBut.trans (pH HK) (KeepBut.of_below hb g none) (.inl rfl));have NB114_135:=mA (lN (blk_lt (pK BK114.out)) hg);have NB135_114:=nS NB114_135;replace BK114:=bK BK114 hb;have NB0_135:=mA (lN (IsS136.lt (show IsS136 w0 _ g s0_0 t134 from IsS136.p HI0)) hg);have NB135_0:=nS NB0_135;replace HI0:=mA (IsS136.below (IsS136.p HI0) hb);clear hb hbox hg;have hnb27:=NB135_114.out;have hnc27:=NB114_135.out;have hnb28:=NB135_0.out;have hnc28:=NB0_135.out;have hcz29_0:=fun i_=>blk_cell BK135.out i_;have hfz29_0:=fun i_=>blk_frozen BK135.out i_)|((with_reducible refine gT 31 rfl ?_);refine gC (some 31) Try.func111 (spec_l6Rd_pick.calls (IsS136.p HI0) (pQ HB (IsS136.ge HI0.out)) A12.out) ?_;rintro e w30 ⟨rfl,hi,hb,hk⟩;refine ⟨_,rfl,?_⟩;replace BK114:=mA (kB hk (pF BK114.out) NB114_0);replace BK135:=mA (kP hk #[.int .i64 t115,.int .i64 t117,.int .i64 (wrap64 (1+t119)),.int .i64 (wrap64 (1+t121)),.int .i64 (wrap64 (1+t123)),.int .i64 t125,.int .i64 t127,.int .i64 (wrap64 (1+t129)),.int .i64 t131,.int .i64 (wrap64 (t133 - 1))] BK135 NB135_0);replace HK:=mA (KeepBut.trans (pH HK) hk (.inl rfl));replace HB:=mA hb;replace HI0:=mA hi;(try clear hb);(try clear hk);(try clear hi))|((with_reducible refine gT 35 rfl ?_);refine gC (some 35) Try.func123 (spec_l72Num.calls (IsS136.p HI0) (pQ HB (IsS136.ge HI0.out)) A14.out) ?_;rintro e w31 ⟨rfl,hi,hb,hk⟩;refine ⟨_,rfl,?_⟩;replace BK114:=mA (kB hk (pK BK114.out) NB114_0);replace BK135:=mA (kB hk (pK BK135.out) NB135_0);replace HK:=mA (KeepBut.trans (pH HK) hk (.inl rfl));replace HB:=mA hb;replace HI0:=mA hi;(try clear hb);(try clear hk);(try clear hi);have hcz32_0:=fun i_=>blk_cell BK135.out i_;have hfz32_0:=fun i_=>blk_frozen BK135.out i_;have hnb33:=NB114_0.out;have hnc33:=NB0_114.out;have hcz34_0:=fun i_=>blk_cell BK114.out i_;have hfz34_0:=fun i_=>blk_frozen BK114.out i_))
  refine bodyPost_ret (results_cell_row rfl _ _ gb114 24 #[.int .i64 t115,.int .i64 t117,.int .i64 (wrap64 (1+t119)),.int .i64 (wrap64 (1+t121)),.int .i64 t138,.int .i64 t125,.int .i64 t127,.int .i64 (wrap64 (1+t129)),.int .i64 t131,.int .i64 (wrap64 (t133 - 1))] (0,0) _ rfl (pP BK114) Try.underlying24 rfl aK) rfl ?_
  exact ⟨by first|rfl|(simp [errW_none,errW_some]<;>rfl)|(simp [*,errW_none,errW_some]<;>rfl),IsS136.p HI0,pQ HB (IsS136.ge HI0.out),pH HK⟩
 ·rw [if_neg c13] at H;have c13b0:(t136 == 0)=false:=beq_eq_false_iff_ne.mpr c13;have c13b1:(t136 != 0)=true:=bne_iff_ne.mpr c13
  by_cases c35:t136=1
  ·rw [if_pos c35] at H;obtain ⟨c35b0,c35b1⟩:=eqB c35;clear c35;obtain ⟨y140,hy140⟩:∃ y_:List Int,y_=(([(-1),8,99]:List Int)):=⟨_,rfl⟩
   replace H:((spec_l6Rd_pick.f k s0_0 t137 3).bind fun bt143=>(if 0≤bt143.1 then (if bt143.1<(y140.length:Int) then (some (rd y140 bt143.1,t117,wrap64 (1+t119),wrap64 (1+t121),wrap64 (1+t123),t125,t127,wrap64 (1+t129),t131,wrap64 (t133 - 1),bt143.2)) else (none)) else (none)))=some (r1,r2,r3,r4,r5,r6,r7,r8,r9,r10,r11):=qH hy140 H
   have Ny140:=mA hy140;clear hy140;obtain ⟨⟨t143,t144⟩,A36,H⟩:=bI H;(try dsimp only at H)
   by_cases c37:0≤t143
   ·rw [if_pos c37] at H;have c37b0:decide (0≤t143)=true:=decide_eq_true c37;clear c37
    by_cases c38:t143<(y140.length:Int)
    ·rw [if_pos c38] at H;have c38b0:decide (t143<(y140.length:Int))=true:=decide_eq_true c38;clear c38;simp only [Option.some.injEq,Prod.mk.injEq] at H;obtain ⟨rfl,rfl,rfl,rfl,rfl,rfl,rfl,rfl,rfl,rfl,rfl⟩:=H
     go_enter Try.func117,Try.ntmps117
     go_wp2_with (first|((with_reducible refine gLg rfl (by assumption) ?_);refine ldV ?_)|((with_reducible refine gSt rfl (by assumption) ?_);refine stV ?_)|((with_reducible refine gT 2 rfl ?_);refine bE 2 #[.int .i64 0,.int .i64 0,.int .i64 0,.int .i64 0,.int .i64 0,.int .i64 0,.int .i64 0,.int .i64 0,.int .i64 0,.int .i64 0] 24 ?_;intro gb114 hg w39 hbox hb;replace HB:=mA (below_step (pQ HB (IsS136.ge HI0.out)) hb);have BK114:=mA hbox;have GW114:=mA (lG (kS HK) hg);have GE114:=mA (Nat.le_trans HW0.out (lG (kS HK) hg));replace HK:=mA (KeepBut.trans (pH HK) (KeepBut.of_below hb g none) (.inl rfl));have NB0_114:=mA (lN (IsS136.lt (show IsS136 w0 _ g s0_0 s0_1 from IsS136.p HI0)) hg);have NB114_0:=nS NB0_114;replace HI0:=mA (IsS136.below (IsS136.p HI0) hb);clear hb hbox hg)|((with_reducible refine gT 5 rfl ?_);refine gC (some 5) Try.func111 (spec_l6Rd_pick.calls (IsS136.p HI0) (pQ HB (IsS136.ge HI0.out)) A2.out) ?_;rintro e w40 ⟨rfl,hi,hb,hk⟩;refine ⟨_,rfl,?_⟩;replace BK114:=mA (kB hk (pK BK114.out) NB114_0);replace HK:=mA (KeepBut.trans (pH HK) hk (.inl rfl));replace HB:=mA hb;replace HI0:=mA hi;(try clear hb);(try clear hk);(try clear hi))|((with_reducible refine gT 7 rfl ?_);refine gC (some 7) Try.func111 (spec_l6Rd_pick.calls (IsS136.p HI0) (pQ HB (IsS136.ge HI0.out)) A3.out) ?_;rintro e w41 ⟨rfl,hi,hb,hk⟩;refine ⟨_,rfl,?_⟩;replace BK114:=mA (kB hk (pK BK114.out) NB114_0);replace HK:=mA (KeepBut.trans (pH HK) hk (.inl rfl));replace HB:=mA hb;replace HI0:=mA hi;(try clear hb);(try clear hk);(try clear hi))|((with_reducible refine gT 9 rfl ?_);refine gC (some 9) Try.func111 (spec_l6Rd_pick.calls (IsS136.p HI0) (pQ HB (IsS136.ge HI0.out)) A4.out) ?_;rintro e w42 ⟨rfl,hi,hb,hk⟩;refine ⟨_,rfl,?_⟩;replace BK114:=mA (kB hk (pK BK114.out) NB114_0);replace HK:=mA (KeepBut.trans (pH HK) hk (.inl rfl));replace HB:=mA hb;replace HI0:=mA hi;(try clear hb);(try clear hk);(try clear hi))|((with_reducible refine gT 12 rfl ?_);refine gC (some 12) Try.func111 (spec_l6Rd_pick.calls (IsS136.p HI0) (pQ HB (IsS136.ge HI0.out)) A5.out) ?_;rintro e w43 ⟨rfl,hi,hb,hk⟩;refine ⟨_,rfl,?_⟩;replace BK114:=mA (kB hk (pK BK114.out) NB114_0);replace HK:=mA (KeepBut.trans (pH HK) hk (.inl rfl));replace HB:=mA hb;replace HI0:=mA hi;(try clear hb);(try clear hk);(try clear hi))|((with_reducible refine gT 15 rfl ?_);refine gC (some 15) Try.func111 (spec_l6Rd_pick.calls (IsS136.p HI0) (pQ HB (IsS136.ge HI0.out)) A6.out) ?_;rintro e w44 ⟨rfl,hi,hb,hk⟩;refine ⟨_,rfl,?_⟩;replace BK114:=mA (kB hk (pK BK114.out) NB114_0);replace HK:=mA (KeepBut.trans (pH HK) hk (.inl rfl));replace HB:=mA hb;replace HI0:=mA hi;(try clear hb);(try clear hk);(try clear hi))|((with_reducible refine gT 18 rfl ?_);refine gC (some 18) Try.func111 (spec_l6Rd_pick.calls (IsS136.p HI0) (pQ HB (IsS136.ge HI0.out)) A7.out) ?_;rintro e w45 ⟨rfl,hi,hb,hk⟩;refine ⟨_,rfl,?_⟩;replace BK114:=mA (kB hk (pK BK114.out) NB114_0);replace HK:=mA (KeepBut.trans (pH HK) hk (.inl rfl));replace HB:=mA hb;replace HI0:=mA hi;(try clear hb);(try clear hk);(try clear hi))|((with_reducible refine gT 20 rfl ?_);refine gC (some 20) Try.func111 (spec_l6Rd_pick.calls (IsS136.p HI0) (pQ HB (IsS136.ge HI0.out)) A8.out) ?_;rintro e w46 ⟨rfl,hi,hb,hk⟩;refine ⟨_,rfl,?_⟩;replace BK114:=mA (kB hk (pK BK114.out) NB114_0);replace HK:=mA (KeepBut.trans (pH HK) hk (.inl rfl));replace HB:=mA hb;replace HI0:=mA hi;(try clear hb);(try clear hk);(try clear hi))|((with_reducible refine gT 22 rfl ?_);refine gC (some 22) Try.func111 (spec_l6Rd_pick.calls (IsS136.p HI0) (pQ HB (IsS136.ge HI0.out)) A9.out) ?_;rintro e w47 ⟨rfl,hi,hb,hk⟩;refine ⟨_,rfl,?_⟩;replace BK114:=mA (kB hk (pK BK114.out) NB114_0);replace HK:=mA (KeepBut.trans (pH HK) hk (.inl rfl));replace HB:=mA hb;replace HI0:=mA hi;(try clear hb);(try clear hk);(try clear hi))|((with_reducible refine gT 25 rfl ?_);refine gC (some 25) Try.func111 (spec_l6Rd_pick.calls (IsS136.p HI0) (pQ HB (IsS136.ge HI0.out)) A10.out) ?_;rintro e w48 ⟨rfl,hi,hb,hk⟩;refine ⟨_,rfl,?_⟩;replace BK114:=mA (kB hk (pK BK114.out) NB114_0);replace HK:=mA (KeepBut.trans (pH HK) hk (.inl rfl));replace HB:=mA hb;replace HI0:=mA hi;(try clear hb);(try clear hk);(try clear hi))|((with_reducible refine gT 27 rfl ?_);refine gC (some 27) Try.func111 (spec_l6Rd_pick.calls (IsS136.p HI0) (pQ HB (IsS136.ge HI0.out)) A11.out) ?_;rintro e w49 ⟨rfl,hi,hb,hk⟩;refine ⟨_,rfl,?_⟩;replace BK114:=mA (kB hk (pK BK114.out) NB114_0);replace HK:=mA (KeepBut.trans (pH HK) hk (.inl rfl));replace HB:=mA hb;replace HI0:=mA hi;(try clear hb);(try clear hk);(try clear hi))|((with_reducible refine gT 3 rfl ?_);refine bE 3 #[.int .i64 0,.int .i64 0,.int .i64 0,.int .i64 0,.int .i64 0,.int .i64 0,.int .i64 0,.int .i64 0,.int .i64 0,.int .i64 0] 24 ?_;intro gb135 hg w50 hbox hb;replace HB:=mA (below_step (pQ HB (IsS136.ge HI0.out)) hb);have BK135:=mA hbox;have GW135:=mA (lG (kS HK) hg);have GE135:=mA (Nat.le_trans HW0.out (lG (kS HK) hg));replace HK:=mA (KeepBut.trans (pH HK) (KeepBut.of_below hb g none) (.inl rfl));have NB114_135:=mA (lN (blk_lt (pK BK114.out)) hg);have NB135_114:=nS NB114_135;replace BK114:=bK BK114 hb;have NB0_135:=mA (lN (IsS136.lt (show IsS136 w0 _ g s0_0 t134 from IsS136.p HI0)) hg);have NB135_0:=nS NB0_135;replace HI0:=mA (IsS136.below (IsS136.p HI0) hb);clear hb hbox hg;have hnb51:=NB135_114.out;have hnc51:=NB114_135.out;have hnb52:=NB135_0.out;have hnc52:=NB0_135.out;have hcz53_0:=fun i_=>blk_cell BK135.out i_;have hfz53_0:=fun i_=>blk_frozen BK135.out i_)|((with_reducible refine gT 31 rfl ?_);refine gC (some 31) Try.func111 (spec_l6Rd_pick.calls (IsS136.p HI0) (pQ HB (IsS136.ge HI0.out)) A12.out) ?_;rintro e w54 ⟨rfl,hi,hb,hk⟩;refine ⟨_,rfl,?_⟩;replace BK114:=mA (kB hk (pF BK114.out) NB114_0);replace BK135:=mA (kP hk #[.int .i64 t115,.int .i64 t117,.int .i64 (wrap64 (1+t119)),.int .i64 (wrap64 (1+t121)),.int .i64 (wrap64 (1+t123)),.int .i64 t125,.int .i64 t127,.int .i64 (wrap64 (1+t129)),.int .i64 t131,.int .i64 (wrap64 (t133 - 1))] BK135 NB135_0);replace HK:=mA (KeepBut.trans (pH HK) hk (.inl rfl));replace HB:=mA hb;replace HI0:=mA hi;(try clear hb);(try clear hk);(try clear hi))|((with_reducible refine gT 39 rfl ?_);refine Kd.R_lit (Kd.int .i64) _ 3 ?hg (N:=39) ?hd (xs:=([(-1),8,99]:List Int)) (inner:=[.int .i64 (-1),.int .i64 8,.int .i64 99]) (ok:=fun _=>True) (okp:=fun _=>True) ?hr ?hp (fun _ hk=>hk) trivial (Below.refl _ _) (Nat.le_refl _) (by simp) ?_;(case hd=>rfl);(case hg=>rfl);(case hr=>first|(go_simp;done)|(go_simp;rfl));(case hp=>exact (Reps.one (show Kd.M (Kd.int .i64) _ _ _ (-1) [.int .i64 (-1)] from rfl) (Reps.one (show Kd.M (Kd.int .i64) _ _ _ 8 [.int .i64 8] from rfl) (Reps.one (show Kd.M (Kd.int .i64) _ _ _ 99 [.int .i64 99] from rfl) (Reps.none _ _)))));intro v141 w55 ho56 hb hg_ hnew_;clear hg_ hnew_;(first|rw [← Ny140.out] at ho56|(simp only [Int.reduceToNat] at ho56;rw [← Ny140.out] at ho56));have HO142:=mA (Kd.R_lower ho56 (kS HK));replace BK114:=bK BK114 hb;replace BK135:=bK BK135 hb;replace HK:=mA (KeepBut.trans (pH HK) (KeepBut.of_below hb g none) (.inl rfl));replace HB:=mA (below_step (pQ HB (IsS136.ge HI0.out)) hb);replace HI0:=mA (IsS136.below (IsS136.p HI0) hb);clear hb ho56)|((with_reducible refine gT 41 rfl ?_);refine gC (some 41) Try.func111 (spec_l6Rd_pick.calls (IsS136.p HI0) (pQ HB (IsS136.ge HI0.out)) A36.out) ?_;rintro e w57 ⟨rfl,hi,hb,hk⟩;refine ⟨_,rfl,?_⟩;replace HO142:=mA (rK (IsS136.apart (IsS136.p HI0) (pR HO142.out) aD) hk);replace BK114:=mA (kB hk (pK BK114.out) NB114_0);replace BK135:=mA (kB hk (pK BK135.out) NB135_0);replace HK:=mA (KeepBut.trans (pH HK) hk (.inl rfl));replace HB:=mA hb;replace HI0:=mA hi;(try clear hb);(try clear hk);(try clear hi);obtain ⟨Ao58,co58,rfl⟩:=Kd.R_slice HO142.out;have p145:0≤(t143:Int):=of_decide_eq_true bA;have q145:t143<(y140.length:Int):=of_decide_eq_true bA;obtain ⟨ad145,e145,hx145_0⟩:=Kd.at_int (Kd.R_reads' HO142.out).2.2 t143 p145 q145;cases e145;replace p145:=eq_true p145;replace q145:=eq_true q145;have hcz59_0:=fun i_=>blk_cell BK135.out i_;have hfz59_0:=fun i_=>blk_frozen BK135.out i_;have hnb60:=NB114_0.out;have hnc60:=NB0_114.out;have hcz61_0:=fun i_=>blk_cell BK114.out i_;have hfz61_0:=fun i_=>blk_frozen BK114.out i_))
     refine bodyPost_ret (results_cell_row rfl _ _ gb114 24 #[.int .i64 (rd y140 t143),.int .i64 t117,.int .i64 (wrap64 (1+t119)),.int .i64 (wrap64 (1+t121)),.int .i64 (wrap64 (1+t123)),.int .i64 t125,.int .i64 t127,.int .i64 (wrap64 (1+t129)),.int .i64 t131,.int .i64 (wrap64 (t133 - 1))] (0,0) _ rfl (pP BK114) Try.underlying24 rfl aK) rfl ?_
     exact ⟨by first|rfl|(simp [errW_none,errW_some]<;>rfl)|(simp [*,errW_none,errW_some]<;>rfl),IsS136.p HI0,pQ HB (IsS136.ge HI0.out),pH HK⟩
    ·rw [if_neg c38] at H
     exact absurd H (by simp)
   ·rw [if_neg c37] at H
    exact absurd H (by simp)
  ·rw [if_neg c35] at H;have c35b0:(t136 == 1)=false:=beq_eq_false_iff_ne.mpr c35;have c35b1:(t136 != 1)=true:=bne_iff_ne.mpr c35
   by_cases c62:t136=2
   ·rw [if_pos c62] at H;obtain ⟨c62b0,c62b1⟩:=eqB c62;clear c62;obtain ⟨y146,hy146⟩:∃ y_:List Int,y_=(([(-2),100000]:List Int)):=⟨_,rfl⟩
    replace H:((spec_l6Rd_pick.f k s0_0 t137 2).bind fun bt149=>(if 0≤bt149.1 then (if bt149.1<(y146.length:Int) then (some (t115,t117,wrap64 (1+t119),wrap64 (1+t121),wrap64 (1+t123),t125,t127,rd y146 bt149.1,t131,wrap64 (t133 - 1),bt149.2)) else (none)) else (none)))=some (r1,r2,r3,r4,r5,r6,r7,r8,r9,r10,r11):=qH hy146 H
    have Ny146:=mA hy146;clear hy146;obtain ⟨⟨t149,t150⟩,A63,H⟩:=bI H;(try dsimp only at H)
    by_cases c64:0≤t149
    ·rw [if_pos c64] at H;have c64b0:decide (0≤t149)=true:=decide_eq_true c64;clear c64
     by_cases c65:t149<(y146.length:Int)
     ·rw [if_pos c65] at H;have c65b0:decide (t149<(y146.length:Int))=true:=decide_eq_true c65;clear c65;simp only [Option.some.injEq,Prod.mk.injEq] at H;obtain ⟨rfl,rfl,rfl,rfl,rfl,rfl,rfl,rfl,rfl,rfl,rfl⟩:=H
      go_enter Try.func117,Try.ntmps117
      go_wp2_with (first|((with_reducible refine gLg rfl (by assumption) ?_);refine ldV ?_)|((with_reducible refine gSt rfl (by assumption) ?_);refine stV ?_)|((with_reducible refine gT 2 rfl ?_);refine bE 2 #[.int .i64 0,.int .i64 0,.int .i64 0,.int .i64 0,.int .i64 0,.int .i64 0,.int .i64 0,.int .i64 0,.int .i64 0,.int .i64 0] 24 ?_;intro gb114 hg w66 hbox hb;replace HB:=mA (below_step (pQ HB (IsS136.ge HI0.out)) hb);have BK114:=mA hbox;have GW114:=mA (lG (kS HK) hg);have GE114:=mA (Nat.le_trans HW0.out (lG (kS HK) hg));replace HK:=mA (KeepBut.trans (pH HK) (KeepBut.of_below hb g none) (.inl rfl));have NB0_114:=mA (lN (IsS136.lt (show IsS136 w0 _ g s0_0 s0_1 from IsS136.p HI0)) hg);have NB114_0:=nS NB0_114;replace HI0:=mA (IsS136.below (IsS136.p HI0) hb);clear hb hbox hg)|((with_reducible refine gT 5 rfl ?_);refine gC (some 5) Try.func111 (spec_l6Rd_pick.calls (IsS136.p HI0) (pQ HB (IsS136.ge HI0.out)) A2.out) ?_;rintro e w67 ⟨rfl,hi,hb,hk⟩;refine ⟨_,rfl,?_⟩;replace BK114:=mA (kB hk (pK BK114.out) NB114_0);replace HK:=mA (KeepBut.trans (pH HK) hk (.inl rfl));replace HB:=mA hb;replace HI0:=mA hi;(try clear hb);(try clear hk);(try clear hi))|((with_reducible refine gT 7 rfl ?_);refine gC (some 7) Try.func111 (spec_l6Rd_pick.calls (IsS136.p HI0) (pQ HB (IsS136.ge HI0.out)) A3.out) ?_;rintro e w68 ⟨rfl,hi,hb,hk⟩;refine ⟨_,rfl,?_⟩;replace BK114:=mA (kB hk (pK BK114.out) NB114_0);replace HK:=mA (KeepBut.trans (pH HK) hk (.inl rfl));replace HB:=mA hb;replace HI0:=mA hi;(try clear hb);(try clear hk);(try clear hi))|((with_reducible refine gT 9 rfl ?_);refine gC (some 9) Try.func111 (spec_l6Rd_pick.calls (IsS136.p HI0) (pQ HB (IsS136.ge HI0.out)) A4.out) ?_;rintro e w69 ⟨rfl,hi,hb,hk⟩;refine ⟨_,rfl,?_⟩;replace BK114:=mA (kB hk (pK BK114.out) NB114_0);replace HK:=mA (KeepBut.trans (pH HK) hk (.inl rfl));replace HB:=mA hb;replace HI0:=mA hi;(try clear hb);(try clear hk);(try clear hi))|((with_reducible refine gT 12 rfl ?_);refine gC (some 12) Try.func111 (spec_l6Rd_pick.calls (IsS136.p HI0) (pQ HB (IsS136.ge HI0.out)) A5.out) ?_;rintro e w70 ⟨rfl,hi,hb,hk⟩;refine ⟨_,rfl,?_⟩;replace BK114:=mA (kB hk (pK BK114.out) NB114_0);replace HK:=mA (KeepBut.trans (pH HK) hk (.inl rfl));replace HB:=mA hb;replace HI0:=mA hi;(try clear hb);(try clear hk);(try clear hi))|((with_reducible refine gT 15 rfl ?_);refine gC (some 15) Try.func111 (spec_l6Rd_pick.calls (IsS136.p HI0) (pQ HB (IsS136.ge HI0.out)) A6.out) ?_;rintro e w71 ⟨rfl,hi,hb,hk⟩;refine ⟨_,rfl,?_⟩;replace BK114:=mA (kB hk (pK BK114.out) NB114_0);replace HK:=mA (KeepBut.trans (pH HK) hk (.inl rfl));replace HB:=mA hb;replace HI0:=mA hi;(try clear hb);(try clear hk);(try clear hi))|((with_reducible refine gT 18 rfl ?_);refine gC (some 18) Try.func111 (spec_l6Rd_pick.calls (IsS136.p HI0) (pQ HB (IsS136.ge HI0.out)) A7.out) ?_;rintro e w72 ⟨rfl,hi,hb,hk⟩;refine ⟨_,rfl,?_⟩;replace BK114:=mA (kB hk (pK BK114.out) NB114_0);replace HK:=mA (KeepBut.trans (pH HK) hk (.inl rfl));replace HB:=mA hb;replace HI0:=mA hi;(try clear hb);(try clear hk);(try clear hi))|((with_reducible refine gT 20 rfl ?_);refine gC (some 20) Try.func111 (spec_l6Rd_pick.calls (IsS136.p HI0) (pQ HB (IsS136.ge HI0.out)) A8.out) ?_;rintro e w73 ⟨rfl,hi,hb,hk⟩;refine ⟨_,rfl,?_⟩;replace BK114:=mA (kB hk (pK BK114.out) NB114_0);replace HK:=mA (KeepBut.trans (pH HK) hk (.inl rfl));replace HB:=mA hb;replace HI0:=mA hi;(try clear hb);(try clear hk);(try clear hi))|((with_reducible refine gT 22 rfl ?_);refine gC (some 22) Try.func111 (spec_l6Rd_pick.calls (IsS136.p HI0) (pQ HB (IsS136.ge HI0.out)) A9.out) ?_;rintro e w74 ⟨rfl,hi,hb,hk⟩;refine ⟨_,rfl,?_⟩;replace BK114:=mA (kB hk (pK BK114.out) NB114_0);replace HK:=mA (KeepBut.trans (pH HK) hk (.inl rfl));replace HB:=mA hb;replace HI0:=mA hi;(try clear hb);(try clear hk);(try clear hi))|((with_reducible refine gT 25 rfl ?_);refine gC (some 25) Try.func111 (spec_l6Rd_pick.calls (IsS136.p HI0) (pQ HB (IsS136.ge HI0.out)) A10.out) ?_;rintro e w75 ⟨rfl,hi,hb,hk⟩;refine ⟨_,rfl,?_⟩;replace BK114:=mA (kB hk (pK BK114.out) NB114_0);replace HK:=mA (KeepBut.trans (pH HK) hk (.inl rfl));replace HB:=mA hb;replace HI0:=mA hi;(try clear hb);(try clear hk);(try clear hi))|((with_reducible refine gT 27 rfl ?_);refine gC (some 27) Try.func111 (spec_l6Rd_pick.calls (IsS136.p HI0) (pQ HB (IsS136.ge HI0.out)) A11.out) ?_;rintro e w76 ⟨rfl,hi,hb,hk⟩;refine ⟨_,rfl,?_⟩;replace BK114:=mA (kB hk (pK BK114.out) NB114_0);replace HK:=mA (KeepBut.trans (pH HK) hk (.inl rfl));replace HB:=mA hb;replace HI0:=mA hi;(try clear hb);(try clear hk);(try clear hi))|((with_reducible refine gT 3 rfl ?_);refine bE 3 #[.int .i64 0,.int .i64 0,.int .i64 0,.int .i64 0,.int .i64 0,.int .i64 0,.int .i64 0,.int .i64 0,.int .i64 0,.int .i64 0] 24 ?_;intro gb135 hg w77 hbox hb;replace HB:=mA (below_step (pQ HB (IsS136.ge HI0.out)) hb);have BK135:=mA hbox;have GW135:=mA (lG (kS HK) hg);have GE135:=mA (Nat.le_trans HW0.out (lG (kS HK) hg));replace HK:=mA (KeepBut.trans (pH HK) (KeepBut.of_below hb g none) (.inl rfl));have NB114_135:=mA (lN (blk_lt (pK BK114.out)) hg);have NB135_114:=nS NB114_135;replace BK114:=bK BK114 hb;have NB0_135:=mA (lN (IsS136.lt (show IsS136 w0 _ g s0_0 t134 from IsS136.p HI0)) hg);have NB135_0:=nS NB0_135;replace HI0:=mA (IsS136.below (IsS136.p HI0) hb);clear hb hbox hg;have hnb78:=NB135_114.out;have hnc78:=NB114_135.out;have hnb79:=NB135_0.out;have hnc79:=NB0_135.out;have hcz80_0:=fun i_=>blk_cell BK135.out i_;have hfz80_0:=fun i_=>blk_frozen BK135.out i_)|((with_reducible refine gT 31 rfl ?_);refine gC (some 31) Try.func111 (spec_l6Rd_pick.calls (IsS136.p HI0) (pQ HB (IsS136.ge HI0.out)) A12.out) ?_;rintro e w81 ⟨rfl,hi,hb,hk⟩;refine ⟨_,rfl,?_⟩;replace BK114:=mA (kB hk (pF BK114.out) NB114_0);replace BK135:=mA (kP hk #[.int .i64 t115,.int .i64 t117,.int .i64 (wrap64 (1+t119)),.int .i64 (wrap64 (1+t121)),.int .i64 (wrap64 (1+t123)),.int .i64 t125,.int .i64 t127,.int .i64 (wrap64 (1+t129)),.int .i64 t131,.int .i64 (wrap64 (t133 - 1))] BK135 NB135_0);replace HK:=mA (KeepBut.trans (pH HK) hk (.inl rfl));replace HB:=mA hb;replace HI0:=mA hi;(try clear hb);(try clear hk);(try clear hi))|((with_reducible refine gT 47 rfl ?_);refine Kd.R_lit (Kd.int .i64) _ 3 ?hg (N:=47) ?hd (xs:=([(-2),100000]:List Int)) (inner:=[.int .i64 (-2),.int .i64 100000]) (ok:=fun _=>True) (okp:=fun _=>True) ?hr ?hp (fun _ hk=>hk) trivial (Below.refl _ _) (Nat.le_refl _) (by simp) ?_;(case hd=>rfl);(case hg=>rfl);(case hr=>first|(go_simp;done)|(go_simp;rfl));(case hp=>exact (Reps.one (show Kd.M (Kd.int .i64) _ _ _ (-2) [.int .i64 (-2)] from rfl) (Reps.one (show Kd.M (Kd.int .i64) _ _ _ 100000 [.int .i64 100000] from rfl) (Reps.none _ _))));intro v147 w82 ho83 hb hg_ hnew_;clear hg_ hnew_;(first|rw [← Ny146.out] at ho83|(simp only [Int.reduceToNat] at ho83;rw [← Ny146.out] at ho83));have HO148:=mA (Kd.R_lower ho83 (kS HK));replace BK114:=bK BK114 hb;replace BK135:=bK BK135 hb;replace HK:=mA (KeepBut.trans (pH HK) (KeepBut.of_below hb g none) (.inl rfl));replace HB:=mA (below_step (pQ HB (IsS136.ge HI0.out)) hb);replace HI0:=mA (IsS136.below (IsS136.p HI0) hb);clear hb ho83)|((with_reducible refine gT 49 rfl ?_);refine gC (some 49) Try.func111 (spec_l6Rd_pick.calls (IsS136.p HI0) (pQ HB (IsS136.ge HI0.out)) A63.out) ?_;rintro e w84 ⟨rfl,hi,hb,hk⟩;refine ⟨_,rfl,?_⟩;replace HO148:=mA (rK (IsS136.apart (IsS136.p HI0) (pR HO148.out) aD) hk);replace BK114:=mA (kB hk (pK BK114.out) NB114_0);replace BK135:=mA (kB hk (pK BK135.out) NB135_0);replace HK:=mA (KeepBut.trans (pH HK) hk (.inl rfl));replace HB:=mA hb;replace HI0:=mA hi;(try clear hb);(try clear hk);(try clear hi);obtain ⟨Ao85,co85,rfl⟩:=Kd.R_slice HO148.out;have p151:0≤(t149:Int):=of_decide_eq_true bA;have q151:t149<(y146.length:Int):=of_decide_eq_true bA;obtain ⟨ad151,e151,hx151_0⟩:=Kd.at_int (Kd.R_reads' HO148.out).2.2 t149 p151 q151;cases e151;replace p151:=eq_true p151;replace q151:=eq_true q151;have hcz86_0:=fun i_=>blk_cell BK135.out i_;have hfz86_0:=fun i_=>blk_frozen BK135.out i_;have hnb87:=NB114_0.out;have hnc87:=NB0_114.out;have hcz88_0:=fun i_=>blk_cell BK114.out i_;have hfz88_0:=fun i_=>blk_frozen BK114.out i_))
      refine bodyPost_ret (results_cell_row rfl _ _ gb114 24 #[.int .i64 t115,.int .i64 t117,.int .i64 (wrap64 (1+t119)),.int .i64 (wrap64 (1+t121)),.int .i64 (wrap64 (1+t123)),.int .i64 t125,.int .i64 t127,.int .i64 (rd y146 t149),.int .i64 t131,.int .i64 (wrap64 (t133 - 1))] (0,0) _ rfl (pP BK114) Try.underlying24 rfl aK) rfl ?_
      exact ⟨by first|rfl|(simp [errW_none,errW_some]<;>rfl)|(simp [*,errW_none,errW_some]<;>rfl),IsS136.p HI0,pQ HB (IsS136.ge HI0.out),pH HK⟩
     ·rw [if_neg c65] at H
      exact absurd H (by simp)
    ·rw [if_neg c64] at H
     exact absurd H (by simp)
   ·rw [if_neg c62] at H;have c62b0:(t136 == 2)=false:=beq_eq_false_iff_ne.mpr c62;have c62b1:(t136 != 2)=true:=bne_iff_ne.mpr c62;simp only [Option.some.injEq,Prod.mk.injEq] at H;obtain ⟨rfl,rfl,rfl,rfl,rfl,rfl,rfl,rfl,rfl,rfl,rfl⟩:=H
    go_enter Try.func117,Try.ntmps117
    go_wp2_with (first|((with_reducible refine gLg rfl (by assumption) ?_);refine ldV ?_)|((with_reducible refine gSt rfl (by assumption) ?_);refine stV ?_)|((with_reducible refine gT 2 rfl ?_);refine bE 2 #[.int .i64 0,.int .i64 0,.int .i64 0,.int .i64 0,.int .i64 0,.int .i64 0,.int .i64 0,.int .i64 0,.int .i64 0,.int .i64 0] 24 ?_;intro gb114 hg w89 hbox hb;replace HB:=mA (below_step (pQ HB (IsS136.ge HI0.out)) hb);have BK114:=mA hbox;have GW114:=mA (lG (kS HK) hg);have GE114:=mA (Nat.le_trans HW0.out (lG (kS HK) hg));replace HK:=mA (KeepBut.trans (pH HK) (KeepBut.of_below hb g none) (.inl rfl));have NB0_114:=mA (lN (IsS136.lt (show IsS136 w0 _ g s0_0 s0_1 from IsS136.p HI0)) hg);have NB114_0:=nS NB0_114;replace HI0:=mA (IsS136.below (IsS136.p HI0) hb);clear hb hbox hg)|((with_reducible refine gT 5 rfl ?_);refine gC (some 5) Try.func111 (spec_l6Rd_pick.calls (IsS136.p HI0) (pQ HB (IsS136.ge HI0.out)) A2.out) ?_;rintro e w90 ⟨rfl,hi,hb,hk⟩;refine ⟨_,rfl,?_⟩;replace BK114:=mA (kB hk (pK BK114.out) NB114_0);replace HK:=mA (KeepBut.trans (pH HK) hk (.inl rfl));replace HB:=mA hb;replace HI0:=mA hi;(try clear hb);(try clear hk);(try clear hi))|((with_reducible refine gT 7 rfl ?_);refine gC (some 7) Try.func111 (spec_l6Rd_pick.calls (IsS136.p HI0) (pQ HB (IsS136.ge HI0.out)) A3.out) ?_;rintro e w91 ⟨rfl,hi,hb,hk⟩;refine ⟨_,rfl,?_⟩;replace BK114:=mA (kB hk (pK BK114.out) NB114_0);replace HK:=mA (KeepBut.trans (pH HK) hk (.inl rfl));replace HB:=mA hb;replace HI0:=mA hi;(try clear hb);(try clear hk);(try clear hi))|((with_reducible refine gT 9 rfl ?_);refine gC (some 9) Try.func111 (spec_l6Rd_pick.calls (IsS136.p HI0) (pQ HB (IsS136.ge HI0.out)) A4.out) ?_;rintro e w92 ⟨rfl,hi,hb,hk⟩;refine ⟨_,rfl,?_⟩;replace BK114:=mA (kB hk (pK BK114.out) NB114_0);replace HK:=mA (KeepBut.trans (pH HK) hk (.inl rfl));replace HB:=mA hb;replace HI0:=mA hi;(try clear hb);(try clear hk);(try clear hi))|((with_reducible refine gT 12 rfl ?_);refine gC (some 12) Try.func111 (spec_l6Rd_pick.calls (IsS136.p HI0) (pQ HB (IsS136.ge HI0.out)) A5.out) ?_;rintro e w93 ⟨rfl,hi,hb,hk⟩;refine ⟨_,rfl,?_⟩;replace BK114:=mA (kB hk (pK BK114.out) NB114_0);replace HK:=mA (KeepBut.trans (pH HK) hk (.inl rfl));replace HB:=mA hb;replace HI0:=mA hi;(try clear hb);(try clear hk);(try clear hi))|((with_reducible refine gT 15 rfl ?_);refine gC (some 15) Try.func111 (spec_l6Rd_pick.calls (IsS136.p HI0) (pQ HB (IsS136.ge HI0.out)) A6.out) ?_;rintro e w94 ⟨rfl,hi,hb,hk⟩;refine ⟨_,rfl,?_⟩;replace BK114:=mA (kB hk (pK BK114.out) NB114_0);replace HK:=mA (KeepBut.trans (pH HK) hk (.inl rfl));replace HB:=mA hb;replace HI0:=mA hi;(try clear hb);(try clear hk);(try clear hi))|((with_reducible refine gT 18 rfl ?_);refine gC (some 18) Try.func111 (spec_l6Rd_pick.calls (IsS136.p HI0) (pQ HB (IsS136.ge HI0.out)) A7.out) ?_;rintro e w95 ⟨rfl,hi,hb,hk⟩;refine ⟨_,rfl,?_⟩;replace BK114:=mA (kB hk (pK BK114.out) NB114_0);replace HK:=mA (KeepBut.trans (pH HK) hk (.inl rfl));replace HB:=mA hb;replace HI0:=mA hi;(try clear hb);(try clear hk);(try clear hi))|((with_reducible refine gT 20 rfl ?_);refine gC (some 20) Try.func111 (spec_l6Rd_pick.calls (IsS136.p HI0) (pQ HB (IsS136.ge HI0.out)) A8.out) ?_;rintro e w96 ⟨rfl,hi,hb,hk⟩;refine ⟨_,rfl,?_⟩;replace BK114:=mA (kB hk (pK BK114.out) NB114_0);replace HK:=mA (KeepBut.trans (pH HK) hk (.inl rfl));replace HB:=mA hb;replace HI0:=mA hi;(try clear hb);(try clear hk);(try clear hi))|((with_reducible refine gT 22 rfl ?_);refine gC (some 22) Try.func111 (spec_l6Rd_pick.calls (IsS136.p HI0) (pQ HB (IsS136.ge HI0.out)) A9.out) ?_;rintro e w97 ⟨rfl,hi,hb,hk⟩;refine ⟨_,rfl,?_⟩;replace BK114:=mA (kB hk (pK BK114.out) NB114_0);replace HK:=mA (KeepBut.trans (pH HK) hk (.inl rfl));replace HB:=mA hb;replace HI0:=mA hi;(try clear hb);(try clear hk);(try clear hi))|((with_reducible refine gT 25 rfl ?_);refine gC (some 25) Try.func111 (spec_l6Rd_pick.calls (IsS136.p HI0) (pQ HB (IsS136.ge HI0.out)) A10.out) ?_;rintro e w98 ⟨rfl,hi,hb,hk⟩;refine ⟨_,rfl,?_⟩;replace BK114:=mA (kB hk (pK BK114.out) NB114_0);replace HK:=mA (KeepBut.trans (pH HK) hk (.inl rfl));replace HB:=mA hb;replace HI0:=mA hi;(try clear hb);(try clear hk);(try clear hi))|((with_reducible refine gT 27 rfl ?_);refine gC (some 27) Try.func111 (spec_l6Rd_pick.calls (IsS136.p HI0) (pQ HB (IsS136.ge HI0.out)) A11.out) ?_;rintro e w99 ⟨rfl,hi,hb,hk⟩;refine ⟨_,rfl,?_⟩;replace BK114:=mA (kB hk (pK BK114.out) NB114_0);replace HK:=mA (KeepBut.trans (pH HK) hk (.inl rfl));replace HB:=mA hb;replace HI0:=mA hi;(try clear hb);(try clear hk);(try clear hi))|((with_reducible refine gT 3 rfl ?_);refine bE 3 #[.int .i64 0,.int .i64 0,.int .i64 0,.int .i64 0,.int .i64 0,.int .i64 0,.int .i64 0,.int .i64 0,.int .i64 0,.int .i64 0] 24 ?_;intro gb135 hg w100 hbox hb;replace HB:=mA (below_step (pQ HB (IsS136.ge HI0.out)) hb);have BK135:=mA hbox;have GW135:=mA (lG (kS HK) hg);have GE135:=mA (Nat.le_trans HW0.out (lG (kS HK) hg));replace HK:=mA (KeepBut.trans (pH HK) (KeepBut.of_below hb g none) (.inl rfl));have NB114_135:=mA (lN (blk_lt (pK BK114.out)) hg);have NB135_114:=nS NB114_135;replace BK114:=bK BK114 hb;have NB0_135:=mA (lN (IsS136.lt (show IsS136 w0 _ g s0_0 t134 from IsS136.p HI0)) hg);have NB135_0:=nS NB0_135;replace HI0:=mA (IsS136.below (IsS136.p HI0) hb);clear hb hbox hg;have hnb101:=NB135_114.out;have hnc101:=NB114_135.out;have hnb102:=NB135_0.out;have hnc102:=NB0_135.out;have hcz103_0:=fun i_=>blk_cell BK135.out i_;have hfz103_0:=fun i_=>blk_frozen BK135.out i_)|((with_reducible refine gT 31 rfl ?_);refine gC (some 31) Try.func111 (spec_l6Rd_pick.calls (IsS136.p HI0) (pQ HB (IsS136.ge HI0.out)) A12.out) ?_;rintro e w104 ⟨rfl,hi,hb,hk⟩;refine ⟨_,rfl,?_⟩;replace BK114:=mA (kB hk (pF BK114.out) NB114_0);replace BK135:=mA (kP hk #[.int .i64 t115,.int .i64 t117,.int .i64 (wrap64 (1+t119)),.int .i64 (wrap64 (1+t121)),.int .i64 (wrap64 (1+t123)),.int .i64 t125,.int .i64 t127,.int .i64 (wrap64 (1+t129)),.int .i64 t131,.int .i64 (wrap64 (t133 - 1))] BK135 NB135_0);replace HK:=mA (KeepBut.trans (pH HK) hk (.inl rfl));replace HB:=mA hb;replace HI0:=mA hi;(try clear hb);(try clear hk);(try clear hi);have hcz105_0:=fun i_=>blk_cell BK135.out i_;have hfz105_0:=fun i_=>blk_frozen BK135.out i_;have hnb106:=NB114_0.out;have hnc106:=NB0_114.out;have hcz107_0:=fun i_=>blk_cell BK114.out i_;have hfz107_0:=fun i_=>blk_frozen BK114.out i_))
    refine bodyPost_ret (results_cell_row rfl _ _ gb114 24 #[.int .i64 t115,.int .i64 t117,.int .i64 (wrap64 (1+t119)),.int .i64 (wrap64 (1+t121)),.int .i64 (wrap64 (1+t123)),.int .i64 t125,.int .i64 t127,.int .i64 (wrap64 (1+t129)),.int .i64 t131,.int .i64 (wrap64 (t133 - 1))] (0,0) _ rfl (pP BK114) Try.underlying24 rfl aK) rfl ?_
    exact ⟨by first|rfl|(simp [errW_none,errW_some]<;>rfl)|(simp [*,errW_none,errW_some]<;>rfl),IsS136.p HI0,pQ HB (IsS136.ge HI0.out),pH HK⟩

/-! ### spec_BlkPut: function 141 -/
mutual
def spec_BlkPut.l0 : Nat → List (S138) → Int → Int → Int → List (S138) → Bool → Int → Int → Int → Int → Int → Option ((List (S138)) × Bool)
 | 0,_,_,_,_,_,_,_,_,_,_,_=>none
 | k+1,x0,x1,x2,x3,x12,x14,x15,x165000,x165001,x165002,x165003=>if x15<(x0.length:Int) then (if 0≤x15 then (if ((rd_T138 x0 x15).f0)=x1 then (if ((rd_T138 x0 x15).f1)=x2 then (spec_BlkPut.j1 k x0 x1 x2 x3 x12 x14 x15 (((rd_T138 x0 x15).f2) == x3) x165000 x165001 x165002 x165003 ((rd_T138 x0 x15).f0) ((rd_T138 x0 x15).f1) ((rd_T138 x0 x15).f2) ((rd_T138 x0 x15).f3)) else (spec_BlkPut.j1 k x0 x1 x2 x3 x12 x14 x15 false x165000 x165001 x165002 x165003 ((rd_T138 x0 x15).f0) ((rd_T138 x0 x15).f1) ((rd_T138 x0 x15).f2) ((rd_T138 x0 x15).f3))) else (spec_BlkPut.j1 k x0 x1 x2 x3 x12 x14 x15 false x165000 x165001 x165002 x165003 ((rd_T138 x0 x15).f0) ((rd_T138 x0 x15).f1) ((rd_T138 x0 x15).f2) ((rd_T138 x0 x15).f3))) else (none)) else (if x14=true then ((spec_BlkOk.f k x12).bind fun t178=>(if t178=true then (some (x12,true)) else ((some (([]:List (S138)):List (S138))).bind fun y179=>(if y179.length+x0.length<4398046511104 then (some ((y179 ++ x0),false)) else (none))))) else (if x12.length<4398046511104 then ((some (x12 ++ [(⟨x165000,x165001,x165002,x165003⟩:S138)]:List (S138))).bind fun y185=>((spec_BlkOk.f k y185).bind fun t188=>(if t188=true then (some (y185,true)) else ((some (([]:List (S138)):List (S138))).bind fun y189=>(if y189.length+x0.length<4398046511104 then (some ((y189 ++ x0),false)) else (none)))))) else (none)))
def spec_BlkPut.j1 : Nat → List (S138) → Int → Int → Int → List (S138) → Bool → Int → Bool → Int → Int → Int → Int → Int → Int → Int → Int → Option ((List (S138)) × Bool)
 | 0,_,_,_,_,_,_,_,_,_,_,_,_,_,_,_,_=>none
 | k+1,x0,x1,x2,x3,x12,x14,x15,x17,x165000,x165001,x165002,x165003,x168000,x168001,x168002,x168003=>if x14=true then (spec_BlkPut.j2 k x0 x1 x2 x3 x12 x14 x15 x17 false x165000 x165001 x165002 x165003 x168000 x168001 x168002 x168003) else ((spec_l3Before.f x168000 x168001 x168002 x168003 x1 x2 x3).bind fun t168=>(spec_BlkPut.j2 k x0 x1 x2 x3 x12 x14 x15 x17 (!t168) x165000 x165001 x165002 x165003 x168000 x168001 x168002 x168003))
def spec_BlkPut.j2 : Nat → List (S138) → Int → Int → Int → List (S138) → Bool → Int → Bool → Bool → Int → Int → Int → Int → Int → Int → Int → Int → Option ((List (S138)) × Bool)
 | 0,_,_,_,_,_,_,_,_,_,_,_,_,_,_,_,_,_=>none
 | k+1,x0,x1,x2,x3,x12,x14,x15,x17,x63,x165000,x165001,x165002,x165003,x168000,x168001,x168002,x168003=>if x63=true then (if x12.length<4398046511104 then ((some (x12 ++ [(⟨x165000,x165001,x165002,x165003⟩:S138)]:List (S138))).bind fun y169=>(if x17=true then (spec_BlkPut.l0 k x0 x1 x2 x3 y169 true (wrap64 (x15+1)) x165000 x165001 x165002 x165003) else (if y169.length<4398046511104 then (spec_BlkPut.l0 k x0 x1 x2 x3 (y169 ++ [(⟨x168000,x168001,x168002,x168003⟩:S138)]) true (wrap64 (x15+1)) x165000 x165001 x165002 x165003) else (none)))) else (none)) else (if x17=true then (spec_BlkPut.l0 k x0 x1 x2 x3 x12 x14 (wrap64 (x15+1)) x165000 x165001 x165002 x165003) else (if x12.length<4398046511104 then (spec_BlkPut.l0 k x0 x1 x2 x3 (x12 ++ [(⟨x168000,x168001,x168002,x168003⟩:S138)]) x14 (wrap64 (x15+1)) x165000 x165001 x165002 x165003) else (none)))
end
def spec_BlkPut.f (k : Nat) (l0 : List (S138)) (a1 : Int) (a2 : Int) (a3 : Int) (a4 : Int) : Option ((List (S138)) × Bool) := (some (([] : List (S138)) : List (S138))).bind fun y161 => ((spec_BlkOk.f k l0).bind fun t165 => (if t165 = true then (spec_BlkPut.l0 k l0 a1 a2 a3 y161 false 0 a1 a2 a3 a4) else (some (y161, false))))
theorem spec_BlkPut.mono_l : ∀ k, (∀ y0 y1 y2 y3 y4 y5 y6 y7 y8 y9 y10, LeO (spec_BlkPut.l0 k y0 y1 y2 y3 y4 y5 y6 y7 y8 y9 y10) (spec_BlkPut.l0 (k + 1) y0 y1 y2 y3 y4 y5 y6 y7 y8 y9 y10)) ∧ (∀ y0 y1 y2 y3 y4 y5 y6 y7 y8 y9 y10 y11 y12 y13 y14 y15, LeO (spec_BlkPut.j1 k y0 y1 y2 y3 y4 y5 y6 y7 y8 y9 y10 y11 y12 y13 y14 y15) (spec_BlkPut.j1 (k + 1) y0 y1 y2 y3 y4 y5 y6 y7 y8 y9 y10 y11 y12 y13 y14 y15)) ∧ (∀ y0 y1 y2 y3 y4 y5 y6 y7 y8 y9 y10 y11 y12 y13 y14 y15 y16, LeO (spec_BlkPut.j2 k y0 y1 y2 y3 y4 y5 y6 y7 y8 y9 y10 y11 y12 y13 y14 y15 y16) (spec_BlkPut.j2 (k + 1) y0 y1 y2 y3 y4 y5 y6 y7 y8 y9 y10 y11 y12 y13 y14 y15 y16))
 | 0=>⟨fun _ _ _ _ _ _ _ _ _ _ _ r h=>by simp [spec_BlkPut.l0] at h,fun _ _ _ _ _ _ _ _ _ _ _ _ _ _ _ _ r h=>by simp [spec_BlkPut.j1] at h,fun _ _ _ _ _ _ _ _ _ _ _ _ _ _ _ _ _ r h=>by simp [spec_BlkPut.j2] at h⟩
 | k+1=>by
  obtain ⟨ih0,ih1,ih2⟩:=spec_BlkPut.mono_l k;refine ⟨?_,?_,?_⟩
  ·intros
   unfold spec_BlkPut.l0
   repeat' first
   | (with_reducible first|apply ih0|apply ih1|apply ih2|apply spec_BlkOk.mono|exact LeO.refl _|exact LeO.none _|refine LeO.ite ?_ ?_|refine LeO.bind ?_ (fun _=>?_))|exact LeO.none _|refine LeO.ite ?_ ?_|refine LeO.bind ?_ (fun _=>?_)
  ·intros
   unfold spec_BlkPut.j1
   repeat' first
   | (with_reducible first|apply ih0|apply ih1|apply ih2|apply spec_BlkOk.mono|exact LeO.refl _|exact LeO.none _|refine LeO.ite ?_ ?_|refine LeO.bind ?_ (fun _=>?_))|exact LeO.none _|refine LeO.ite ?_ ?_|refine LeO.bind ?_ (fun _=>?_)
  ·intros
   unfold spec_BlkPut.j2
   repeat' first
   | (with_reducible first|apply ih0|apply ih1|apply ih2|apply spec_BlkOk.mono|exact LeO.refl _|exact LeO.none _|refine LeO.ite ?_ ?_|refine LeO.bind ?_ (fun _=>?_))|exact LeO.none _|refine LeO.ite ?_ ?_|refine LeO.bind ?_ (fun _=>?_)
theorem spec_BlkPut.mono : ∀ a0 a1 a2 a3 a4 k, LeO (spec_BlkPut.f k a0 a1 a2 a3 a4) (spec_BlkPut.f (k + 1) a0 a1 a2 a3 a4) := by
 intro a0 a1 a2 a3 a4 k;obtain ⟨ih0,ih1,ih2⟩:=spec_BlkPut.mono_l k
 unfold spec_BlkPut.f
 repeat' first
   | (with_reducible first|apply ih0|apply ih1|apply ih2|apply spec_BlkOk.mono|exact LeO.refl _|exact LeO.none _|refine LeO.ite ?_ ?_|refine LeO.bind ?_ (fun _=>?_))|exact LeO.none _|refine LeO.ite ?_ ?_|refine LeO.bind ?_ (fun _=>?_)
set_option maxHeartbeats 8000000 in
set_option maxRecDepth 100000 in
theorem spec_BlkPut.calls {k : Nat} {A0 : Option Addr} {c0 : Nat} {l0 : List (S138)} {a1 : Int} {a2 : Int} {a3 : Int} {a4 : Int} {r1 : List (S138)} {r2 : Bool} {w : World} (hr0 : Kd.C k138 w A0 l0.length l0) (hc0 : l0.length ≤ c0) (h : spec_BlkPut.f k l0 a1 a2 a3 a4 = some (r1, r2)) :
  Calls Try.prog 141 #[.slice A0 l0.length c0,.int .i64 a1,.int .i64 a2,.int .i64 a3,.int .i64 a4] w fun e w'=>∃ v0_:Value,e=.returned (.tuple #[v0_,.bool r2])∧Kd.R k138 138 w' w.heap.size (fun _=>True) v0_ r1∧Below w.heap.size w w':=by
 have hu138:=Try.underlying138;have HR0:=mA hr0;have HC0:=mA hc0;clear hr0 hc0;have HB:=mA (Below.refl w.heap.size w);have H:((some (([]:List (S138)):List (S138))).bind fun y161=>((spec_BlkOk.f k l0).bind fun t165=>(if t165=true then (spec_BlkPut.l0 k l0 a1 a2 a3 y161 false 0 a1 a2 a3 a4) else (some (y161,false)))))=some (r1,r2):=h;clear h;obtain ⟨y161,hy161⟩:∃ y_:List (S138),y_=(([]:List (S138))):=⟨_,rfl⟩
 replace H:((spec_BlkOk.f k l0).bind fun t165=>(if t165=true then (spec_BlkPut.l0 k l0 a1 a2 a3 y161 false 0 a1 a2 a3 a4) else (some (y161,false))))=some (r1,r2):=qH hy161 H
 have Ny161:=mA hy161;clear hy161;obtain ⟨t165,A6,H⟩:=bI H;(try dsimp only at H)
 by_cases c7:t165=true
 ·subst c7;rw [if_pos rfl] at H;have H':=mA H;clear H
  go_enter Try.func141,Try.ntmps141
  go_wp2_with (first|((with_reducible refine gT 18 rfl ?_);refine Kd.R_lit k138 _ 138 ?hg (N:=18) ?hd (xs:=([]:List (S138))) (inner:=[]) (ok:=fun _=>True) (okp:=fun _=>True) ?hr ?hp (fun _ hk=>hk) trivial (Below.refl _ _) (Nat.le_refl _) (by simp) ?_;(case hd=>rfl);(case hg=>rfl);(case hr=>first|(go_simp;done)|(go_simp;rfl));(case hp=>exact (Reps.none _ _));intro v162 w8 ho9 hb hg_ hnew_;clear hg_ hnew_;(first|rw [← Ny161.out] at ho9|(simp only [Int.reduceToNat] at ho9;rw [← Ny161.out] at ho9));have HO163:=mA (Kd.R_lower ho9 (bpB HB));replace HB:=spB HB hb;clear hb ho9)|((with_reducible refine gT 13 rfl ?_);refine bE 13 #[.int .i64 0,.int .i64 0,.int .i64 0,.int .i64 0] 138 ?_;intro gb164 hg w10 hbox hb;replace HO163:=mA (Kd.R_below (Kd.R_elderB (pR HO163.out) gb164 (Nat.le_of_eq hg.symm)) hb);have BK164:=mA hbox;have GW164:=gbpB HB hg;have GE164:=gbpB HB hg;replace HB:=spB HB hb;clear hb hbox hg;obtain ⟨hcz11_0,hcz11_1,hcz11_2,hcz11_3,hfz11_0,hfz11_1,hfz11_2,hfz11_3⟩:=box4 BK164.out)|((with_reducible refine gT 25 rfl ?_);refine gC (some 25) Try.func70 (spec_BlkOk.calls (Kd.C_below HR0.out (pS HB.out)) HC0.out A6.out) ?_;rintro e w12 ⟨rfl,hb⟩;refine ⟨_,rfl,?_⟩;replace HO163:=mA (Kd.R_below (pR (Kd.R_mono (Kd.R_far (p:=⟨gb164,3,none⟩) (Kd.R_far (p:=⟨gb164,2,none⟩) (Kd.R_far (p:=⟨gb164,1,none⟩) (Kd.R_far (p:=⟨gb164,0,none⟩) (Kd.R_mono HO163.out (fun k_ hk=>(⟨hk,hk.2⟩:_∧k_≠gb164))) (fun _ hk=>hk.2) (.int .i64 a1)) (fun _ hk=>hk.2) (.int .i64 a2)) (fun _ hk=>hk.2) (.int .i64 a3)) (fun _ hk=>hk.2) (.int .i64 a4)) (fun _ h_=>h_.1))) hb);replace BK164:=mA (blk_below (g:=gb164) (o:=.cells #[.int .i64 a1,.int .i64 a2,.int .i64 a3,.int .i64 a4] 138 (0,0)) (pP BK164) hb);replace HB:=spS HB hb;(try clear hb);(try clear hk)))
  go_loopg [12,14,15] k (fun kq v12 v14 v15 w'=>∃ (x12_1:List (S138)) (x14_1:Bool) (x15_1:Int),v14=.bool x14_1∧v15=.int .i64 x15_1∧Aside0 (spec_BlkPut.l0 kq l0 a1 a2 a3 x12_1 x14_1 x15_1 a1 a2 a3 a4=some (r1,r2))∧Aside0 (kq≤k)∧Aside0 (Kd.R k138 138 w' w.heap.size (fun k_=>k_≠gb164) v12 x12_1)∧Aside0 (w'.heap[gb164]?=some (.cells #[.int .i64 a1,.int .i64 a2,.int .i64 a3,.int .i64 a4] 138 (0,0)))∧Aside0 (Below w.heap.size w w'))
  case atStart=>exact ⟨(y161),(false),(0),bZ,bZ,H',⟨Nat.le_refl _⟩,⟨pR (Kd.R_mono HO163.out (fun _ hk=>hk.2))⟩,⟨pK BK164.out⟩,⟨pS HB.out⟩⟩
  case round =>
   clear H'
   (try clear c7);(try clear hcz11_0);(try clear hcz11_1);(try clear hcz11_2);(try clear hcz11_3);(try clear hfz11_0);(try clear hfz11_1);(try clear hfz11_2);(try clear hfz11_3)
   obtain ⟨x12_1,x14_1,x15_1,rfl,rfl,HA,HK1,HO_12,BK164,HB⟩:=hrel
   cases gk with
   | zero=>exact absurd HA.out (by simp [spec_BlkPut.l0])
   | succ k1 =>
    have H:=HA.out;clear HA;simp only [spec_BlkPut.l0] at H
    by_cases c13:x15_1<(l0.length:Int)
    ·rw [if_pos c13] at H;have c13b0:decide (x15_1<(l0.length:Int))=true:=decide_eq_true c13;clear c13
     by_cases c14:0≤x15_1
     ·rw [if_pos c14] at H;have c14b0:decide (0≤x15_1)=true:=decide_eq_true c14;clear c14;have HC15:=mA H;clear H;have p166:0≤(x15_1:Int):=of_decide_eq_true bA;have q166:x15_1<(l0.length:Int):=of_decide_eq_true bA;obtain ⟨ad166,e166,hx166_0,hx166_1,hx166_2,hx166_3⟩:=at_T138 HR0.out x15_1 p166 q166;cases e166;replace hx166_0:=hC HB hx166_0;replace hx166_1:=hC HB hx166_1;replace hx166_2:=hC HB hx166_2;replace hx166_3:=hC HB hx166_3;replace p166:=eq_true p166;replace q166:=eq_true q166
      go_upto_region 10 with (first|((with_reducible refine gT 16 rfl ?_);refine bE 16 #[.int .i64 0,.int .i64 0,.int .i64 0,.int .i64 0] 138 ?_;intro gb167 hg w16 hbox hb;replace HO_12:=mA (Kd.R_below (Kd.R_elderB (pR HO_12.out) gb167 (Nat.le_of_eq hg.symm)) hb);have BK167:=mA hbox;have GW167:=gbpS HB hg;have GE167:=gbpS HB hg;replace HB:=spS HB hb;have NB164_167:=mA (lN (blk_lt (pK BK164.out)) hg);have NB167_164:=nS NB164_167;replace BK164:=bK BK164 hb;clear hb hbox hg;have hnb17:=NB167_164.out;have hnc17:=NB164_167.out;obtain ⟨hcz18_0,hcz18_1,hcz18_2,hcz18_3,hfz18_0,hfz18_1,hfz18_2,hfz18_3⟩:=box4 BK167.out))
      (try simp only [Act.put,List.setIfInBounds_toArray,List.set_cons_zero,List.set_cons_succ])
      go_cut [17] (fun v17 wc=>∃ (kq:Nat) (x17_14:Bool),v17=.bool x17_14∧Aside0 (spec_BlkPut.j1 kq l0 a1 a2 a3 x12_1 x14_1 x15_1 x17_14 a1 a2 a3 a4 ((rd_T138 l0 x15_1).f0) ((rd_T138 l0 x15_1).f1) ((rd_T138 l0 x15_1).f2) ((rd_T138 l0 x15_1).f3)=some (r1,r2))∧Aside0 (kq≤k1)∧Aside0 (Kd.R k138 138 wc w.heap.size (fun k_=>k_≠gb164∧k_≠gb167) u12 x12_1)∧Aside0 (wc.heap[gb164]?=some (.cells #[.int .i64 a1,.int .i64 a2,.int .i64 a3,.int .i64 a4] 138 (0,0)))∧Aside0 (wc.heap[gb167]?=some (.cells #[.int .i64 ((rd_T138 l0 x15_1).f0),.int .i64 ((rd_T138 l0 x15_1).f1),.int .i64 ((rd_T138 l0 x15_1).f2),.int .i64 ((rd_T138 l0 x15_1).f3)] 138 (0,0)))∧Aside0 (Below w.heap.size w wc))
      case first =>
       have H:=HC15.out;clear HC15
       by_cases c19:((rd_T138 l0 x15_1).f0)=a1
       ·rw [if_pos c19] at H;obtain ⟨c19b0,c19b1⟩:=eqB c19;clear c19
        (first|rw [c19b0]|(simp only [i64_w,i32_w];rw [c19b0])|skip)
        by_cases c20:((rd_T138 l0 x15_1).f1)=a2
        ·rw [if_pos c20] at H;obtain ⟨c20b0,c20b1⟩:=eqB c20;clear c20;have H':=mA H;clear H;have hnb21:=NB167_164.out;have hnc21:=NB164_167.out;obtain ⟨hcz22_0,hcz22_1,hcz22_2,hcz22_3,hfz22_0,hfz22_1,hfz22_2,hfz22_3⟩:=box4 BK167.out
         go_wp2
         go_meet
         case rel=>exact ⟨_,((((rd_T138 l0 x15_1).f2) == a3)),bZ,H',⟨by have:=HK1.out;first|omega|exact Nat.le_refl _⟩,⟨pR (Kd.R_mono (Kd.R_far (p:=⟨gb167,3,none⟩) (Kd.R_far (p:=⟨gb167,2,none⟩) (Kd.R_far (p:=⟨gb167,1,none⟩) (Kd.R_far (p:=⟨gb167,0,none⟩) (Kd.R_mono HO_12.out (fun k_ hk=>(⟨hk,hk.2⟩:_∧k_≠gb167))) (fun _ hk=>hk.2) (.int .i64 ((rd_T138 l0 x15_1).f0))) (fun _ hk=>hk.2) (.int .i64 ((rd_T138 l0 x15_1).f1))) (fun _ hk=>hk.2) (.int .i64 ((rd_T138 l0 x15_1).f2))) (fun _ hk=>hk.2) (.int .i64 ((rd_T138 l0 x15_1).f3))) (fun _ hk=>⟨hk.1.1,hk.1.2⟩))⟩,⟨pF BK164.out⟩,⟨pP BK167⟩,⟨pS HB.out⟩⟩
        ·rw [if_neg c20] at H;have c20b0:(((rd_T138 l0 x15_1).f1) == a2)=false:=beq_eq_false_iff_ne.mpr c20;have c20b1:(((rd_T138 l0 x15_1).f1) != a2)=true:=bne_iff_ne.mpr c20;have H':=mA H;clear H;have hnb23:=NB167_164.out;have hnc23:=NB164_167.out;obtain ⟨hcz24_0,hcz24_1,hcz24_2,hcz24_3,hfz24_0,hfz24_1,hfz24_2,hfz24_3⟩:=box4 BK167.out
         go_wp2
         go_meet
         case rel=>exact ⟨_,(false),bZ,H',⟨by have:=HK1.out;first|omega|exact Nat.le_refl _⟩,⟨pR (Kd.R_mono (Kd.R_far (p:=⟨gb167,3,none⟩) (Kd.R_far (p:=⟨gb167,2,none⟩) (Kd.R_far (p:=⟨gb167,1,none⟩) (Kd.R_far (p:=⟨gb167,0,none⟩) (Kd.R_mono HO_12.out (fun k_ hk=>(⟨hk,hk.2⟩:_∧k_≠gb167))) (fun _ hk=>hk.2) (.int .i64 ((rd_T138 l0 x15_1).f0))) (fun _ hk=>hk.2) (.int .i64 ((rd_T138 l0 x15_1).f1))) (fun _ hk=>hk.2) (.int .i64 ((rd_T138 l0 x15_1).f2))) (fun _ hk=>hk.2) (.int .i64 ((rd_T138 l0 x15_1).f3))) (fun _ hk=>⟨hk.1.1,hk.1.2⟩))⟩,⟨pF BK164.out⟩,⟨pP BK167⟩,⟨pS HB.out⟩⟩
       ·rw [if_neg c19] at H;have c19b0:(((rd_T138 l0 x15_1).f0) == a1)=false:=beq_eq_false_iff_ne.mpr c19;have c19b1:(((rd_T138 l0 x15_1).f0) != a1)=true:=bne_iff_ne.mpr c19
        (first|rw [c19b0]|(simp only [i64_w,i32_w];rw [c19b0])|skip)
        have H':=mA H;clear H;have hnb25:=NB167_164.out;have hnc25:=NB164_167.out;obtain ⟨hcz26_0,hcz26_1,hcz26_2,hcz26_3,hfz26_0,hfz26_1,hfz26_2,hfz26_3⟩:=box4 BK167.out
        go_wp2
        go_meet
        case rel=>exact ⟨_,(false),bZ,H',⟨by have:=HK1.out;first|omega|exact Nat.le_refl _⟩,⟨pR (Kd.R_mono (Kd.R_far (p:=⟨gb167,3,none⟩) (Kd.R_far (p:=⟨gb167,2,none⟩) (Kd.R_far (p:=⟨gb167,1,none⟩) (Kd.R_far (p:=⟨gb167,0,none⟩) (Kd.R_mono HO_12.out (fun k_ hk=>(⟨hk,hk.2⟩:_∧k_≠gb167))) (fun _ hk=>hk.2) (.int .i64 ((rd_T138 l0 x15_1).f0))) (fun _ hk=>hk.2) (.int .i64 ((rd_T138 l0 x15_1).f1))) (fun _ hk=>hk.2) (.int .i64 ((rd_T138 l0 x15_1).f2))) (fun _ hk=>hk.2) (.int .i64 ((rd_T138 l0 x15_1).f3))) (fun _ hk=>⟨hk.1.1,hk.1.2⟩))⟩,⟨pF BK164.out⟩,⟨pP BK167⟩,⟨pS HB.out⟩⟩
      case rest =>
       clear HC15
       (try clear c7);(try clear c13);(try clear c13b0);(try clear c14);(try clear c14b0);(try clear hcz11_0);(try clear hcz11_1);(try clear hcz11_2);(try clear hcz11_3);(try clear hcz18_0);(try clear hcz18_1);(try clear hcz18_2);(try clear hcz18_3);(try clear hfz11_0);(try clear hfz11_1);(try clear hfz11_2);(try clear hfz11_3);(try clear hfz18_0);(try clear hfz18_1);(try clear hfz18_2);(try clear hfz18_3);(try clear hx166_0);(try clear hx166_1);(try clear hx166_2);(try clear hx166_3);(try clear p166);(try clear q166)
       obtain ⟨kq,x17_14,rfl,HA,HJ14,HO_12,BK164,BK167,HB⟩:=hcut
       cases kq with
       | zero=>exact absurd HA.out (by simp [spec_BlkPut.j1])
       | succ kj14 =>
        have H:=HA.out;clear HA;simp only [spec_BlkPut.j1] at H;have HC27:=mA H;clear H
        go_upto_region 11 with (fail)
        go_cut [63] (fun v63 wc=>∃ (kq:Nat) (x63_26:Bool),v63=.bool x63_26∧Aside0 (spec_BlkPut.j2 kq l0 a1 a2 a3 x12_1 x14_1 x15_1 x17_14 x63_26 a1 a2 a3 a4 ((rd_T138 l0 x15_1).f0) ((rd_T138 l0 x15_1).f1) ((rd_T138 l0 x15_1).f2) ((rd_T138 l0 x15_1).f3)=some (r1,r2))∧Aside0 (kq≤kj14)∧Aside0 (Kd.R k138 138 wc w.heap.size (fun k_=>k_≠gb164∧k_≠gb167) u12 x12_1)∧Aside0 (wc.heap[gb164]?=some (.cells #[.int .i64 a1,.int .i64 a2,.int .i64 a3,.int .i64 a4] 138 (0,0)))∧Aside0 (wc.heap[gb167]?=some (.cells #[.int .i64 ((rd_T138 l0 x15_1).f0),.int .i64 ((rd_T138 l0 x15_1).f1),.int .i64 ((rd_T138 l0 x15_1).f2),.int .i64 ((rd_T138 l0 x15_1).f3)] 138 (0,0)))∧Aside0 (Below w.heap.size w wc))
        case first =>
         have H:=HC27.out;clear HC27
         by_cases c28:x14_1=true
         ·subst c28;rw [if_pos rfl] at H;have H':=mA H;clear H
          go_wp2
          go_meet
          case rel=>exact ⟨_,(false),bZ,H',⟨by have:=HK1.out;have:=HJ14.out;first|omega|exact Nat.le_refl _⟩,⟨pR HO_12.out⟩,⟨pK BK164.out⟩,⟨pK BK167.out⟩,⟨pS HB.out⟩⟩
         ·replace c28:=Bool.eq_false_iff.mpr c28;subst c28
          rw [if_neg nFT] at H
          obtain ⟨t168,A29,H⟩:=bI H;(try dsimp only at H);have H':=mA H;clear H;have hnb30:=NB167_164.out;have hnc30:=NB164_167.out;obtain ⟨hcz31_0,hcz31_1,hcz31_2,hcz31_3,hfz31_0,hfz31_1,hfz31_2,hfz31_3⟩:=box4 BK167.out
          go_wp2_with (first|(go_at_call 129;(with_reducible refine (spec_l3Before.calls A29.out).mono ?_);rintro e w32 ⟨rfl,hb⟩;replace HO_12:=rB HO_12 hb;replace BK164:=bK BK164 hb;replace BK167:=bK BK167 hb;replace HB:=spS HB hb;(try clear hb)))
          go_meet
          case rel=>exact ⟨_,(!t168),bZ,H',⟨by have:=HK1.out;have:=HJ14.out;first|omega|exact Nat.le_refl _⟩,⟨pR HO_12.out⟩,⟨pK BK164.out⟩,⟨pK BK167.out⟩,⟨pS HB.out⟩⟩
        case rest =>
         clear HC27
         (try clear c7);(try clear c13);(try clear c13b0);(try clear c14);(try clear c14b0);(try clear hcz11_0);(try clear hcz11_1);(try clear hcz11_2);(try clear hcz11_3);(try clear hcz18_0);(try clear hcz18_1);(try clear hcz18_2);(try clear hcz18_3);(try clear hfz11_0);(try clear hfz11_1);(try clear hfz11_2);(try clear hfz11_3);(try clear hfz18_0);(try clear hfz18_1);(try clear hfz18_2);(try clear hfz18_3);(try clear hx166_0);(try clear hx166_1);(try clear hx166_2);(try clear hx166_3);(try clear p166);(try clear q166)
         obtain ⟨kq,x63_26,rfl,HA,HJ26,HO_12,BK164,BK167,HB⟩:=hcut
         cases kq with
         | zero=>exact absurd HA.out (by simp [spec_BlkPut.j2])
         | succ kj26 =>
          have H:=HA.out;clear HA;simp only [spec_BlkPut.j2] at H
          by_cases c33:x63_26=true
          ·subst c33;rw [if_pos rfl] at H
           by_cases c34:x12_1.length<4398046511104
           ·rw [if_pos c34] at H;have LMc34:=mA c34;clear c34;obtain ⟨y169,hy169⟩:∃ y_:List (S138),y_=(x12_1 ++ [(⟨a1,a2,a3,a4⟩:S138)]):=⟨_,rfl⟩
            replace H:(if x17_14=true then (spec_BlkPut.l0 kj26 l0 a1 a2 a3 y169 true (wrap64 (x15_1+1)) a1 a2 a3 a4) else (if y169.length<4398046511104 then (spec_BlkPut.l0 kj26 l0 a1 a2 a3 (y169 ++ [(⟨((rd_T138 l0 x15_1).f0),((rd_T138 l0 x15_1).f1),((rd_T138 l0 x15_1).f2),((rd_T138 l0 x15_1).f3)⟩:S138)]) true (wrap64 (x15_1+1)) a1 a2 a3 a4) else (none)))=some (r1,r2):=qH hy169 H
            have Ny169:=mA hy169;clear hy169
            by_cases c35:x17_14=true
            ·subst c35;rw [if_pos rfl] at H;have H':=mA H;clear H;have hnb36:=NB164_167.out;have hnc36:=NB167_164.out;obtain ⟨hcz37_0,hcz37_1,hcz37_2,hcz37_3,hfz37_0,hfz37_1,hfz37_2,hfz37_3⟩:=box4 BK164.out
             go_wp2_with (first|((with_reducible refine gate_builtin (b:=.append) (xs:=#[.tmp 64,.tmp 66]) rfl ?_);at_builtin;refine Kd.R_append k138 (w0:=w) w.heap.size rfl (.tmp 64) (.tmp 66) 25 138 (.agg #[(.int .i64 0),(.int .i64 0),(.int .i64 0),(.int .i64 0)]) 32 rfl Try.underlying25 info138 rfl aD (by omega) u12 x12_1 (⟨a1,a2,a3,a4⟩:S138) [.int .i64 a1,.int .i64 a2,.int .i64 a3,.int .i64 a4] (fun k_=>k_≠gb164∧k_≠gb167) (fun _=>False) rfl rfl ?aP (fun _ hk=>hk.elim) ?aF ?aO ?aB ?aS ?aL ?_;(case aP=>exact k138_mkM _ _ _ (⟨a1,a2,a3,a4⟩:S138));(case aB=>exact (pS HB.out));(case aF=>exact (fun k_ hk=>⟨Kd.freshB (g:=gb164) (o:=.cells #[.int .i64 a1,.int .i64 a2,.int .i64 a3,.int .i64 a4] 138 (0,0)) (pK BK164.out) k_ hk,Kd.freshB (g:=gb167) (o:=.cells #[.int .i64 ((rd_T138 l0 x15_1).f0),.int .i64 ((rd_T138 l0 x15_1).f1),.int .i64 ((rd_T138 l0 x15_1).f2),.int .i64 ((rd_T138 l0 x15_1).f3)] 138 (0,0)) (pK BK167.out) k_ hk⟩));(case aO=>exact (pR HO_12.out));(case aS=>exact (bpS HB));(case aL=>have:=LMc34.out;omega);intro v170 w38 ho hb hg hat;rw [← Ny169.out] at ho;have HO171:=mA ho;replace BK164:=mA (blk_grown (g:=gb164) (o:=.cells #[.int .i64 a1,.int .i64 a2,.int .i64 a3,.int .i64 a4] 138 (0,0)) (pK BK164.out) hg (Kd.R_away HO_12.out (fun _ hk=>hk.1)));replace BK167:=mA (blk_grown (g:=gb167) (o:=.cells #[.int .i64 ((rd_T138 l0 x15_1).f0),.int .i64 ((rd_T138 l0 x15_1).f1),.int .i64 ((rd_T138 l0 x15_1).f2),.int .i64 ((rd_T138 l0 x15_1).f3)] 138 (0,0)) (pK BK167.out) hg (Kd.R_away HO_12.out (fun _ hk=>hk.2)));replace HB:=mA hb;clear HO_12;clear ho hb hg hat))
             go_roundg kj26
             case measure=>have:=HK1.out;have:=HJ14.out;have:=HJ26.out;omega
             case rel=>exact ⟨(y169),(true),(wrap64 (x15_1+1)),bZ,bZ,H',⟨by have:=HK1.out;have:=HJ14.out;have:=HJ26.out;omega⟩,⟨pR (Kd.R_mono HO171.out (fun _ hk=>hk.1))⟩,⟨pK BK164.out⟩,⟨pS HB.out⟩⟩
            ·replace c35:=Bool.eq_false_iff.mpr c35;subst c35
             rw [if_neg nFT] at H
             by_cases c39:y169.length<4398046511104
             ·rw [if_pos c39] at H;have LMc39:=mA c39;clear c39;obtain ⟨y172,hy172⟩:∃ y_:List (S138),y_=(y169 ++ [(⟨((rd_T138 l0 x15_1).f0),((rd_T138 l0 x15_1).f1),((rd_T138 l0 x15_1).f2),((rd_T138 l0 x15_1).f3)⟩:S138)]):=⟨_,rfl⟩
              replace H:(spec_BlkPut.l0 kj26 l0 a1 a2 a3 y172 true (wrap64 (x15_1+1)) a1 a2 a3 a4)=some (r1,r2):=qH hy172 H
              have Ny172:=mA hy172;clear hy172;have H':=mA H;clear H;have hnb40:=NB164_167.out;have hnc40:=NB167_164.out;obtain ⟨hcz41_0,hcz41_1,hcz41_2,hcz41_3,hfz41_0,hfz41_1,hfz41_2,hfz41_3⟩:=box4 BK164.out
              go_wp2_with (first|((with_reducible refine gate_builtin (b:=.append) (xs:=#[.tmp 64,.tmp 66]) rfl ?_);at_builtin;refine Kd.R_append k138 (w0:=w) w.heap.size rfl (.tmp 64) (.tmp 66) 25 138 (.agg #[(.int .i64 0),(.int .i64 0),(.int .i64 0),(.int .i64 0)]) 32 rfl Try.underlying25 info138 rfl aD (by omega) u12 x12_1 (⟨a1,a2,a3,a4⟩:S138) [.int .i64 a1,.int .i64 a2,.int .i64 a3,.int .i64 a4] (fun k_=>k_≠gb164∧k_≠gb167) (fun _=>False) rfl rfl ?aP (fun _ hk=>hk.elim) ?aF ?aO ?aB ?aS ?aL ?_;(case aP=>exact k138_mkM _ _ _ (⟨a1,a2,a3,a4⟩:S138));(case aB=>exact (pS HB.out));(case aF=>exact (fun k_ hk=>⟨Kd.freshB (g:=gb164) (o:=.cells #[.int .i64 a1,.int .i64 a2,.int .i64 a3,.int .i64 a4] 138 (0,0)) (pK BK164.out) k_ hk,Kd.freshB (g:=gb167) (o:=.cells #[.int .i64 ((rd_T138 l0 x15_1).f0),.int .i64 ((rd_T138 l0 x15_1).f1),.int .i64 ((rd_T138 l0 x15_1).f2),.int .i64 ((rd_T138 l0 x15_1).f3)] 138 (0,0)) (pK BK167.out) k_ hk⟩));(case aO=>exact (pR HO_12.out));(case aS=>exact (bpS HB));(case aL=>have:=LMc34.out;omega);intro v170 w42 ho hb hg hat;rw [← Ny169.out] at ho;have HO171:=mA ho;replace BK164:=mA (blk_grown (g:=gb164) (o:=.cells #[.int .i64 a1,.int .i64 a2,.int .i64 a3,.int .i64 a4] 138 (0,0)) (pK BK164.out) hg (Kd.R_away HO_12.out (fun _ hk=>hk.1)));replace BK167:=mA (blk_grown (g:=gb167) (o:=.cells #[.int .i64 ((rd_T138 l0 x15_1).f0),.int .i64 ((rd_T138 l0 x15_1).f1),.int .i64 ((rd_T138 l0 x15_1).f2),.int .i64 ((rd_T138 l0 x15_1).f3)] 138 (0,0)) (pK BK167.out) hg (Kd.R_away HO_12.out (fun _ hk=>hk.2)));replace HB:=mA hb;clear HO_12;clear ho hb hg hat;obtain ⟨hcz43_0,hcz43_1,hcz43_2,hcz43_3,hfz43_0,hfz43_1,hfz43_2,hfz43_3⟩:=box4 BK167.out)|((with_reducible refine gate_builtin (b:=.append) (xs:=#[.tmp 70,.tmp 72]) rfl ?_);at_builtin;refine Kd.R_append k138 (w0:=w) w.heap.size rfl (.tmp 70) (.tmp 72) 25 138 (.agg #[(.int .i64 0),(.int .i64 0),(.int .i64 0),(.int .i64 0)]) 32 rfl Try.underlying25 info138 rfl aD (by omega) v170 y169 (⟨((rd_T138 l0 x15_1).f0),((rd_T138 l0 x15_1).f1),((rd_T138 l0 x15_1).f2),((rd_T138 l0 x15_1).f3)⟩:S138) [.int .i64 ((rd_T138 l0 x15_1).f0),.int .i64 ((rd_T138 l0 x15_1).f1),.int .i64 ((rd_T138 l0 x15_1).f2),.int .i64 ((rd_T138 l0 x15_1).f3)] (fun k_=>k_≠gb164∧k_≠gb167) (fun _=>False) rfl rfl ?aP (fun _ hk=>hk.elim) ?aF ?aO ?aB ?aS ?aL ?_;(case aP=>exact k138_mkM _ _ _ (⟨((rd_T138 l0 x15_1).f0),((rd_T138 l0 x15_1).f1),((rd_T138 l0 x15_1).f2),((rd_T138 l0 x15_1).f3)⟩:S138));(case aB=>exact (pS HB.out));(case aF=>exact (fun k_ hk=>⟨Kd.freshB (g:=gb164) (o:=.cells #[.int .i64 a1,.int .i64 a2,.int .i64 a3,.int .i64 a4] 138 (0,0)) (pK BK164.out) k_ hk,Kd.freshB (g:=gb167) (o:=.cells #[.int .i64 ((rd_T138 l0 x15_1).f0),.int .i64 ((rd_T138 l0 x15_1).f1),.int .i64 ((rd_T138 l0 x15_1).f2),.int .i64 ((rd_T138 l0 x15_1).f3)] 138 (0,0)) (pK BK167.out) k_ hk⟩));(case aO=>exact (pR HO171.out));(case aS=>exact (bpS HB));(case aL=>have:=LMc39.out;omega);intro v173 w44 ho hb hg hat;rw [← Ny172.out] at ho;have HO174:=mA ho;replace BK164:=mA (blk_grown (g:=gb164) (o:=.cells #[.int .i64 a1,.int .i64 a2,.int .i64 a3,.int .i64 a4] 138 (0,0)) (pK BK164.out) hg (Kd.R_away HO171.out (fun _ hk=>hk.1)));replace BK167:=mA (blk_grown (g:=gb167) (o:=.cells #[.int .i64 ((rd_T138 l0 x15_1).f0),.int .i64 ((rd_T138 l0 x15_1).f1),.int .i64 ((rd_T138 l0 x15_1).f2),.int .i64 ((rd_T138 l0 x15_1).f3)] 138 (0,0)) (pK BK167.out) hg (Kd.R_away HO171.out (fun _ hk=>hk.2)));replace HB:=mA hb;clear HO171;clear ho hb hg hat))
              go_roundg kj26
              case measure=>have:=HK1.out;have:=HJ14.out;have:=HJ26.out;omega
              case rel=>exact ⟨(y172),(true),(wrap64 (x15_1+1)),bZ,bZ,H',⟨by have:=HK1.out;have:=HJ14.out;have:=HJ26.out;omega⟩,⟨pR (Kd.R_mono HO174.out (fun _ hk=>hk.1))⟩,⟨pK BK164.out⟩,⟨pS HB.out⟩⟩
             ·rw [if_neg c39] at H
              exact absurd H (by simp)
           ·rw [if_neg c34] at H
            exact absurd H (by simp)
          ·replace c33:=Bool.eq_false_iff.mpr c33;subst c33
           rw [if_neg nFT] at H
           by_cases c45:x17_14=true
           ·subst c45;rw [if_pos rfl] at H;have H':=mA H;clear H
            go_wp2
            go_roundg kj26
            case measure=>have:=HK1.out;have:=HJ14.out;have:=HJ26.out;omega
            case rel=>exact ⟨(x12_1),(x14_1),(wrap64 (x15_1+1)),bZ,bZ,H',⟨by have:=HK1.out;have:=HJ14.out;have:=HJ26.out;omega⟩,⟨pR (Kd.R_mono HO_12.out (fun _ hk=>hk.1))⟩,⟨pK BK164.out⟩,⟨pS HB.out⟩⟩
           ·replace c45:=Bool.eq_false_iff.mpr c45;subst c45
            rw [if_neg nFT] at H
            by_cases c46:x12_1.length<4398046511104
            ·rw [if_pos c46] at H;have LMc46:=mA c46;clear c46;obtain ⟨y175,hy175⟩:∃ y_:List (S138),y_=(x12_1 ++ [(⟨((rd_T138 l0 x15_1).f0),((rd_T138 l0 x15_1).f1),((rd_T138 l0 x15_1).f2),((rd_T138 l0 x15_1).f3)⟩:S138)]):=⟨_,rfl⟩
             replace H:(spec_BlkPut.l0 kj26 l0 a1 a2 a3 y175 x14_1 (wrap64 (x15_1+1)) a1 a2 a3 a4)=some (r1,r2):=qH hy175 H
             have Ny175:=mA hy175;clear hy175;have H':=mA H;clear H;have hnb47:=NB167_164.out;have hnc47:=NB164_167.out;obtain ⟨hcz48_0,hcz48_1,hcz48_2,hcz48_3,hfz48_0,hfz48_1,hfz48_2,hfz48_3⟩:=box4 BK167.out
             go_wp2_with (first|((with_reducible refine gate_builtin (b:=.append) (xs:=#[.tmp 70,.tmp 72]) rfl ?_);at_builtin;refine Kd.R_append k138 (w0:=w) w.heap.size rfl (.tmp 70) (.tmp 72) 25 138 (.agg #[(.int .i64 0),(.int .i64 0),(.int .i64 0),(.int .i64 0)]) 32 rfl Try.underlying25 info138 rfl aD (by omega) u12 x12_1 (⟨((rd_T138 l0 x15_1).f0),((rd_T138 l0 x15_1).f1),((rd_T138 l0 x15_1).f2),((rd_T138 l0 x15_1).f3)⟩:S138) [.int .i64 ((rd_T138 l0 x15_1).f0),.int .i64 ((rd_T138 l0 x15_1).f1),.int .i64 ((rd_T138 l0 x15_1).f2),.int .i64 ((rd_T138 l0 x15_1).f3)] (fun k_=>k_≠gb164∧k_≠gb167) (fun _=>False) rfl rfl ?aP (fun _ hk=>hk.elim) ?aF ?aO ?aB ?aS ?aL ?_;(case aP=>exact k138_mkM _ _ _ (⟨((rd_T138 l0 x15_1).f0),((rd_T138 l0 x15_1).f1),((rd_T138 l0 x15_1).f2),((rd_T138 l0 x15_1).f3)⟩:S138));(case aB=>exact (pS HB.out));(case aF=>exact (fun k_ hk=>⟨Kd.freshB (g:=gb164) (o:=.cells #[.int .i64 a1,.int .i64 a2,.int .i64 a3,.int .i64 a4] 138 (0,0)) (pK BK164.out) k_ hk,Kd.freshB (g:=gb167) (o:=.cells #[.int .i64 ((rd_T138 l0 x15_1).f0),.int .i64 ((rd_T138 l0 x15_1).f1),.int .i64 ((rd_T138 l0 x15_1).f2),.int .i64 ((rd_T138 l0 x15_1).f3)] 138 (0,0)) (pK BK167.out) k_ hk⟩));(case aO=>exact (pR HO_12.out));(case aS=>exact (bpS HB));(case aL=>have:=LMc46.out;omega);intro v176 w49 ho hb hg hat;rw [← Ny175.out] at ho;have HO177:=mA ho;replace BK164:=mA (blk_grown (g:=gb164) (o:=.cells #[.int .i64 a1,.int .i64 a2,.int .i64 a3,.int .i64 a4] 138 (0,0)) (pK BK164.out) hg (Kd.R_away HO_12.out (fun _ hk=>hk.1)));replace BK167:=mA (blk_grown (g:=gb167) (o:=.cells #[.int .i64 ((rd_T138 l0 x15_1).f0),.int .i64 ((rd_T138 l0 x15_1).f1),.int .i64 ((rd_T138 l0 x15_1).f2),.int .i64 ((rd_T138 l0 x15_1).f3)] 138 (0,0)) (pK BK167.out) hg (Kd.R_away HO_12.out (fun _ hk=>hk.2)));replace HB:=mA hb;clear HO_12;clear ho hb hg hat))
             go_roundg kj26
             case measure=>have:=HK1.out;have:=HJ14.out;have:=HJ26.out;omega
             case rel=>exact ⟨(y175),(x14_1),(wrap64 (x15_1+1)),bZ,bZ,H',⟨by have:=HK1.out;have:=HJ14.out;have:=HJ26.out;omega⟩,⟨pR (Kd.R_mono HO177.out (fun _ hk=>hk.1))⟩,⟨pK BK164.out⟩,⟨pS HB.out⟩⟩
            ·rw [if_neg c46] at H
             exact absurd H (by simp)
     ·rw [if_neg c14] at H
      exact absurd H (by simp)
    ·rw [if_neg c13] at H;have c13b0:decide (x15_1<(l0.length:Int))=false:=decide_eq_false c13;clear c13
     by_cases c50:x14_1=true
     ·subst c50;rw [if_pos rfl] at H;obtain ⟨t178,A51,H⟩:=bI H;(try dsimp only at H)
      by_cases c52:t178=true
      ·subst c52;rw [if_pos rfl] at H;simp only [Option.some.injEq,Prod.mk.injEq] at H;obtain ⟨rfl,rfl⟩:=H;obtain ⟨Ao53,co53,rfl⟩:=Kd.R_slice HO_12.out
       go_wp2_with (first|((with_reducible refine gT 81 rfl ?_);refine gC (some 81) Try.func70 (spec_BlkOk.calls (cR HO_12) (cL HO_12) A51.out) ?_;rintro e w54 ⟨rfl,hb⟩;refine ⟨_,rfl,?_⟩;replace HO_12:=rB HO_12 hb;replace BK164:=bK BK164 hb;replace HB:=spS HB hb;(try clear hb)))
       go_ret2
       exact ⟨_,by first|rfl|(simp [errW_none,errW_some]<;>rfl)|(simp [*,errW_none,errW_some]<;>rfl),pR (Kd.R_mono HO_12.out (fun _ hk=>trivial)),pS HB.out⟩
      ·replace c52:=Bool.eq_false_iff.mpr c52;subst c52
       rw [if_neg nFT] at H
       obtain ⟨y179,hy179⟩:∃ y_:List (S138),y_=(([]:List (S138))):=⟨_,rfl⟩
       replace H:(if y179.length+l0.length<4398046511104 then (some ((y179 ++ l0),false)) else (none))=some (r1,r2):=qH hy179 H
       have Ny179:=mA hy179;clear hy179
       by_cases c55:y179.length+l0.length<4398046511104
       ·rw [if_pos c55] at H;have LMc55:=mA c55;clear c55;obtain ⟨y182,hy182⟩:∃ y_:List (S138),y_=(y179 ++ l0):=⟨_,rfl⟩
        replace H:(some (y182,false))=some (r1,r2):=qH hy182 H
        have Ny182:=mA hy182;clear hy182;simp only [Option.some.injEq,Prod.mk.injEq] at H;obtain ⟨rfl,rfl⟩:=H;obtain ⟨Ao56,co56,rfl⟩:=Kd.R_slice HO_12.out
        go_wp2_with (first|((with_reducible refine gT 81 rfl ?_);refine gC (some 81) Try.func70 (spec_BlkOk.calls (cR HO_12) (cL HO_12) A51.out) ?_;rintro e w57 ⟨rfl,hb⟩;refine ⟨_,rfl,?_⟩;replace HO_12:=rB HO_12 hb;replace BK164:=bK BK164 hb;replace HB:=spS HB hb;(try clear hb))|((with_reducible refine gT 83 rfl ?_);refine Kd.R_lit k138 _ 138 ?hg (N:=83) ?hd (xs:=([]:List (S138))) (inner:=[]) (ok:=fun _=>True) (okp:=fun _=>True) ?hr ?hp (fun _ hk=>hk) trivial (Below.refl _ _) (Nat.le_refl _) (by simp) ?_;(case hd=>rfl);(case hg=>rfl);(case hr=>first|(go_simp;done)|(go_simp;rfl));(case hp=>exact (Reps.none _ _));intro v180 w58 ho59 hb hg_ hnew_;clear hg_ hnew_;(first|rw [← Ny179.out] at ho59|(simp only [Int.reduceToNat] at ho59;rw [← Ny179.out] at ho59));have HO181:=mA (Kd.R_lower (Kd.R_newB (Kd.R_new' ho59 (rL HO_12)) (g:=gb164) (o:=.cells #[.int .i64 a1,.int .i64 a2,.int .i64 a3,.int .i64 a4] 138 (0,0)) (pK BK164.out)) (bpS HB));replace HO_12:=rE HO_12 ho59 hb;replace BK164:=bK BK164 hb;replace HB:=spS HB hb;clear hb ho59)|((with_reducible refine gate_builtin (b:=.append) (xs:=#[.tmp 83,.tmp 84]) rfl ?_);at_builtin;refine Kd.R_append_rows k138 (w0:=w) w.heap.size rfl (.tmp 83) (.tmp 84) 25 138 (.agg #[(.int .i64 0),(.int .i64 0),(.int .i64 0),(.int .i64 0)]) 32 rfl Try.underlying25 info138 rfl aD (by omega) v180 y179 l0 _ _ _ (fun k_=>some k_≠(.slice Ao56 x12_1.length co56:Value).ownBlock∧k_≠gb164) (fun _=>False) rfl rfl ?aO ?aR (fun _ _ h=>h) (fun _ h=>h.elim) ?aF ?aB ?aS ?aL ?_;(case aR=>exact cB HR0 HB);(case aB=>exact (pS HB.out));(case aF=>exact (fun k_ hk=>⟨Kd.fresh' (rL HO_12) k_ hk,Kd.freshB (g:=gb164) (o:=.cells #[.int .i64 a1,.int .i64 a2,.int .i64 a3,.int .i64 a4] 138 (0,0)) (pK BK164.out) k_ hk⟩));(case aO=>exact (pR (Kd.R_mono HO181.out (fun _ hk=>⟨hk.1.2,hk.2⟩))));(case aS=>exact (bpS HB));(case aL=>have:=LMc55.out;omega);intro v183 w60 ho hb hg hat;rw [← Ny182.out] at ho;replace HO_12:=mA (Kd.R_after (ok:=(fun k_=>k_≠gb164)) (pR HO_12.out) hg hat);have HO184:=mA ho;replace BK164:=mA (blk_grown (g:=gb164) (o:=.cells #[.int .i64 a1,.int .i64 a2,.int .i64 a3,.int .i64 a4] 138 (0,0)) (pK BK164.out) hg (Kd.R_away HO181.out (fun _ hk=>hk.2)));replace HB:=mA hb;clear HO181;clear ho hb hg hat))
        go_ret2
        exact ⟨_,by first|rfl|(simp [errW_none,errW_some]<;>rfl)|(simp [*,errW_none,errW_some]<;>rfl),pR (Kd.R_mono HO184.out (fun _ hk=>trivial)),pS HB.out⟩
       ·rw [if_neg c55] at H
        exact absurd H (by simp)
     ·replace c50:=Bool.eq_false_iff.mpr c50;subst c50
      rw [if_neg nFT] at H
      by_cases c61:x12_1.length<4398046511104
      ·rw [if_pos c61] at H;have LMc61:=mA c61;clear c61;obtain ⟨y185,hy185⟩:∃ y_:List (S138),y_=(x12_1 ++ [(⟨a1,a2,a3,a4⟩:S138)]):=⟨_,rfl⟩
       replace H:((spec_BlkOk.f k1 y185).bind fun t188=>(if t188=true then (some (y185,true)) else ((some (([]:List (S138)):List (S138))).bind fun y189=>(if y189.length+l0.length<4398046511104 then (some ((y189 ++ l0),false)) else (none)))))=some (r1,r2):=qH hy185 H
       have Ny185:=mA hy185;clear hy185;obtain ⟨t188,A62,H⟩:=bI H;(try dsimp only at H)
       by_cases c63:t188=true
       ·subst c63;rw [if_pos rfl] at H;simp only [Option.some.injEq,Prod.mk.injEq] at H;obtain ⟨rfl,rfl⟩:=H;obtain ⟨hcz64_0,hcz64_1,hcz64_2,hcz64_3,hfz64_0,hfz64_1,hfz64_2,hfz64_3⟩:=box4 BK164.out
        go_wp2_with (first|((with_reducible refine gate_builtin (b:=.append) (xs:=#[.tmp 76,.tmp 78]) rfl ?_);at_builtin;refine Kd.R_append k138 (w0:=w) w.heap.size rfl (.tmp 76) (.tmp 78) 25 138 (.agg #[(.int .i64 0),(.int .i64 0),(.int .i64 0),(.int .i64 0)]) 32 rfl Try.underlying25 info138 rfl aD (by omega) u12 x12_1 (⟨a1,a2,a3,a4⟩:S138) [.int .i64 a1,.int .i64 a2,.int .i64 a3,.int .i64 a4] (fun k_=>k_≠gb164) (fun _=>False) rfl rfl ?aP (fun _ hk=>hk.elim) ?aF ?aO ?aB ?aS ?aL ?_;(case aP=>exact k138_mkM _ _ _ (⟨a1,a2,a3,a4⟩:S138));(case aB=>exact (pS HB.out));(case aF=>exact (fun k_ hk=>Kd.freshB (g:=gb164) (o:=.cells #[.int .i64 a1,.int .i64 a2,.int .i64 a3,.int .i64 a4] 138 (0,0)) (pK BK164.out) k_ hk));(case aO=>exact (pR HO_12.out));(case aS=>exact (bpS HB));(case aL=>have:=LMc61.out;omega);intro v186 w65 ho hb hg hat;rw [← Ny185.out] at ho;have HO187:=mA ho;replace BK164:=mA (blk_grown (g:=gb164) (o:=.cells #[.int .i64 a1,.int .i64 a2,.int .i64 a3,.int .i64 a4] 138 (0,0)) (pK BK164.out) hg (Kd.R_away HO_12.out (fun _ hk=>hk)));replace HB:=mA hb;clear HO_12;clear ho hb hg hat;obtain ⟨Ao66,co66,rfl⟩:=Kd.R_slice HO187.out)|((with_reducible refine gT 81 rfl ?_);refine gC (some 81) Try.func70 (spec_BlkOk.calls (cR HO187) (cL HO187) A62.out) ?_;rintro e w67 ⟨rfl,hb⟩;refine ⟨_,rfl,?_⟩;replace HO187:=rB HO187 hb;replace BK164:=bK BK164 hb;replace HB:=spS HB hb;(try clear hb)))
        go_ret2
        exact ⟨_,by first|rfl|(simp [errW_none,errW_some]<;>rfl)|(simp [*,errW_none,errW_some]<;>rfl),pR (Kd.R_mono HO187.out (fun _ hk=>trivial)),pS HB.out⟩
       ·replace c63:=Bool.eq_false_iff.mpr c63;subst c63
        rw [if_neg nFT] at H
        obtain ⟨y189,hy189⟩:∃ y_:List (S138),y_=(([]:List (S138))):=⟨_,rfl⟩
        replace H:(if y189.length+l0.length<4398046511104 then (some ((y189 ++ l0),false)) else (none))=some (r1,r2):=qH hy189 H
        have Ny189:=mA hy189;clear hy189
        by_cases c68:y189.length+l0.length<4398046511104
        ·rw [if_pos c68] at H;have LMc68:=mA c68;clear c68;obtain ⟨y192,hy192⟩:∃ y_:List (S138),y_=(y189 ++ l0):=⟨_,rfl⟩
         replace H:(some (y192,false))=some (r1,r2):=qH hy192 H
         have Ny192:=mA hy192;clear hy192;simp only [Option.some.injEq,Prod.mk.injEq] at H;obtain ⟨rfl,rfl⟩:=H;obtain ⟨hcz69_0,hcz69_1,hcz69_2,hcz69_3,hfz69_0,hfz69_1,hfz69_2,hfz69_3⟩:=box4 BK164.out
         go_wp2_with (first|((with_reducible refine gate_builtin (b:=.append) (xs:=#[.tmp 76,.tmp 78]) rfl ?_);at_builtin;refine Kd.R_append k138 (w0:=w) w.heap.size rfl (.tmp 76) (.tmp 78) 25 138 (.agg #[(.int .i64 0),(.int .i64 0),(.int .i64 0),(.int .i64 0)]) 32 rfl Try.underlying25 info138 rfl aD (by omega) u12 x12_1 (⟨a1,a2,a3,a4⟩:S138) [.int .i64 a1,.int .i64 a2,.int .i64 a3,.int .i64 a4] (fun k_=>k_≠gb164) (fun _=>False) rfl rfl ?aP (fun _ hk=>hk.elim) ?aF ?aO ?aB ?aS ?aL ?_;(case aP=>exact k138_mkM _ _ _ (⟨a1,a2,a3,a4⟩:S138));(case aB=>exact (pS HB.out));(case aF=>exact (fun k_ hk=>Kd.freshB (g:=gb164) (o:=.cells #[.int .i64 a1,.int .i64 a2,.int .i64 a3,.int .i64 a4] 138 (0,0)) (pK BK164.out) k_ hk));(case aO=>exact (pR HO_12.out));(case aS=>exact (bpS HB));(case aL=>have:=LMc61.out;omega);intro v186 w70 ho hb hg hat;rw [← Ny185.out] at ho;have HO187:=mA ho;replace BK164:=mA (blk_grown (g:=gb164) (o:=.cells #[.int .i64 a1,.int .i64 a2,.int .i64 a3,.int .i64 a4] 138 (0,0)) (pK BK164.out) hg (Kd.R_away HO_12.out (fun _ hk=>hk)));replace HB:=mA hb;clear HO_12;clear ho hb hg hat;obtain ⟨Ao71,co71,rfl⟩:=Kd.R_slice HO187.out)|((with_reducible refine gT 81 rfl ?_);refine gC (some 81) Try.func70 (spec_BlkOk.calls (cR HO187) (cL HO187) A62.out) ?_;rintro e w72 ⟨rfl,hb⟩;refine ⟨_,rfl,?_⟩;replace HO187:=rB HO187 hb;replace BK164:=bK BK164 hb;replace HB:=spS HB hb;(try clear hb))|((with_reducible refine gT 83 rfl ?_);refine Kd.R_lit k138 _ 138 ?hg (N:=83) ?hd (xs:=([]:List (S138))) (inner:=[]) (ok:=fun _=>True) (okp:=fun _=>True) ?hr ?hp (fun _ hk=>hk) trivial (Below.refl _ _) (Nat.le_refl _) (by simp) ?_;(case hd=>rfl);(case hg=>rfl);(case hr=>first|(go_simp;done)|(go_simp;rfl));(case hp=>exact (Reps.none _ _));intro v190 w73 ho74 hb hg_ hnew_;clear hg_ hnew_;(first|rw [← Ny189.out] at ho74|(simp only [Int.reduceToNat] at ho74;rw [← Ny189.out] at ho74));have HO191:=mA (Kd.R_lower (Kd.R_newB (Kd.R_new' ho74 (rL HO187)) (g:=gb164) (o:=.cells #[.int .i64 a1,.int .i64 a2,.int .i64 a3,.int .i64 a4] 138 (0,0)) (pK BK164.out)) (bpS HB));replace HO187:=rE HO187 ho74 hb;replace BK164:=bK BK164 hb;replace HB:=spS HB hb;clear hb ho74)|((with_reducible refine gate_builtin (b:=.append) (xs:=#[.tmp 83,.tmp 84]) rfl ?_);at_builtin;refine Kd.R_append_rows k138 (w0:=w) w.heap.size rfl (.tmp 83) (.tmp 84) 25 138 (.agg #[(.int .i64 0),(.int .i64 0),(.int .i64 0),(.int .i64 0)]) 32 rfl Try.underlying25 info138 rfl aD (by omega) v190 y189 l0 _ _ _ (fun k_=>some k_≠(.slice Ao71 y185.length co71:Value).ownBlock∧k_≠gb164) (fun _=>False) rfl rfl ?aO ?aR (fun _ _ h=>h) (fun _ h=>h.elim) ?aF ?aB ?aS ?aL ?_;(case aR=>exact cB HR0 HB);(case aB=>exact (pS HB.out));(case aF=>exact (fun k_ hk=>⟨Kd.fresh' (rL HO187) k_ hk,Kd.freshB (g:=gb164) (o:=.cells #[.int .i64 a1,.int .i64 a2,.int .i64 a3,.int .i64 a4] 138 (0,0)) (pK BK164.out) k_ hk⟩));(case aO=>exact (pR (Kd.R_mono HO191.out (fun _ hk=>⟨hk.1.2,hk.2⟩))));(case aS=>exact (bpS HB));(case aL=>have:=LMc68.out;omega);intro v193 w75 ho hb hg hat;rw [← Ny192.out] at ho;replace HO187:=mA (Kd.R_after (ok:=(fun k_=>k_≠gb164)) (pR HO187.out) hg hat);have HO194:=mA ho;replace BK164:=mA (blk_grown (g:=gb164) (o:=.cells #[.int .i64 a1,.int .i64 a2,.int .i64 a3,.int .i64 a4] 138 (0,0)) (pK BK164.out) hg (Kd.R_away HO191.out (fun _ hk=>hk.2)));replace HB:=mA hb;clear HO191;clear ho hb hg hat))
         go_ret2
         exact ⟨_,by first|rfl|(simp [errW_none,errW_some]<;>rfl)|(simp [*,errW_none,errW_some]<;>rfl),pR (Kd.R_mono HO194.out (fun _ hk=>trivial)),pS HB.out⟩
        ·rw [if_neg c68] at H
         exact absurd H (by simp)
      ·rw [if_neg c61] at H
       exact absurd H (by simp)
 ·replace c7:=Bool.eq_false_iff.mpr c7;subst c7
  rw [if_neg nFT] at H
  simp only [Option.some.injEq,Prod.mk.injEq] at H;obtain ⟨rfl,rfl⟩:=H
  go_enter Try.func141,Try.ntmps141
  go_wp2_with (first|((with_reducible refine gT 18 rfl ?_);refine Kd.R_lit k138 _ 138 ?hg (N:=18) ?hd (xs:=([]:List (S138))) (inner:=[]) (ok:=fun _=>True) (okp:=fun _=>True) ?hr ?hp (fun _ hk=>hk) trivial (Below.refl _ _) (Nat.le_refl _) (by simp) ?_;(case hd=>rfl);(case hg=>rfl);(case hr=>first|(go_simp;done)|(go_simp;rfl));(case hp=>exact (Reps.none _ _));intro v162 w76 ho77 hb hg_ hnew_;clear hg_ hnew_;(first|rw [← Ny161.out] at ho77|(simp only [Int.reduceToNat] at ho77;rw [← Ny161.out] at ho77));have HO163:=mA (Kd.R_lower ho77 (bpB HB));replace HB:=spB HB hb;clear hb ho77)|((with_reducible refine gT 13 rfl ?_);refine bE 13 #[.int .i64 0,.int .i64 0,.int .i64 0,.int .i64 0] 138 ?_;intro gb164 hg w78 hbox hb;replace HO163:=mA (Kd.R_below (Kd.R_elderB (pR HO163.out) gb164 (Nat.le_of_eq hg.symm)) hb);have BK164:=mA hbox;have GW164:=gbpB HB hg;have GE164:=gbpB HB hg;replace HB:=spB HB hb;clear hb hbox hg;obtain ⟨hcz79_0,hcz79_1,hcz79_2,hcz79_3,hfz79_0,hfz79_1,hfz79_2,hfz79_3⟩:=box4 BK164.out)|((with_reducible refine gT 25 rfl ?_);refine gC (some 25) Try.func70 (spec_BlkOk.calls (Kd.C_below HR0.out (pS HB.out)) HC0.out A6.out) ?_;rintro e w80 ⟨rfl,hb⟩;refine ⟨_,rfl,?_⟩;replace HO163:=mA (Kd.R_below (pR (Kd.R_mono (Kd.R_far (p:=⟨gb164,3,none⟩) (Kd.R_far (p:=⟨gb164,2,none⟩) (Kd.R_far (p:=⟨gb164,1,none⟩) (Kd.R_far (p:=⟨gb164,0,none⟩) (Kd.R_mono HO163.out (fun k_ hk=>(⟨hk,hk.2⟩:_∧k_≠gb164))) (fun _ hk=>hk.2) (.int .i64 a1)) (fun _ hk=>hk.2) (.int .i64 a2)) (fun _ hk=>hk.2) (.int .i64 a3)) (fun _ hk=>hk.2) (.int .i64 a4)) (fun _ h_=>h_.1))) hb);replace BK164:=mA (blk_below (g:=gb164) (o:=.cells #[.int .i64 a1,.int .i64 a2,.int .i64 a3,.int .i64 a4] 138 (0,0)) (pP BK164) hb);replace HB:=spS HB hb;(try clear hb);(try clear hk)))
  go_ret2
  exact ⟨_,by first|rfl|(simp [errW_none,errW_some]<;>rfl)|(simp [*,errW_none,errW_some]<;>rfl),pR (Kd.R_mono HO163.out (fun _ hk=>trivial)),pS HB.out⟩

/-! ### spec_l72Pieces: function 139 -/
def spec_l72Pieces.l0 : Nat → List (S138) → Int → List Int → Int → Option ((List (S138)) × Int)
 | 0,_,_,_,_=>none
 | k+1,x5,x6,x1000,x1001=>if x6 > 0 then ((spec_l6Rd_pick.f k x1000 x1001 3).bind fun bt200=>((spec_l6Rd_pick.f k x1000 bt200.2 3).bind fun bt202=>((spec_l6Rd_pick.f k x1000 bt202.2 3).bind fun bt204=>((spec_l6Rd_pick.f k x1000 bt204.2 100).bind fun bt206=>((spec_BlkPut.f k x5 (wrap64 (1+bt200.1)) bt202.1 (wrap64 (1+bt204.1)) bt206.1).bind fun bt208=>(spec_l72Pieces.l0 k bt208.1 (wrap64 (x6 - 1)) x1000 bt206.2)))))) else (some (x5,x1001))
def spec_l72Pieces.f (k : Nat) (s0_0 : List Int) (s0_1 : Int) (a1 : Int) : Option ((List (S138)) × Int) := (spec_l6Rd_pick.f k s0_0 s0_1 a1).bind fun bt198 => (spec_l72Pieces.l0 k (([] : List (S138))) bt198.1 s0_0 bt198.2)
theorem spec_l72Pieces.mono_l : ∀ k, (∀ y0 y1 y2 y3, LeO (spec_l72Pieces.l0 k y0 y1 y2 y3) (spec_l72Pieces.l0 (k + 1) y0 y1 y2 y3))
 | 0=>fun _ _ _ _ r h=>by simp [spec_l72Pieces.l0] at h
 | k+1=>by
  have ih0:=spec_l72Pieces.mono_l k
  ·intros
   unfold spec_l72Pieces.l0
   repeat' first
   | (with_reducible first|apply ih0|apply spec_BlkPut.mono|apply spec_l6Rd_pick.mono|exact LeO.refl _|exact LeO.none _|refine LeO.ite ?_ ?_|refine LeO.bind ?_ (fun _=>?_))|exact LeO.none _|refine LeO.ite ?_ ?_|refine LeO.bind ?_ (fun _=>?_)
theorem spec_l72Pieces.mono : ∀ a0 a1 a2 k, LeO (spec_l72Pieces.f k a0 a1 a2) (spec_l72Pieces.f (k + 1) a0 a1 a2) := by
 intro a0 a1 a2 k;have ih0:=spec_l72Pieces.mono_l k
 unfold spec_l72Pieces.f
 repeat' first
   | (with_reducible first|apply ih0|apply spec_BlkPut.mono|apply spec_l6Rd_pick.mono|exact LeO.refl _|exact LeO.none _|refine LeO.ite ?_ ?_|refine LeO.bind ?_ (fun _=>?_))|exact LeO.none _|refine LeO.ite ?_ ?_|refine LeO.bind ?_ (fun _=>?_)
set_option maxHeartbeats 8000000 in
set_option maxRecDepth 100000 in
theorem spec_l72Pieces.calls {k : Nat} {g : Nat} {s0_0 : List Int} {s0_1 : Int} {a1 : Int} {r1 : List (S138)} {r2 : Int} {w0 w : World} (hI : IsS136 w0 w g s0_0 s0_1) (hB : Below w0.heap.size w0 w) (h : spec_l72Pieces.f k s0_0 s0_1 a1 = some (r1, r2)) :
  Calls Try.prog 139 #[.pointer (some ⟨g,0,none⟩),.int .i64 a1] w fun e w'=>∃ v0_:Value,e=.returned (v0_)∧Kd.R k138 138 w' w.heap.size (fun _=>True) v0_ r1∧IsS136 w0 w' g s0_0 r2∧Below w0.heap.size w0 w'∧KeepBut w w' g none:=by
 have HI0:=mA hI;have HK:=mA (KeepBut.refl w g none);have HL:=mA hB.size;clear hI;have HW0:=mA hB.size;have HB:=mA hB;clear hB;have H:((spec_l6Rd_pick.f k s0_0 s0_1 a1).bind fun bt198=>(spec_l72Pieces.l0 k (([]:List (S138))) bt198.1 s0_0 bt198.2))=some (r1,r2):=h;clear h;obtain ⟨y195,hy195⟩:∃ y_:List (S138),y_=(([]:List (S138))):=⟨_,rfl⟩
 replace H:((spec_l6Rd_pick.f k s0_0 s0_1 a1).bind fun bt198=>(spec_l72Pieces.l0 k y195 bt198.1 s0_0 bt198.2))=some (r1,r2):=qH hy195 H
 have Ny195:=mA hy195;clear hy195;obtain ⟨⟨t198,t199⟩,A3,H⟩:=bI H;(try dsimp only at H);have H':=mA H;clear H
 go_enter Try.func139,Try.ntmps139
 go_wp2_with (first|((with_reducible refine gT 7 rfl ?_);refine Kd.R_lit k138 _ 138 ?hg (N:=7) ?hd (xs:=([]:List (S138))) (inner:=[]) (ok:=fun _=>True) (okp:=fun _=>True) ?hr ?hp (fun _ hk=>hk) trivial (Below.refl _ _) (Nat.le_refl _) (by simp) ?_;(case hd=>rfl);(case hg=>rfl);(case hr=>first|(go_simp;done)|(go_simp;rfl));(case hp=>exact (Reps.none _ _));intro v196 w4 ho5 hb hg_ hnew_;clear hg_ hnew_;(first|rw [← Ny195.out] at ho5|(simp only [Int.reduceToNat] at ho5;rw [← Ny195.out] at ho5));have HO197:=mA (Kd.R_lower ho5 (kS HK));replace HK:=mA (KeepBut.trans (pH HK) (KeepBut.of_below hb g none) (.inl rfl));replace HB:=mA (below_step (pQ HB (IsS136.ge HI0.out)) hb);replace HI0:=mA (IsS136.below (IsS136.p HI0) hb);clear hb ho5)|((with_reducible refine gT 10 rfl ?_);refine gC (some 10) Try.func111 (spec_l6Rd_pick.calls (IsS136.p HI0) (pQ HB (IsS136.ge HI0.out)) A3.out) ?_;rintro e w6 ⟨rfl,hi,hb,hk⟩;refine ⟨_,rfl,?_⟩;replace HO197:=mA (rK (IsS136.apart (IsS136.p HI0) (pR HO197.out) aD) hk);replace HK:=mA (KeepBut.trans (pH HK) hk (.inl rfl));replace HB:=mA hb;replace HI0:=mA hi;(try clear hb);(try clear hk);(try clear hi)))
 go_loopg [5,6] k (fun kq v5 v6 w'=>∃ (x5_1:List (S138)) (x6_1:Int) (x1001_1:Int),v6=.int .i64 x6_1∧Aside0 (spec_l72Pieces.l0 kq x5_1 x6_1 s0_0 x1001_1=some (r1,r2))∧Aside0 (kq≤k)∧Aside0 (Kd.R k138 138 w' w.heap.size (fun _=>True) v5 x5_1)∧Aside0 (IsS136 w0 w' g s0_0 x1001_1)∧Aside0 (KeepBut w w' g none)∧Aside0 (Below w0.heap.size w0 w'))
 case atStart=>exact ⟨(y195),(t198),(t199),bZ,H',⟨Nat.le_refl _⟩,⟨pR HO197.out⟩,⟨IsS136.p HI0⟩,⟨pH HK⟩,⟨pQ HB (IsS136.ge HI0.out)⟩⟩
 case round =>
  clear H'
  obtain ⟨x5_1,x6_1,x1001_1,rfl,HA,HK1,HO_5,HI0,HK,HB⟩:=hrel
  cases gk with
  | zero=>exact absurd HA.out (by simp [spec_l72Pieces.l0])
  | succ k1 =>
   have H:=HA.out;clear HA;simp only [spec_l72Pieces.l0] at H
   by_cases c7:x6_1 > 0
   ·rw [if_pos c7] at H;have c7b0:decide (0<x6_1)=true:=decide_eq_true c7;clear c7;obtain ⟨⟨t200,t201⟩,A8,H⟩:=bI H;(try dsimp only at H);obtain ⟨⟨t202,t203⟩,A9,H⟩:=bI H;(try dsimp only at H);obtain ⟨⟨t204,t205⟩,A10,H⟩:=bI H;(try dsimp only at H);obtain ⟨⟨t206,t207⟩,A11,H⟩:=bI H;(try dsimp only at H);obtain ⟨⟨t208,t209⟩,A12,H⟩:=bI H;(try dsimp only at H);have H':=mA H;clear H
    go_wp2_with (first|((with_reducible refine gT 18 rfl ?_);refine gC (some 18) Try.func111 (spec_l6Rd_pick.calls (IsS136.p HI0) (pQ HB (IsS136.ge HI0.out)) A8.out) ?_;rintro e w13 ⟨rfl,hi,hb,hk⟩;refine ⟨_,rfl,?_⟩;replace HO_5:=mA (rK (IsS136.apart (IsS136.p HI0) (pR HO_5.out) aD) hk);replace HK:=mA (KeepBut.trans (pH HK) hk (.inl rfl));replace HB:=mA hb;replace HI0:=mA hi;(try clear hb);(try clear hk);(try clear hi))|((with_reducible refine gT 21 rfl ?_);refine gC (some 21) Try.func111 (spec_l6Rd_pick.calls (IsS136.p HI0) (pQ HB (IsS136.ge HI0.out)) A9.out) ?_;rintro e w14 ⟨rfl,hi,hb,hk⟩;refine ⟨_,rfl,?_⟩;replace HO_5:=mA (rK (IsS136.apart (IsS136.p HI0) (pR HO_5.out) aD) hk);replace HK:=mA (KeepBut.trans (pH HK) hk (.inl rfl));replace HB:=mA hb;replace HI0:=mA hi;(try clear hb);(try clear hk);(try clear hi))|((with_reducible refine gT 23 rfl ?_);refine gC (some 23) Try.func111 (spec_l6Rd_pick.calls (IsS136.p HI0) (pQ HB (IsS136.ge HI0.out)) A10.out) ?_;rintro e w15 ⟨rfl,hi,hb,hk⟩;refine ⟨_,rfl,?_⟩;replace HO_5:=mA (rK (IsS136.apart (IsS136.p HI0) (pR HO_5.out) aD) hk);replace HK:=mA (KeepBut.trans (pH HK) hk (.inl rfl));replace HB:=mA hb;replace HI0:=mA hi;(try clear hb);(try clear hk);(try clear hi))|((with_reducible refine gT 26 rfl ?_);refine gC (some 26) Try.func111 (spec_l6Rd_pick.calls (IsS136.p HI0) (pQ HB (IsS136.ge HI0.out)) A11.out) ?_;rintro e w16 ⟨rfl,hi,hb,hk⟩;refine ⟨_,rfl,?_⟩;replace HO_5:=mA (rK (IsS136.apart (IsS136.p HI0) (pR HO_5.out) aD) hk);replace HK:=mA (KeepBut.trans (pH HK) hk (.inl rfl));replace HB:=mA hb;replace HI0:=mA hi;(try clear hb);(try clear hk);(try clear hi);obtain ⟨Ao17,co17,rfl⟩:=Kd.R_slice HO_5.out)|((with_reducible refine gT 27 rfl ?_);refine gC (some 27) Try.func141 (spec_BlkPut.calls (cR HO_5) (cL HO_5) A12.out) ?_;rintro e w18 ⟨v210,rfl,ho0,hb⟩;refine ⟨_,rfl,?_⟩;have HO211:=mA (Kd.R_lower (Kd.R_new' ho0 (rL HO_5)) (kS HK));replace HO_5:=rE HO_5 ho0 hb;replace HK:=mA (KeepBut.trans (pH HK) (KeepBut.of_below hb g none) (.inl rfl));replace HB:=mA (below_step (pQ HB (IsS136.ge HI0.out)) hb);replace HI0:=mA (IsS136.below (IsS136.p HI0) hb);(try clear hb);(try clear ho0)))
    go_roundg k1
    case measure=>have:=HK1.out;omega
    case rel=>exact ⟨(t208),(wrap64 (x6_1 - 1)),(t207),bZ,H',⟨by have:=HK1.out;omega⟩,⟨pR (Kd.R_mono HO211.out (fun _ hk=>trivial))⟩,⟨IsS136.p HI0⟩,⟨pH HK⟩,⟨pQ HB (IsS136.ge HI0.out)⟩⟩
   ·rw [if_neg c7] at H;have c7b0:decide (0<x6_1)=false:=decide_eq_false c7;clear c7;simp only [Option.some.injEq,Prod.mk.injEq] at H;obtain ⟨rfl,rfl⟩:=H
    go_wp2
    go_ret
    exact ⟨_,by first|rfl|(simp [errW_none,errW_some]<;>rfl)|(simp [*,errW_none,errW_some]<;>rfl),pR HO_5.out,IsS136.p HI0,pQ HB (IsS136.ge HI0.out),pH HK⟩

/-! ### spec_l72PiecesAny: function 124 -/
def spec_l72PiecesAny.l0 : Nat → List (S138) → Int → List Int → Int → Option ((List (S138)) × Int)
 | 0,_,_,_,_=>none
 | k+1,x3,x4,x1000,x1001=>(spec_l6Rd_pick.f k x1000 x1001 2).bind fun bt227=>(if x4<(wrap64 (60+bt227.1)) then (if x3.length<4398046511104 then (spec_l72PiecesAny.l0 k (x3 ++ [(⟨1,x4,1,x4⟩:S138)]) (wrap64 (x4+1)) x1000 bt227.2) else (none)) else (some (x3,bt227.2)))
def spec_l72PiecesAny.f (k : Nat) (s0_0 : List Int) (s0_1 : Int) : Option ((List (S138)) × Int) := (spec_l72Pieces.f k s0_0 s0_1 9).bind fun bt212 => ((spec_l6Rd_pick.f k s0_0 bt212.2 14).bind fun bt216 => (if bt216.1 = 0 then (if bt212.1.length < 4398046511104 then (some ((bt212.1 ++ [(⟨1, 0, 1, 0⟩ : S138)]), bt216.2)) else (none)) else (if bt216.1 = 1 then (if bt212.1.length < 4398046511104 then (some ((bt212.1 ++ [(⟨99, (-1), 1, 0⟩ : S138)]), bt216.2)) else (none)) else (if bt216.1 = 2 then (spec_l72PiecesAny.l0 k (([] : List (S138))) 0 s0_0 bt216.2) else (some (bt212.1, bt216.2))))))
theorem spec_l72PiecesAny.mono_l : ∀ k, (∀ y0 y1 y2 y3, LeO (spec_l72PiecesAny.l0 k y0 y1 y2 y3) (spec_l72PiecesAny.l0 (k + 1) y0 y1 y2 y3))
 | 0=>fun _ _ _ _ r h=>by simp [spec_l72PiecesAny.l0] at h
 | k+1=>by
  have ih0:=spec_l72PiecesAny.mono_l k
  ·intros
   unfold spec_l72PiecesAny.l0
   repeat' first
   | (with_reducible first|apply ih0|apply spec_l6Rd_pick.mono|apply spec_l72Pieces.mono|exact LeO.refl _|exact LeO.none _|refine LeO.ite ?_ ?_|refine LeO.bind ?_ (fun _=>?_))|exact LeO.none _|refine LeO.ite ?_ ?_|refine LeO.bind ?_ (fun _=>?_)
theorem spec_l72PiecesAny.mono : ∀ a0 a1 k, LeO (spec_l72PiecesAny.f k a0 a1) (spec_l72PiecesAny.f (k + 1) a0 a1) := by
 intro a0 a1 k;have ih0:=spec_l72PiecesAny.mono_l k
 unfold spec_l72PiecesAny.f
 repeat' first
   | (with_reducible first|apply ih0|apply spec_l6Rd_pick.mono|apply spec_l72Pieces.mono|exact LeO.refl _|exact LeO.none _|refine LeO.ite ?_ ?_|refine LeO.bind ?_ (fun _=>?_))|exact LeO.none _|refine LeO.ite ?_ ?_|refine LeO.bind ?_ (fun _=>?_)
set_option maxHeartbeats 8000000 in
set_option maxRecDepth 100000 in
theorem spec_l72PiecesAny.calls {k : Nat} {g : Nat} {s0_0 : List Int} {s0_1 : Int} {r1 : List (S138)} {r2 : Int} {w0 w : World} (hI : IsS136 w0 w g s0_0 s0_1) (hB : Below w0.heap.size w0 w) (h : spec_l72PiecesAny.f k s0_0 s0_1 = some (r1, r2)) :
  Calls Try.prog 124 #[.pointer (some ⟨g,0,none⟩)] w fun e w'=>∃ v0_:Value,e=.returned (v0_)∧Kd.R k138 138 w' w.heap.size (fun _=>True) v0_ r1∧IsS136 w0 w' g s0_0 r2∧Below w0.heap.size w0 w'∧KeepBut w w' g none:=by
 have hu138:=Try.underlying138;have HI0:=mA hI;have HK:=mA (KeepBut.refl w g none);have HL:=mA hB.size;clear hI;have HW0:=mA hB.size;have HB:=mA hB;clear hB;have H:((spec_l72Pieces.f k s0_0 s0_1 9).bind fun bt212=>((spec_l6Rd_pick.f k s0_0 bt212.2 14).bind fun bt216=>(if bt216.1=0 then (if bt212.1.length<4398046511104 then (some ((bt212.1 ++ [(⟨1,0,1,0⟩:S138)]),bt216.2)) else (none)) else (if bt216.1=1 then (if bt212.1.length<4398046511104 then (some ((bt212.1 ++ [(⟨99,(-1),1,0⟩:S138)]),bt216.2)) else (none)) else (if bt216.1=2 then (spec_l72PiecesAny.l0 k (([]:List (S138))) 0 s0_0 bt216.2) else (some (bt212.1,bt216.2)))))))=some (r1,r2):=h;clear h;obtain ⟨⟨t212,t215⟩,A2,H⟩:=bI H;(try dsimp only at H);obtain ⟨⟨t216,t217⟩,A3,H⟩:=bI H;(try dsimp only at H)
 by_cases c4:t216=0
 ·rw [if_pos c4] at H;obtain ⟨c4b0,c4b1⟩:=eqB c4;clear c4
  by_cases c5:t212.length<4398046511104
  ·rw [if_pos c5] at H;have LMc5:=mA c5;clear c5;obtain ⟨y218,hy218⟩:∃ y_:List (S138),y_=(t212 ++ [(⟨1,0,1,0⟩:S138)]):=⟨_,rfl⟩
   replace H:(some (y218,t217))=some (r1,r2):=qH hy218 H
   have Ny218:=mA hy218;clear hy218;simp only [Option.some.injEq,Prod.mk.injEq] at H;obtain ⟨rfl,rfl⟩:=H
   go_enter Try.func124,Try.ntmps124
   go_wp2_with (first|((with_reducible refine gT 6 rfl ?_);refine gC (some 6) Try.func139 (spec_l72Pieces.calls (IsS136.p HI0) (pQ HB (IsS136.ge HI0.out)) A2.out) ?_;rintro e w6 ⟨v213,rfl,ho0,hi,hb,hk⟩;refine ⟨_,rfl,?_⟩;have HO214:=mA (Kd.R_lower ho0 (kS HK));replace HK:=mA (KeepBut.trans (pH HK) hk (.inl rfl));replace HB:=mA hb;replace HI0:=mA hi;(try clear hb);(try clear hk);(try clear hi);(try clear ho0))|((with_reducible refine gT 8 rfl ?_);refine gC (some 8) Try.func111 (spec_l6Rd_pick.calls (IsS136.p HI0) (pQ HB (IsS136.ge HI0.out)) A3.out) ?_;rintro e w7 ⟨rfl,hi,hb,hk⟩;refine ⟨_,rfl,?_⟩;replace HO214:=mA (rK (IsS136.apart (IsS136.p HI0) (pR HO214.out) aD) hk);replace HK:=mA (KeepBut.trans (pH HK) hk (.inl rfl));replace HB:=mA hb;replace HI0:=mA hi;(try clear hb);(try clear hk);(try clear hi))|((with_reducible refine gate_builtin (b:=.append) (xs:=#[.tmp 11,.tmp 13]) rfl ?_);at_builtin;refine Kd.R_append k138 w.heap.size rfl (.tmp 11) (.tmp 13) 25 138 (.agg #[(.int .i64 0),(.int .i64 0),(.int .i64 0),(.int .i64 0)]) 32 rfl Try.underlying25 info138 rfl aD (by omega) v213 t212 (⟨1,0,1,0⟩:S138) [.int .i64 1,.int .i64 0,.int .i64 1,.int .i64 0] (fun _=>True) (fun _=>False) rfl rfl ?aP (fun _ hk=>hk.elim) ?aF ?aO (Below.refl _ _) ?aS ?aL ?_;(case aP=>exact k138_mkM _ _ _ (⟨1,0,1,0⟩:S138));(case aF=>exact (fun _ _=>trivial));(case aO=>exact (pR HO214.out));(case aS=>exact (kS HK));(case aL=>have:=LMc5.out;omega);intro v219 w8 ho hb hg hat;rw [← Ny218.out] at ho;have HO220:=mA ho;replace HB:=mA (below_weaken (pQ HB (IsS136.ge HI0.out)) HL.out hb);replace HI0:=mA (IsS136.grown (IsS136.p HI0) hg (IsS136.own_ne HI0.out HO214.out aD));replace HK:=mA (KeepBut.trans (pH HK) (KeepBut.of_grown hg g) (Kd.R_base2 HO214.out));clear HO214;clear ho hb hg hat))
   go_ret
   exact ⟨_,by first|rfl|(simp [errW_none,errW_some]<;>rfl)|(simp [*,errW_none,errW_some]<;>rfl),pR HO220.out,IsS136.p HI0,pQ HB (IsS136.ge HI0.out),pH HK⟩
  ·rw [if_neg c5] at H
   exact absurd H (by simp)
 ·rw [if_neg c4] at H;have c4b0:(t216 == 0)=false:=beq_eq_false_iff_ne.mpr c4;have c4b1:(t216 != 0)=true:=bne_iff_ne.mpr c4
  by_cases c9:t216=1
  ·rw [if_pos c9] at H;obtain ⟨c9b0,c9b1⟩:=eqB c9;clear c9
   by_cases c10:t212.length<4398046511104
   ·rw [if_pos c10] at H;have LMc10:=mA c10;clear c10;obtain ⟨y221,hy221⟩:∃ y_:List (S138),y_=(t212 ++ [(⟨99,(-1),1,0⟩:S138)]):=⟨_,rfl⟩
    replace H:(some (y221,t217))=some (r1,r2):=qH hy221 H
    have Ny221:=mA hy221;clear hy221;simp only [Option.some.injEq,Prod.mk.injEq] at H;obtain ⟨rfl,rfl⟩:=H
    go_enter Try.func124,Try.ntmps124
    go_wp2_with (first|((with_reducible refine gT 6 rfl ?_);refine gC (some 6) Try.func139 (spec_l72Pieces.calls (IsS136.p HI0) (pQ HB (IsS136.ge HI0.out)) A2.out) ?_;rintro e w11 ⟨v213,rfl,ho0,hi,hb,hk⟩;refine ⟨_,rfl,?_⟩;have HO214:=mA (Kd.R_lower ho0 (kS HK));replace HK:=mA (KeepBut.trans (pH HK) hk (.inl rfl));replace HB:=mA hb;replace HI0:=mA hi;(try clear hb);(try clear hk);(try clear hi);(try clear ho0))|((with_reducible refine gT 8 rfl ?_);refine gC (some 8) Try.func111 (spec_l6Rd_pick.calls (IsS136.p HI0) (pQ HB (IsS136.ge HI0.out)) A3.out) ?_;rintro e w12 ⟨rfl,hi,hb,hk⟩;refine ⟨_,rfl,?_⟩;replace HO214:=mA (rK (IsS136.apart (IsS136.p HI0) (pR HO214.out) aD) hk);replace HK:=mA (KeepBut.trans (pH HK) hk (.inl rfl));replace HB:=mA hb;replace HI0:=mA hi;(try clear hb);(try clear hk);(try clear hi))|((with_reducible refine gate_builtin (b:=.append) (xs:=#[.tmp 17,.tmp 19]) rfl ?_);at_builtin;refine Kd.R_append k138 w.heap.size rfl (.tmp 17) (.tmp 19) 25 138 (.agg #[(.int .i64 0),(.int .i64 0),(.int .i64 0),(.int .i64 0)]) 32 rfl Try.underlying25 info138 rfl aD (by omega) v213 t212 (⟨99,(-1),1,0⟩:S138) [.int .i64 99,.int .i64 (-1),.int .i64 1,.int .i64 0] (fun _=>True) (fun _=>False) rfl rfl ?aP (fun _ hk=>hk.elim) ?aF ?aO (Below.refl _ _) ?aS ?aL ?_;(case aP=>exact k138_mkM _ _ _ (⟨99,(-1),1,0⟩:S138));(case aF=>exact (fun _ _=>trivial));(case aO=>exact (pR HO214.out));(case aS=>exact (kS HK));(case aL=>have:=LMc10.out;omega);intro v222 w13 ho hb hg hat;rw [← Ny221.out] at ho;have HO223:=mA ho;replace HB:=mA (below_weaken (pQ HB (IsS136.ge HI0.out)) HL.out hb);replace HI0:=mA (IsS136.grown (IsS136.p HI0) hg (IsS136.own_ne HI0.out HO214.out aD));replace HK:=mA (KeepBut.trans (pH HK) (KeepBut.of_grown hg g) (Kd.R_base2 HO214.out));clear HO214;clear ho hb hg hat))
    go_ret
    exact ⟨_,by first|rfl|(simp [errW_none,errW_some]<;>rfl)|(simp [*,errW_none,errW_some]<;>rfl),pR HO223.out,IsS136.p HI0,pQ HB (IsS136.ge HI0.out),pH HK⟩
   ·rw [if_neg c10] at H
    exact absurd H (by simp)
  ·rw [if_neg c9] at H;have c9b0:(t216 == 1)=false:=beq_eq_false_iff_ne.mpr c9;have c9b1:(t216 != 1)=true:=bne_iff_ne.mpr c9
   by_cases c14:t216=2
   ·rw [if_pos c14] at H;obtain ⟨c14b0,c14b1⟩:=eqB c14;clear c14;obtain ⟨y224,hy224⟩:∃ y_:List (S138),y_=(([]:List (S138))):=⟨_,rfl⟩
    replace H:(spec_l72PiecesAny.l0 k y224 0 s0_0 t217)=some (r1,r2):=qH hy224 H
    have Ny224:=mA hy224;clear hy224;have H':=mA H;clear H
    go_enter Try.func124,Try.ntmps124
    go_wp2_with (first|((with_reducible refine gT 6 rfl ?_);refine gC (some 6) Try.func139 (spec_l72Pieces.calls (IsS136.p HI0) (pQ HB (IsS136.ge HI0.out)) A2.out) ?_;rintro e w15 ⟨v213,rfl,ho0,hi,hb,hk⟩;refine ⟨_,rfl,?_⟩;have HO214:=mA (Kd.R_lower ho0 (kS HK));replace HK:=mA (KeepBut.trans (pH HK) hk (.inl rfl));replace HB:=mA hb;replace HI0:=mA hi;(try clear hb);(try clear hk);(try clear hi);(try clear ho0))|((with_reducible refine gT 8 rfl ?_);refine gC (some 8) Try.func111 (spec_l6Rd_pick.calls (IsS136.p HI0) (pQ HB (IsS136.ge HI0.out)) A3.out) ?_;rintro e w16 ⟨rfl,hi,hb,hk⟩;refine ⟨_,rfl,?_⟩;replace HO214:=mA (rK (IsS136.apart (IsS136.p HI0) (pR HO214.out) aD) hk);replace HK:=mA (KeepBut.trans (pH HK) hk (.inl rfl));replace HB:=mA hb;replace HI0:=mA hi;(try clear hb);(try clear hk);(try clear hi))|((with_reducible refine gT 23 rfl ?_);refine Kd.R_lit k138 _ 138 ?hg (N:=23) ?hd (xs:=([]:List (S138))) (inner:=[]) (ok:=fun _=>True) (okp:=fun _=>True) ?hr ?hp (fun _ hk=>hk) trivial (Below.refl _ _) (Nat.le_refl _) (by simp) ?_;(case hd=>rfl);(case hg=>rfl);(case hr=>first|(go_simp;done)|(go_simp;rfl));(case hp=>exact (Reps.none _ _));intro v225 w17 ho18 hb hg_ hnew_;clear hg_ hnew_;(first|rw [← Ny224.out] at ho18|(simp only [Int.reduceToNat] at ho18;rw [← Ny224.out] at ho18));have HO226:=mA (Kd.R_lower (Kd.R_new' ho18 (rL HO214)) (kS HK));replace HO214:=rE HO214 ho18 hb;replace HK:=mA (KeepBut.trans (pH HK) (KeepBut.of_below hb g none) (.inl rfl));replace HB:=mA (below_step (pQ HB (IsS136.ge HI0.out)) hb);replace HI0:=mA (IsS136.below (IsS136.p HI0) hb);clear hb ho18))
    go_loopg [3,4] k (fun kq v3 v4 w'=>∃ (x3_1:List (S138)) (x4_1:Int) (x1001_1:Int),v4=.int .i64 x4_1∧Aside0 (spec_l72PiecesAny.l0 kq x3_1 x4_1 s0_0 x1001_1=some (r1,r2))∧Aside0 (kq≤k)∧Aside0 (Kd.R k138 138 w' w.heap.size (fun _=>True) v3 x3_1)∧Aside0 (IsS136 w0 w' g s0_0 x1001_1)∧Aside0 (KeepBut w w' g none)∧Aside0 (Below w0.heap.size w0 w'))
    case atStart=>exact ⟨(y224),(0),(t217),bZ,H',⟨Nat.le_refl _⟩,⟨pR (Kd.R_mono HO226.out (fun _ hk=>trivial))⟩,⟨IsS136.p HI0⟩,⟨pH HK⟩,⟨pQ HB (IsS136.ge HI0.out)⟩⟩
    case round =>
     clear H'
     (try clear c4);(try clear c4b0);(try clear c4b1);(try clear c9);(try clear c9b0);(try clear c9b1);(try clear c14);(try clear c14b0);(try clear c14b1)
     obtain ⟨x3_1,x4_1,x1001_1,rfl,HA,HK1,HO_3,HI0,HK,HB⟩:=hrel
     cases gk with
     | zero=>exact absurd HA.out (by simp [spec_l72PiecesAny.l0])
     | succ k1 =>
      have H:=HA.out;clear HA;simp only [spec_l72PiecesAny.l0] at H;obtain ⟨⟨t227,t228⟩,A19,H⟩:=bI H;(try dsimp only at H)
      by_cases c20:x4_1<(wrap64 (60+t227))
      ·rw [if_pos c20] at H;have c20b0:decide (x4_1<(wrap64 (60+t227)))=true:=decide_eq_true c20;clear c20
       by_cases c21:x3_1.length<4398046511104
       ·rw [if_pos c21] at H;have LMc21:=mA c21;clear c21;obtain ⟨y229,hy229⟩:∃ y_:List (S138),y_=(x3_1 ++ [(⟨1,x4_1,1,x4_1⟩:S138)]):=⟨_,rfl⟩
        replace H:(spec_l72PiecesAny.l0 k1 y229 (wrap64 (x4_1+1)) s0_0 t228)=some (r1,r2):=qH hy229 H
        have Ny229:=mA hy229;clear hy229;have H':=mA H;clear H
        go_wp2_with (first|((with_reducible refine gT 26 rfl ?_);refine gC (some 26) Try.func111 (spec_l6Rd_pick.calls (IsS136.p HI0) (pQ HB (IsS136.ge HI0.out)) A19.out) ?_;rintro e w22 ⟨rfl,hi,hb,hk⟩;refine ⟨_,rfl,?_⟩;replace HO_3:=mA (rK (IsS136.apart (IsS136.p HI0) (pR HO_3.out) aD) hk);replace HK:=mA (KeepBut.trans (pH HK) hk (.inl rfl));replace HB:=mA hb;replace HI0:=mA hi;(try clear hb);(try clear hk);(try clear hi))|((with_reducible refine gate_builtin (b:=.append) (xs:=#[.tmp 31,.tmp 35]) rfl ?_);at_builtin;refine Kd.R_append k138 w.heap.size rfl (.tmp 31) (.tmp 35) 25 138 (.agg #[(.int .i64 0),(.int .i64 0),(.int .i64 0),(.int .i64 0)]) 32 rfl Try.underlying25 info138 rfl aD (by omega) u3 x3_1 (⟨1,x4_1,1,x4_1⟩:S138) [.int .i64 1,.int .i64 x4_1,.int .i64 1,.int .i64 x4_1] (fun _=>True) (fun _=>False) rfl rfl ?aP (fun _ hk=>hk.elim) ?aF ?aO (Below.refl _ _) ?aS ?aL ?_;(case aP=>exact k138_mkM _ _ _ (⟨1,x4_1,1,x4_1⟩:S138));(case aF=>exact (fun _ _=>trivial));(case aO=>exact (pR HO_3.out));(case aS=>exact (kS HK));(case aL=>have:=LMc21.out;omega);intro v230 w23 ho hb hg hat;rw [← Ny229.out] at ho;have HO231:=mA ho;replace HB:=mA (below_weaken (pQ HB (IsS136.ge HI0.out)) HL.out hb);replace HI0:=mA (IsS136.grown (IsS136.p HI0) hg (IsS136.own_ne HI0.out HO_3.out aD));replace HK:=mA (KeepBut.trans (pH HK) (KeepBut.of_grown hg g) (Kd.R_base2 HO_3.out));clear HO_3;clear ho hb hg hat))
        go_roundg k1
        case measure=>have:=HK1.out;omega
        case rel=>exact ⟨(y229),(wrap64 (x4_1+1)),(t228),bZ,H',⟨by have:=HK1.out;omega⟩,⟨pR HO231.out⟩,⟨IsS136.p HI0⟩,⟨pH HK⟩,⟨pQ HB (IsS136.ge HI0.out)⟩⟩
       ·rw [if_neg c21] at H
        exact absurd H (by simp)
      ·rw [if_neg c20] at H;have c20b0:decide (x4_1<(wrap64 (60+t227)))=false:=decide_eq_false c20;clear c20;simp only [Option.some.injEq,Prod.mk.injEq] at H;obtain ⟨rfl,rfl⟩:=H
       go_wp2_with (first|((with_reducible refine gT 26 rfl ?_);refine gC (some 26) Try.func111 (spec_l6Rd_pick.calls (IsS136.p HI0) (pQ HB (IsS136.ge HI0.out)) A19.out) ?_;rintro e w24 ⟨rfl,hi,hb,hk⟩;refine ⟨_,rfl,?_⟩;replace HO_3:=mA (rK (IsS136.apart (IsS136.p HI0) (pR HO_3.out) aD) hk);replace HK:=mA (KeepBut.trans (pH HK) hk (.inl rfl));replace HB:=mA hb;replace HI0:=mA hi;(try clear hb);(try clear hk);(try clear hi)))
       go_ret
       exact ⟨_,by first|rfl|(simp [errW_none,errW_some]<;>rfl)|(simp [*,errW_none,errW_some]<;>rfl),pR HO_3.out,IsS136.p HI0,pQ HB (IsS136.ge HI0.out),pH HK⟩
   ·rw [if_neg c14] at H;have c14b0:(t216 == 2)=false:=beq_eq_false_iff_ne.mpr c14;have c14b1:(t216 != 2)=true:=bne_iff_ne.mpr c14;simp only [Option.some.injEq,Prod.mk.injEq] at H;obtain ⟨rfl,rfl⟩:=H
    go_enter Try.func124,Try.ntmps124
    go_wp2_with (first|((with_reducible refine gT 6 rfl ?_);refine gC (some 6) Try.func139 (spec_l72Pieces.calls (IsS136.p HI0) (pQ HB (IsS136.ge HI0.out)) A2.out) ?_;rintro e w25 ⟨v213,rfl,ho0,hi,hb,hk⟩;refine ⟨_,rfl,?_⟩;have HO214:=mA (Kd.R_lower ho0 (kS HK));replace HK:=mA (KeepBut.trans (pH HK) hk (.inl rfl));replace HB:=mA hb;replace HI0:=mA hi;(try clear hb);(try clear hk);(try clear hi);(try clear ho0))|((with_reducible refine gT 8 rfl ?_);refine gC (some 8) Try.func111 (spec_l6Rd_pick.calls (IsS136.p HI0) (pQ HB (IsS136.ge HI0.out)) A3.out) ?_;rintro e w26 ⟨rfl,hi,hb,hk⟩;refine ⟨_,rfl,?_⟩;replace HO214:=mA (rK (IsS136.apart (IsS136.p HI0) (pR HO214.out) aD) hk);replace HK:=mA (KeepBut.trans (pH HK) hk (.inl rfl));replace HB:=mA hb;replace HI0:=mA hi;(try clear hb);(try clear hk);(try clear hi)))
    go_ret
    exact ⟨_,by first|rfl|(simp [errW_none,errW_some]<;>rfl)|(simp [*,errW_none,errW_some]<;>rfl),pR HO214.out,IsS136.p HI0,pQ HB (IsS136.ge HI0.out),pH HK⟩

/-! ### spec_BlkCall: function 142 -/
def spec_BlkCall.l0 : Nat → List (S140) → Int → Int → Option (Int)
 | 0,_,_,_=>none
 | k+1,x0,x1,x5=>if x5<(x0.length:Int) then (if 0≤x5 then (if ((rd_T140 x0 x5).f0)=x1 then (some ((rd_T140 x0 x5).f1)) else (spec_BlkCall.l0 k x0 x1 (wrap64 (x5+1)))) else (none)) else (some 0)
def spec_BlkCall.f (k : Nat) (l0 : List (S140)) (a1 : Int) : Option (Int) := (spec_l3LastOk.f k l0).bind fun t238 => (if t238 = true then (spec_BlkCall.l0 k l0 a1 0) else (some 0))
theorem spec_BlkCall.mono_l : ∀ k, (∀ y0 y1 y2, LeO (spec_BlkCall.l0 k y0 y1 y2) (spec_BlkCall.l0 (k + 1) y0 y1 y2))
 | 0=>fun _ _ _ r h=>by simp [spec_BlkCall.l0] at h
 | k+1=>by
  have ih0:=spec_BlkCall.mono_l k
  ·intros
   unfold spec_BlkCall.l0
   repeat' first
   | (with_reducible first|apply ih0|apply spec_l3LastOk.mono|exact LeO.refl _|exact LeO.none _|refine LeO.ite ?_ ?_|refine LeO.bind ?_ (fun _=>?_))|exact LeO.none _|refine LeO.ite ?_ ?_|refine LeO.bind ?_ (fun _=>?_)
theorem spec_BlkCall.mono : ∀ a0 a1 k, LeO (spec_BlkCall.f k a0 a1) (spec_BlkCall.f (k + 1) a0 a1) := by
 intro a0 a1 k;have ih0:=spec_BlkCall.mono_l k
 unfold spec_BlkCall.f
 repeat' first
   | (with_reducible first|apply ih0|apply spec_l3LastOk.mono|exact LeO.refl _|exact LeO.none _|refine LeO.ite ?_ ?_|refine LeO.bind ?_ (fun _=>?_))|exact LeO.none _|refine LeO.ite ?_ ?_|refine LeO.bind ?_ (fun _=>?_)
set_option maxHeartbeats 8000000 in
set_option maxRecDepth 100000 in
theorem spec_BlkCall.calls {k : Nat} {A0 : Option Addr} {c0 : Nat} {l0 : List (S140)} {a1 : Int} {r : Int} {w : World} (hr0 : Kd.C k140 w A0 l0.length l0) (hc0 : l0.length ≤ c0) (h : spec_BlkCall.f k l0 a1 = some r) :
  Calls Try.prog 142 #[.slice A0 l0.length c0,.int .i64 a1] w fun e w'=>e=.returned (.int .i64 r)∧Below w.heap.size w w':=by
 have HR0:=mA hr0;have HC0:=mA hc0;clear hr0 hc0;have HB:=mA (Below.refl w.heap.size w);have H:((spec_l3LastOk.f k l0).bind fun t238=>(if t238=true then (spec_BlkCall.l0 k l0 a1 0) else (some 0)))=some r:=h;clear h;obtain ⟨t238,A3,H⟩:=bI H;(try dsimp only at H)
 by_cases c4:t238=true
 ·subst c4;rw [if_pos rfl] at H;have H':=mA H;clear H
  go_enter Try.func142,Try.ntmps142
  go_wp2_with (first|((with_reducible refine gT 7 rfl ?_);refine gC (some 7) Try.func71 (spec_l3LastOk.calls (pC HR0.out) HC0.out A3.out) ?_;rintro e w5 ⟨rfl,hb⟩;refine ⟨_,rfl,?_⟩;replace HB:=spB HB hb;(try clear hb)))
  go_loopg [5] k (fun kq v5 w'=>∃ (x5_1:Int),v5=.int .i64 x5_1∧Aside0 (spec_BlkCall.l0 kq l0 a1 x5_1=some r)∧Aside0 (kq≤k)∧Aside0 (Below w.heap.size w w'))
  case atStart=>exact ⟨(0),bZ,H',⟨Nat.le_refl _⟩,⟨pB HB.out⟩⟩
  case round =>
   clear H'
   (try clear c4)
   obtain ⟨x5_1,rfl,HA,HK1,HB⟩:=hrel
   cases gk with
   | zero=>exact absurd HA.out (by simp [spec_BlkCall.l0])
   | succ k1 =>
    have H:=HA.out;clear HA;simp only [spec_BlkCall.l0] at H
    by_cases c6:x5_1<(l0.length:Int)
    ·rw [if_pos c6] at H;have c6b0:decide (x5_1<(l0.length:Int))=true:=decide_eq_true c6;clear c6
     by_cases c7:0≤x5_1
     ·rw [if_pos c7] at H;have c7b0:decide (0≤x5_1)=true:=decide_eq_true c7;clear c7
      by_cases c8:((rd_T140 l0 x5_1).f0)=a1
      ·rw [if_pos c8] at H;obtain ⟨c8b0,c8b1⟩:=eqB c8;clear c8;obtain rfl:=Option.some.inj H;have p239:0≤(x5_1:Int):=of_decide_eq_true bA;have q239:x5_1<(l0.length:Int):=of_decide_eq_true bA;obtain ⟨ad239,e239,hx239_0,hx239_1⟩:=at_T140 HR0.out x5_1 p239 q239;cases e239;replace hx239_0:=hC HB hx239_0;replace hx239_1:=hC HB hx239_1;replace p239:=eq_true p239;replace q239:=eq_true q239;have p240:0≤(x5_1:Int):=of_decide_eq_true bA;have q240:x5_1<(l0.length:Int):=of_decide_eq_true bA;obtain ⟨ad240,e240,hx240_0,hx240_1⟩:=at_T140 HR0.out x5_1 p240 q240
       obtain rfl:ad239=ad240:=(by injection e240)
       replace hx240_0:=hC HB hx240_0;replace hx240_1:=hC HB hx240_1;replace p240:=eq_true p240;replace q240:=eq_true q240
       go_wp2
       go_ret
       exact rZ (pB HB.out)
      ·rw [if_neg c8] at H;have c8b0:(((rd_T140 l0 x5_1).f0) == a1)=false:=beq_eq_false_iff_ne.mpr c8;have c8b1:(((rd_T140 l0 x5_1).f0) != a1)=true:=bne_iff_ne.mpr c8;have H':=mA H;clear H;have p239:0≤(x5_1:Int):=of_decide_eq_true bA;have q239:x5_1<(l0.length:Int):=of_decide_eq_true bA;obtain ⟨ad239,e239,hx239_0,hx239_1⟩:=at_T140 HR0.out x5_1 p239 q239;cases e239;replace hx239_0:=hC HB hx239_0;replace hx239_1:=hC HB hx239_1;replace p239:=eq_true p239;replace q239:=eq_true q239
       go_wp2
       go_roundg k1
       case measure=>have:=HK1.out;omega
       case rel=>exact ⟨(wrap64 (x5_1+1)),bZ,H',⟨by have:=HK1.out;omega⟩,⟨pB HB.out⟩⟩
     ·rw [if_neg c7] at H
      exact absurd H (by simp)
    ·rw [if_neg c6] at H;have c6b0:decide (x5_1<(l0.length:Int))=false:=decide_eq_false c6;clear c6;obtain rfl:=Option.some.inj H
     go_wp2
     go_ret
     exact rZ (pB HB.out)
 ·replace c4:=Bool.eq_false_iff.mpr c4;subst c4
  rw [if_neg nFT] at H
  obtain rfl:=Option.some.inj H
  go_enter Try.func142,Try.ntmps142
  go_wp2_with (first|((with_reducible refine gT 7 rfl ?_);refine gC (some 7) Try.func71 (spec_l3LastOk.calls (pC HR0.out) HC0.out A3.out) ?_;rintro e w9 ⟨rfl,hb⟩;refine ⟨_,rfl,?_⟩;replace HB:=spB HB hb;(try clear hb)))
  go_ret
  exact rZ (pB HB.out)

end Go.Proofs.Ytoieojmfkkidnaa.P
