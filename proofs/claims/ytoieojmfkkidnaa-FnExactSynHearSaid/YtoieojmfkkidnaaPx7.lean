-- printed by pprint.py (this session's program over the kit's printer) out of the translation. Lean checks it.
import Derived.Test.YtoieojmfkkidnaaPx0
import Derived.Test.YtoieojmfkkidnaaPx4
namespace Go.Proofs.Ytoieojmfkkidnaa.P
open Go.RowKit Go.Proofs.YtoieojmfkkidnaaX Go.Proofs.YtoieojmfkkidnaaW.PrintWords Go.Proofs.YtoieojmfkkidnaaW.PrintLast Go.Proofs.YtoieojmfkkidnaaW.PrintMore
attribute [local go_sem] max2_int min2_int max_two min_two max_three min_three max_four min_four   -- for this text's walks alone
set_option linter.unusedVariables false
set_option linter.unusedSimpArgs false
/-! ### laws_eqSynPaper: function 95 -/
def laws_eqSynPaper.f (a0_0 a0_1 a0_2 a0_3 a0_4 a0_5 a0_6 a0_7 a0_8 a0_9 a0_10 a0_11 a1_0 a1_1 a1_2 a1_3 a1_4 a1_5 a1_6 a1_7 a1_8 a1_9 a1_10 a1_11 : Int) : Option (Bool) := if a0_0 = a1_0 then (if a0_1 = a1_1 then ((laws_eqCmd.f a0_2 a0_3 a0_4 a0_5 a0_6 a0_7 a0_8 a0_9 a0_10 a0_11 a1_2 a1_3 a1_4 a1_5 a1_6 a1_7 a1_8 a1_9 a1_10 a1_11).bind fun t226 => (if t226 = true then (some true) else (some false))) else (some false)) else (some false)
set_option maxHeartbeats 8000000 in
set_option maxRecDepth 100000 in
theorem laws_eqSynPaper.calls {a0_0 a0_1 a0_2 a0_3 a0_4 a0_5 a0_6 a0_7 a0_8 a0_9 a0_10 a0_11 a1_0 a1_1 a1_2 a1_3 a1_4 a1_5 a1_6 a1_7 a1_8 a1_9 a1_10 a1_11 : Int} {r : Bool} {w : World} (h : laws_eqSynPaper.f a0_0 a0_1 a0_2 a0_3 a0_4 a0_5 a0_6 a0_7 a0_8 a0_9 a0_10 a0_11 a1_0 a1_1 a1_2 a1_3 a1_4 a1_5 a1_6 a1_7 a1_8 a1_9 a1_10 a1_11 = some r) :
  Calls Try.prog 95 #[.agg #[.int .i64 a0_0,.int .i64 a0_1,.int .i64 a0_2,.int .i64 a0_3,.int .i64 a0_4,.int .i64 a0_5,.int .i64 a0_6,.int .i64 a0_7,.int .i64 a0_8,.int .i64 a0_9,.int .i64 a0_10,.int .i64 a0_11],.agg #[.int .i64 a1_0,.int .i64 a1_1,.int .i64 a1_2,.int .i64 a1_3,.int .i64 a1_4,.int .i64 a1_5,.int .i64 a1_6,.int .i64 a1_7,.int .i64 a1_8,.int .i64 a1_9,.int .i64 a1_10,.int .i64 a1_11]] w fun e w'=>e=.returned (.bool r)∧Below w.heap.size w w':=by
 have hu64:=Try.underlying64;have hu24:=Try.underlying24;have HB:=mA (Below.refl w.heap.size w);have H:(if a0_0=a1_0 then (if a0_1=a1_1 then ((laws_eqCmd.f a0_2 a0_3 a0_4 a0_5 a0_6 a0_7 a0_8 a0_9 a0_10 a0_11 a1_2 a1_3 a1_4 a1_5 a1_6 a1_7 a1_8 a1_9 a1_10 a1_11).bind fun t226=>(if t226=true then (some true) else (some false))) else (some false)) else (some false))=some r:=h;clear h
 by_cases c3:a0_0=a1_0
 ·rw [if_pos c3] at H;obtain ⟨c3b0,c3b1⟩:=eqB c3;clear c3
  by_cases c4:a0_1=a1_1
  ·rw [if_pos c4] at H;obtain ⟨c4b0,c4b1⟩:=eqB c4;clear c4;obtain ⟨t226,A5,H⟩:=bI H;(try dsimp only at H)
   by_cases c6:t226=true
   ·subst c6;rw [if_pos rfl] at H;obtain rfl:=Option.some.inj H
    go_enter Try.func95,Try.ntmps95
    go_wp2_with (first|((with_reducible refine gLg rfl (by assumption) ?_);refine ldV ?_)|((with_reducible refine gSt rfl (by assumption) ?_);refine stV ?_)|((with_reducible refine gT 2 rfl ?_);refine bX 2 ?_;intro gb224 hg w7 hbox hb;have BK224:=mA hbox;have GW224:=gbpB HB hg;have GE224:=gbpB HB hg;replace HB:=spB HB hb;clear hb hbox hg)|((with_reducible refine gT 3 rfl ?_);refine bX 3 ?_;intro gb225 hg w8 hbox hb;have BK225:=mA hbox;have GW225:=gbpS HB hg;have GE225:=gbpS HB hg;replace HB:=spS HB hb;have NB224_225:=mA (lN (blk_lt (pK BK224.out)) hg);have hN224_225:=NB224_225.out;have NB225_224:=nS NB224_225;have hN225_224:=NB225_224.out;replace BK224:=bK BK224 hb;clear hb hbox hg;have hcz10_0:=fun i_=>blk_cell BK224.out i_;have hfz10_0:=fun i_=>blk_frozen BK224.out i_;have hcz11_0:=fun i_=>blk_cell BK225.out i_;have hfz11_0:=fun i_=>blk_frozen BK225.out i_)|((with_reducible refine gT 19 rfl ?_);refine gC (some 19) Try.func80 (laws_eqCmd.calls A5.out) ?_;rintro e w12 ⟨rfl,hb⟩;refine ⟨_,rfl,?_⟩;replace BK224:=bK BK224 hb;replace BK225:=bK BK225 hb;replace HB:=spS HB hb;(try clear hb)))
    go_ret
    exact rZ (pS HB.out)
   ·replace c6:=Bool.eq_false_iff.mpr c6;subst c6
    rw [if_neg nFT] at H
    obtain rfl:=Option.some.inj H
    go_enter Try.func95,Try.ntmps95
    go_wp2_with (first|((with_reducible refine gLg rfl (by assumption) ?_);refine ldV ?_)|((with_reducible refine gSt rfl (by assumption) ?_);refine stV ?_)|((with_reducible refine gT 2 rfl ?_);refine bX 2 ?_;intro gb224 hg w13 hbox hb;have BK224:=mA hbox;have GW224:=gbpB HB hg;have GE224:=gbpB HB hg;replace HB:=spB HB hb;clear hb hbox hg)|((with_reducible refine gT 3 rfl ?_);refine bX 3 ?_;intro gb225 hg w14 hbox hb;have BK225:=mA hbox;have GW225:=gbpS HB hg;have GE225:=gbpS HB hg;replace HB:=spS HB hb;have NB224_225:=mA (lN (blk_lt (pK BK224.out)) hg);have hN224_225:=NB224_225.out;have NB225_224:=nS NB224_225;have hN225_224:=NB225_224.out;replace BK224:=bK BK224 hb;clear hb hbox hg;have hcz16_0:=fun i_=>blk_cell BK224.out i_;have hfz16_0:=fun i_=>blk_frozen BK224.out i_;have hcz17_0:=fun i_=>blk_cell BK225.out i_;have hfz17_0:=fun i_=>blk_frozen BK225.out i_)|((with_reducible refine gT 19 rfl ?_);refine gC (some 19) Try.func80 (laws_eqCmd.calls A5.out) ?_;rintro e w18 ⟨rfl,hb⟩;refine ⟨_,rfl,?_⟩;replace BK224:=bK BK224 hb;replace BK225:=bK BK225 hb;replace HB:=spS HB hb;(try clear hb)))
    go_ret
    exact rZ (pS HB.out)
  ·rw [if_neg c4] at H;have c4b0:(a0_1 == a1_1)=false:=beq_eq_false_iff_ne.mpr c4;have c4b1:(a0_1 != a1_1)=true:=bne_iff_ne.mpr c4;obtain rfl:=Option.some.inj H
   go_enter Try.func95,Try.ntmps95
   go_wp2_with (first|((with_reducible refine gLg rfl (by assumption) ?_);refine ldV ?_)|((with_reducible refine gSt rfl (by assumption) ?_);refine stV ?_)|((with_reducible refine gT 2 rfl ?_);refine bX 2 ?_;intro gb224 hg w19 hbox hb;have BK224:=mA hbox;have GW224:=gbpB HB hg;have GE224:=gbpB HB hg;replace HB:=spB HB hb;clear hb hbox hg)|((with_reducible refine gT 3 rfl ?_);refine bX 3 ?_;intro gb225 hg w20 hbox hb;have BK225:=mA hbox;have GW225:=gbpS HB hg;have GE225:=gbpS HB hg;replace HB:=spS HB hb;have NB224_225:=mA (lN (blk_lt (pK BK224.out)) hg);have hN224_225:=NB224_225.out;have NB225_224:=nS NB224_225;have hN225_224:=NB225_224.out;replace BK224:=bK BK224 hb;clear hb hbox hg;have hcz22_0:=fun i_=>blk_cell BK224.out i_;have hfz22_0:=fun i_=>blk_frozen BK224.out i_;have hcz23_0:=fun i_=>blk_cell BK225.out i_;have hfz23_0:=fun i_=>blk_frozen BK225.out i_))
   go_ret
   exact rZ (pS HB.out)
 ·rw [if_neg c3] at H;have c3b0:(a0_0 == a1_0)=false:=beq_eq_false_iff_ne.mpr c3;have c3b1:(a0_0 != a1_0)=true:=bne_iff_ne.mpr c3;obtain rfl:=Option.some.inj H
  go_enter Try.func95,Try.ntmps95
  go_wp2_with (first|((with_reducible refine gLg rfl (by assumption) ?_);refine ldV ?_)|((with_reducible refine gSt rfl (by assumption) ?_);refine stV ?_)|((with_reducible refine gT 2 rfl ?_);refine bX 2 ?_;intro gb224 hg w24 hbox hb;have BK224:=mA hbox;have GW224:=gbpB HB hg;have GE224:=gbpB HB hg;replace HB:=spB HB hb;clear hb hbox hg)|((with_reducible refine gT 3 rfl ?_);refine bX 3 ?_;intro gb225 hg w25 hbox hb;have BK225:=mA hbox;have GW225:=gbpS HB hg;have GE225:=gbpS HB hg;replace HB:=spS HB hb;have NB224_225:=mA (lN (blk_lt (pK BK224.out)) hg);have hN224_225:=NB224_225.out;have NB225_224:=nS NB224_225;have hN225_224:=NB225_224.out;replace BK224:=bK BK224 hb;clear hb hbox hg;have hcz27_0:=fun i_=>blk_cell BK224.out i_;have hfz27_0:=fun i_=>blk_frozen BK224.out i_;have hcz28_0:=fun i_=>blk_cell BK225.out i_;have hfz28_0:=fun i_=>blk_frozen BK225.out i_))
  go_ret
  exact rZ (pS HB.out)
/-! ### laws_eqIntS: function 96 -/
def laws_eqIntS.l0 : Nat → List Int → List Int → Int → Option (Bool)
 | 0,_,_,_=>none
 | k+1,x0,x1,x5=>if x5<(x0.length:Int) then (if 0≤x5 then (if x5<(x1.length:Int) then (if (rd x0 x5)=(rd x1 x5) then (laws_eqIntS.l0 k x0 x1 (wrap64 (x5+1))) else (some false)) else (none)) else (none)) else (some true)
def laws_eqIntS.f (k : Nat) (l0 : List Int) (l1 : List Int) : Option (Bool) := if (l0.length : Int) = (l1.length : Int) then (laws_eqIntS.l0 k l0 l1 0) else (some false)
set_option maxHeartbeats 8000000 in
set_option maxRecDepth 100000 in
theorem laws_eqIntS.calls {k : Nat} {A0 : Option Addr} {c0 : Nat} {l0 : List Int} {A1 : Option Addr} {c1 : Nat} {l1 : List Int} {r : Bool} {w : World} (hr0 : Kd.C (Kd.int .i64) w A0 l0.length l0) (hc0 : l0.length ≤ c0) (hr1 : Kd.C (Kd.int .i64) w A1 l1.length l1) (hc1 : l1.length ≤ c1) (h : laws_eqIntS.f k l0 l1 = some r) :
  Calls Try.prog 96 #[.slice A0 l0.length c0,.slice A1 l1.length c1] w fun e w'=>e=.returned (.bool r)∧Drawn0 w w':=by
 have HR0:=mA hr0;have HC0:=mA hc0;clear hr0 hc0;have HR1:=mA hr1;have HC1:=mA hc1;clear hr1 hc1;have H:(if (l0.length:Int)=(l1.length:Int) then (laws_eqIntS.l0 k l0 l1 0) else (some false))=some r:=h;clear h
 by_cases c3:(l0.length:Int)=(l1.length:Int)
 ·rw [if_pos c3] at H;have c3b0:((l0.length:Int) == (l1.length:Int))=true:=beq_iff_eq.mpr c3;have c3b1:((l0.length:Int) != (l1.length:Int))=false:=bne_eq_false_iff_eq.mpr c3
  have c3b2:(l0.length == l1.length)=true:=by first|simpa using c3|(simp at c3 ⊢;omega)
  clear c3;have H':=mA H;clear H
  go_enter Try.func96,Try.ntmps96
  go_wp2
  repeat (go_quiet (fail);try go_wp2)
  go_loopg [5] k (fun kq v5 w'=>∃ (x5_1:Int),v5=.int .i64 x5_1∧Aside0 (laws_eqIntS.l0 kq l0 l1 x5_1=some r)∧Aside0 (kq≤k)∧Drawn0 w w')
  case atStart=>exact ⟨(0),bZ,H',⟨Nat.le_refl _⟩,by repeat (first|exact Drawn0.refl _|apply Drawn0.step)⟩
  case round =>
   clear H'
   (try clear c3);(try clear c3b0);(try clear c3b1);(try clear c3b2)
   obtain ⟨x5_1,rfl,HA,HK1,⟨m1,rfl⟩⟩:=hrel
   cases gk with
   | zero=>exact absurd HA.out (by simp [laws_eqIntS.l0])
   | succ k1 =>
    have H:=HA.out;clear HA;simp only [laws_eqIntS.l0] at H
    by_cases c4:x5_1<(l0.length:Int)
    ·rw [if_pos c4] at H;have c4b0:decide (x5_1<(l0.length:Int))=true:=decide_eq_true c4;clear c4
     by_cases c5:0≤x5_1
     ·rw [if_pos c5] at H;have c5b0:decide (0≤x5_1)=true:=decide_eq_true c5;clear c5
      by_cases c6:x5_1<(l1.length:Int)
      ·rw [if_pos c6] at H;have c6b0:decide (x5_1<(l1.length:Int))=true:=decide_eq_true c6;clear c6
       by_cases c7:(rd l0 x5_1)=(rd l1 x5_1)
       ·rw [if_pos c7] at H;obtain ⟨c7b0,c7b1⟩:=eqB c7;clear c7;have H':=mA H;clear H;have p227:0≤(x5_1:Int):=of_decide_eq_true bA;have q227:x5_1<(l0.length:Int):=of_decide_eq_true bA;obtain ⟨ad227,e227,hx227_0⟩:=Kd.at_int HR0.out x5_1 p227 q227;cases e227;replace p227:=eq_true p227;replace q227:=eq_true q227;have p228:0≤(x5_1:Int):=of_decide_eq_true bA;have q228:x5_1<(l1.length:Int):=of_decide_eq_true bA;obtain ⟨ad228,e228,hx228_0⟩:=Kd.at_int HR1.out x5_1 p228 q228;cases e228;replace p228:=eq_true p228;replace q228:=eq_true q228
        go_wp2
        repeat (go_quiet (fail);try go_wp2)
        go_roundg k1
        case measure=>have:=HK1.out;omega
        case rel=>exact ⟨(wrap64 (x5_1+1)),bZ,H',⟨by have:=HK1.out;omega⟩,by repeat (first|exact Drawn0.refl _|apply Drawn0.step)⟩
       ·rw [if_neg c7] at H;have c7b0:((rd l0 x5_1) == (rd l1 x5_1))=false:=beq_eq_false_iff_ne.mpr c7;have c7b1:((rd l0 x5_1) != (rd l1 x5_1))=true:=bne_iff_ne.mpr c7;obtain rfl:=Option.some.inj H;have p227:0≤(x5_1:Int):=of_decide_eq_true bA;have q227:x5_1<(l0.length:Int):=of_decide_eq_true bA;obtain ⟨ad227,e227,hx227_0⟩:=Kd.at_int HR0.out x5_1 p227 q227;cases e227;replace p227:=eq_true p227;replace q227:=eq_true q227;have p228:0≤(x5_1:Int):=of_decide_eq_true bA;have q228:x5_1<(l1.length:Int):=of_decide_eq_true bA;obtain ⟨ad228,e228,hx228_0⟩:=Kd.at_int HR1.out x5_1 p228 q228;cases e228;replace p228:=eq_true p228;replace q228:=eq_true q228
        go_wp2
        repeat (go_quiet (fail);try go_wp2)
        go_ret
        exact ⟨by first|rfl|(simp;done)|(simp [*];done),by repeat (first|exact Drawn0.refl _|apply Drawn0.step)⟩
      ·rw [if_neg c6] at H
       exact absurd H (by simp)
     ·rw [if_neg c5] at H
      exact absurd H (by simp)
    ·rw [if_neg c4] at H;have c4b0:decide (x5_1<(l0.length:Int))=false:=decide_eq_false c4;clear c4;obtain rfl:=Option.some.inj H
     go_wp2
     repeat (go_quiet (fail);try go_wp2)
     go_ret
     exact ⟨by first|rfl|(simp;done)|(simp [*];done),by repeat (first|exact Drawn0.refl _|apply Drawn0.step)⟩
 ·rw [if_neg c3] at H;have c3b0:((l0.length:Int) == (l1.length:Int))=false:=beq_eq_false_iff_ne.mpr c3;have c3b1:((l0.length:Int) != (l1.length:Int))=true:=bne_iff_ne.mpr c3
  have c3b2:(l0.length == l1.length)=false:=by first|simpa using c3|(simp at c3 ⊢;omega)
  obtain rfl:=Option.some.inj H
  go_enter Try.func96,Try.ntmps96
  go_wp2
  repeat (go_quiet (fail);try go_wp2)
  go_ret
  exact ⟨by first|rfl|(simp;done)|(simp [*];done),by repeat (first|exact Drawn0.refl _|apply Drawn0.step)⟩
/-! ### laws_eqSynSeeker: function 34 -/
def laws_eqSynSeeker.f (k : Nat) (a0_0 a0_1 a0_2 a0_3 a0_4 a0_5 a0_6 a0_7 a0_8 a0_9 a0_10 a0_11 a0_12 a0_13 a0_14 a0_15 a0_16 a0_17 a0_18 a0_19 a0_20 a0_21 a0_22 a0_23 a0_24 : Int) (l0_25 : List Int) (a1_0 a1_1 a1_2 a1_3 a1_4 a1_5 a1_6 a1_7 a1_8 a1_9 a1_10 a1_11 a1_12 a1_13 a1_14 a1_15 a1_16 a1_17 a1_18 a1_19 a1_20 a1_21 a1_22 a1_23 a1_24 : Int) (l1_25 : List Int) : Option (Bool) := if a0_0 = a1_0 then (if a0_1 = a1_1 then (if a0_2 = a1_2 then ((laws_eqCmd.f a0_3 a0_4 a0_5 a0_6 a0_7 a0_8 a0_9 a0_10 a0_11 a0_12 a1_3 a1_4 a1_5 a1_6 a1_7 a1_8 a1_9 a1_10 a1_11 a1_12).bind fun t231 => (if t231 = true then ((laws_eqSynPaper.f a0_13 a0_14 a0_15 a0_16 a0_17 a0_18 a0_19 a0_20 a0_21 a0_22 a0_23 a0_24 a1_13 a1_14 a1_15 a1_16 a1_17 a1_18 a1_19 a1_20 a1_21 a1_22 a1_23 a1_24).bind fun t232 => (if t232 = true then ((laws_eqIntS.f k l0_25 l1_25).bind fun t233 => (if t233 = true then (some true) else (some false))) else (some false))) else (some false))) else (some false)) else (some false)) else (some false)
set_option maxHeartbeats 8000000 in
set_option maxRecDepth 100000 in
theorem laws_eqSynSeeker.calls {k : Nat} {a0_0 a0_1 a0_2 a0_3 a0_4 a0_5 a0_6 a0_7 a0_8 a0_9 a0_10 a0_11 a0_12 a0_13 a0_14 a0_15 a0_16 a0_17 a0_18 a0_19 a0_20 a0_21 a0_22 a0_23 a0_24 : Int} {A0_25 : Option Addr} {c0_25 : Nat} {l0_25 : List Int} {a1_0 a1_1 a1_2 a1_3 a1_4 a1_5 a1_6 a1_7 a1_8 a1_9 a1_10 a1_11 a1_12 a1_13 a1_14 a1_15 a1_16 a1_17 a1_18 a1_19 a1_20 a1_21 a1_22 a1_23 a1_24 : Int} {A1_25 : Option Addr} {c1_25 : Nat} {l1_25 : List Int} {r : Bool} {w : World} (hr0_25 : Kd.C (Kd.int .i64) w A0_25 l0_25.length l0_25) (hc0_25 : l0_25.length ≤ c0_25) (hr1_25 : Kd.C (Kd.int .i64) w A1_25 l1_25.length l1_25) (hc1_25 : l1_25.length ≤ c1_25) (h : laws_eqSynSeeker.f k a0_0 a0_1 a0_2 a0_3 a0_4 a0_5 a0_6 a0_7 a0_8 a0_9 a0_10 a0_11 a0_12 a0_13 a0_14 a0_15 a0_16 a0_17 a0_18 a0_19 a0_20 a0_21 a0_22 a0_23 a0_24 l0_25 a1_0 a1_1 a1_2 a1_3 a1_4 a1_5 a1_6 a1_7 a1_8 a1_9 a1_10 a1_11 a1_12 a1_13 a1_14 a1_15 a1_16 a1_17 a1_18 a1_19 a1_20 a1_21 a1_22 a1_23 a1_24 l1_25 = some r) :
  Calls Try.prog 34 #[.agg #[.int .i64 a0_0,.int .i64 a0_1,.int .i64 a0_2,.int .i64 a0_3,.int .i64 a0_4,.int .i64 a0_5,.int .i64 a0_6,.int .i64 a0_7,.int .i64 a0_8,.int .i64 a0_9,.int .i64 a0_10,.int .i64 a0_11,.int .i64 a0_12,.int .i64 a0_13,.int .i64 a0_14,.int .i64 a0_15,.int .i64 a0_16,.int .i64 a0_17,.int .i64 a0_18,.int .i64 a0_19,.int .i64 a0_20,.int .i64 a0_21,.int .i64 a0_22,.int .i64 a0_23,.int .i64 a0_24,.slice A0_25 l0_25.length c0_25],.agg #[.int .i64 a1_0,.int .i64 a1_1,.int .i64 a1_2,.int .i64 a1_3,.int .i64 a1_4,.int .i64 a1_5,.int .i64 a1_6,.int .i64 a1_7,.int .i64 a1_8,.int .i64 a1_9,.int .i64 a1_10,.int .i64 a1_11,.int .i64 a1_12,.int .i64 a1_13,.int .i64 a1_14,.int .i64 a1_15,.int .i64 a1_16,.int .i64 a1_17,.int .i64 a1_18,.int .i64 a1_19,.int .i64 a1_20,.int .i64 a1_21,.int .i64 a1_22,.int .i64 a1_23,.int .i64 a1_24,.slice A1_25 l1_25.length c1_25]] w fun e w'=>e=.returned (.bool r)∧Below w.heap.size w w':=by
 have hu66:=Try.underlying66;have hu24:=Try.underlying24;have hu64:=Try.underlying64;have HR0_25:=mA hr0_25;have HC0_25:=mA hc0_25;clear hr0_25 hc0_25;have HR1_25:=mA hr1_25;have HC1_25:=mA hc1_25;clear hr1_25 hc1_25;have HB:=mA (Below.refl w.heap.size w);have H:(if a0_0=a1_0 then (if a0_1=a1_1 then (if a0_2=a1_2 then ((laws_eqCmd.f a0_3 a0_4 a0_5 a0_6 a0_7 a0_8 a0_9 a0_10 a0_11 a0_12 a1_3 a1_4 a1_5 a1_6 a1_7 a1_8 a1_9 a1_10 a1_11 a1_12).bind fun t231=>(if t231=true then ((laws_eqSynPaper.f a0_13 a0_14 a0_15 a0_16 a0_17 a0_18 a0_19 a0_20 a0_21 a0_22 a0_23 a0_24 a1_13 a1_14 a1_15 a1_16 a1_17 a1_18 a1_19 a1_20 a1_21 a1_22 a1_23 a1_24).bind fun t232=>(if t232=true then ((laws_eqIntS.f k l0_25 l1_25).bind fun t233=>(if t233=true then (some true) else (some false))) else (some false))) else (some false))) else (some false)) else (some false)) else (some false))=some r:=h;clear h
 by_cases c3:a0_0=a1_0
 ·rw [if_pos c3] at H;obtain ⟨c3b0,c3b1⟩:=eqB c3;clear c3
  by_cases c4:a0_1=a1_1
  ·rw [if_pos c4] at H;obtain ⟨c4b0,c4b1⟩:=eqB c4;clear c4
   by_cases c5:a0_2=a1_2
   ·rw [if_pos c5] at H;obtain ⟨c5b0,c5b1⟩:=eqB c5;clear c5;obtain ⟨t231,A6,H⟩:=bI H;(try dsimp only at H)
    by_cases c7:t231=true
    ·subst c7;rw [if_pos rfl] at H;obtain ⟨t232,A8,H⟩:=bI H;(try dsimp only at H)
     by_cases c9:t232=true
     ·subst c9;rw [if_pos rfl] at H;obtain ⟨t233,A10,H⟩:=bI H;(try dsimp only at H)
      by_cases c11:t233=true
      ·subst c11;rw [if_pos rfl] at H;obtain rfl:=Option.some.inj H
       go_enter Try.func34,Try.ntmps34
       go_wp2_with (first|((with_reducible refine gLg rfl (by assumption) ?_);refine ldV ?_)|((with_reducible refine gSt rfl (by assumption) ?_);refine stV ?_)|((with_reducible refine gT 2 rfl ?_);refine bX 2 ?_;intro gb229 hg w12 hbox hb;have BK229:=mA hbox;have GW229:=gbpB HB hg;have GE229:=gbpB HB hg;replace HB:=spB HB hb;clear hb hbox hg)|((with_reducible refine gT 3 rfl ?_);refine bX 3 ?_;intro gb230 hg w13 hbox hb;have BK230:=mA hbox;have GW230:=gbpS HB hg;have GE230:=gbpS HB hg;replace HB:=spS HB hb;have NB229_230:=mA (lN (blk_lt (pK BK229.out)) hg);have hN229_230:=NB229_230.out;have NB230_229:=nS NB229_230;have hN230_229:=NB230_229.out;replace BK229:=bK BK229 hb;clear hb hbox hg;have hcz15_0:=fun i_=>blk_cell BK229.out i_;have hfz15_0:=fun i_=>blk_frozen BK229.out i_;have hcz16_0:=fun i_=>blk_cell BK230.out i_;have hfz16_0:=fun i_=>blk_frozen BK230.out i_)|((with_reducible refine gT 24 rfl ?_);refine gC (some 24) Try.func80 (laws_eqCmd.calls A6.out) ?_;rintro e w17 ⟨rfl,hb⟩;refine ⟨_,rfl,?_⟩;replace BK229:=bK BK229 hb;replace BK230:=bK BK230 hb;replace HB:=spS HB hb;(try clear hb);have hcz18_0:=fun i_=>blk_cell BK229.out i_;have hfz18_0:=fun i_=>blk_frozen BK229.out i_;have hcz19_0:=fun i_=>blk_cell BK230.out i_;have hfz19_0:=fun i_=>blk_frozen BK230.out i_)|((with_reducible refine gT 30 rfl ?_);refine gC (some 30) Try.func95 (laws_eqSynPaper.calls A8.out) ?_;rintro e w20 ⟨rfl,hb⟩;refine ⟨_,rfl,?_⟩;replace BK229:=bK BK229 hb;replace BK230:=bK BK230 hb;replace HB:=spS HB hb;(try clear hb);have hcz21_0:=fun i_=>blk_cell BK229.out i_;have hfz21_0:=fun i_=>blk_frozen BK229.out i_;have hcz22_0:=fun i_=>blk_cell BK230.out i_;have hfz22_0:=fun i_=>blk_frozen BK230.out i_)|((with_reducible refine gT 36 rfl ?_);refine gC (some 36) Try.func96 (laws_eqIntS.calls (cB HR0_25 HB) HC0_25.out (cB HR1_25 HB) HC1_25.out A10.out) ?_;rintro e w' ⟨rfl,⟨nd,rfl⟩⟩;refine ⟨_,rfl,?_⟩))
       go_ret
       exact rZ (pS HB.out)
      ·replace c11:=Bool.eq_false_iff.mpr c11;subst c11
       rw [if_neg nFT] at H
       obtain rfl:=Option.some.inj H
       go_enter Try.func34,Try.ntmps34
       go_wp2_with (first|((with_reducible refine gLg rfl (by assumption) ?_);refine ldV ?_)|((with_reducible refine gSt rfl (by assumption) ?_);refine stV ?_)|((with_reducible refine gT 2 rfl ?_);refine bX 2 ?_;intro gb229 hg w23 hbox hb;have BK229:=mA hbox;have GW229:=gbpB HB hg;have GE229:=gbpB HB hg;replace HB:=spB HB hb;clear hb hbox hg)|((with_reducible refine gT 3 rfl ?_);refine bX 3 ?_;intro gb230 hg w24 hbox hb;have BK230:=mA hbox;have GW230:=gbpS HB hg;have GE230:=gbpS HB hg;replace HB:=spS HB hb;have NB229_230:=mA (lN (blk_lt (pK BK229.out)) hg);have hN229_230:=NB229_230.out;have NB230_229:=nS NB229_230;have hN230_229:=NB230_229.out;replace BK229:=bK BK229 hb;clear hb hbox hg;have hcz26_0:=fun i_=>blk_cell BK229.out i_;have hfz26_0:=fun i_=>blk_frozen BK229.out i_;have hcz27_0:=fun i_=>blk_cell BK230.out i_;have hfz27_0:=fun i_=>blk_frozen BK230.out i_)|((with_reducible refine gT 24 rfl ?_);refine gC (some 24) Try.func80 (laws_eqCmd.calls A6.out) ?_;rintro e w28 ⟨rfl,hb⟩;refine ⟨_,rfl,?_⟩;replace BK229:=bK BK229 hb;replace BK230:=bK BK230 hb;replace HB:=spS HB hb;(try clear hb);have hcz29_0:=fun i_=>blk_cell BK229.out i_;have hfz29_0:=fun i_=>blk_frozen BK229.out i_;have hcz30_0:=fun i_=>blk_cell BK230.out i_;have hfz30_0:=fun i_=>blk_frozen BK230.out i_)|((with_reducible refine gT 30 rfl ?_);refine gC (some 30) Try.func95 (laws_eqSynPaper.calls A8.out) ?_;rintro e w31 ⟨rfl,hb⟩;refine ⟨_,rfl,?_⟩;replace BK229:=bK BK229 hb;replace BK230:=bK BK230 hb;replace HB:=spS HB hb;(try clear hb);have hcz32_0:=fun i_=>blk_cell BK229.out i_;have hfz32_0:=fun i_=>blk_frozen BK229.out i_;have hcz33_0:=fun i_=>blk_cell BK230.out i_;have hfz33_0:=fun i_=>blk_frozen BK230.out i_)|((with_reducible refine gT 36 rfl ?_);refine gC (some 36) Try.func96 (laws_eqIntS.calls (cB HR0_25 HB) HC0_25.out (cB HR1_25 HB) HC1_25.out A10.out) ?_;rintro e w' ⟨rfl,⟨nd,rfl⟩⟩;refine ⟨_,rfl,?_⟩))
       go_ret
       exact rZ (pS HB.out)
     ·replace c9:=Bool.eq_false_iff.mpr c9;subst c9
      rw [if_neg nFT] at H
      obtain rfl:=Option.some.inj H
      go_enter Try.func34,Try.ntmps34
      go_wp2_with (first|((with_reducible refine gLg rfl (by assumption) ?_);refine ldV ?_)|((with_reducible refine gSt rfl (by assumption) ?_);refine stV ?_)|((with_reducible refine gT 2 rfl ?_);refine bX 2 ?_;intro gb229 hg w34 hbox hb;have BK229:=mA hbox;have GW229:=gbpB HB hg;have GE229:=gbpB HB hg;replace HB:=spB HB hb;clear hb hbox hg)|((with_reducible refine gT 3 rfl ?_);refine bX 3 ?_;intro gb230 hg w35 hbox hb;have BK230:=mA hbox;have GW230:=gbpS HB hg;have GE230:=gbpS HB hg;replace HB:=spS HB hb;have NB229_230:=mA (lN (blk_lt (pK BK229.out)) hg);have hN229_230:=NB229_230.out;have NB230_229:=nS NB229_230;have hN230_229:=NB230_229.out;replace BK229:=bK BK229 hb;clear hb hbox hg;have hcz37_0:=fun i_=>blk_cell BK229.out i_;have hfz37_0:=fun i_=>blk_frozen BK229.out i_;have hcz38_0:=fun i_=>blk_cell BK230.out i_;have hfz38_0:=fun i_=>blk_frozen BK230.out i_)|((with_reducible refine gT 24 rfl ?_);refine gC (some 24) Try.func80 (laws_eqCmd.calls A6.out) ?_;rintro e w39 ⟨rfl,hb⟩;refine ⟨_,rfl,?_⟩;replace BK229:=bK BK229 hb;replace BK230:=bK BK230 hb;replace HB:=spS HB hb;(try clear hb);have hcz40_0:=fun i_=>blk_cell BK229.out i_;have hfz40_0:=fun i_=>blk_frozen BK229.out i_;have hcz41_0:=fun i_=>blk_cell BK230.out i_;have hfz41_0:=fun i_=>blk_frozen BK230.out i_)|((with_reducible refine gT 30 rfl ?_);refine gC (some 30) Try.func95 (laws_eqSynPaper.calls A8.out) ?_;rintro e w42 ⟨rfl,hb⟩;refine ⟨_,rfl,?_⟩;replace BK229:=bK BK229 hb;replace BK230:=bK BK230 hb;replace HB:=spS HB hb;(try clear hb)))
      go_ret
      exact rZ (pS HB.out)
    ·replace c7:=Bool.eq_false_iff.mpr c7;subst c7
     rw [if_neg nFT] at H
     obtain rfl:=Option.some.inj H
     go_enter Try.func34,Try.ntmps34
     go_wp2_with (first|((with_reducible refine gLg rfl (by assumption) ?_);refine ldV ?_)|((with_reducible refine gSt rfl (by assumption) ?_);refine stV ?_)|((with_reducible refine gT 2 rfl ?_);refine bX 2 ?_;intro gb229 hg w43 hbox hb;have BK229:=mA hbox;have GW229:=gbpB HB hg;have GE229:=gbpB HB hg;replace HB:=spB HB hb;clear hb hbox hg)|((with_reducible refine gT 3 rfl ?_);refine bX 3 ?_;intro gb230 hg w44 hbox hb;have BK230:=mA hbox;have GW230:=gbpS HB hg;have GE230:=gbpS HB hg;replace HB:=spS HB hb;have NB229_230:=mA (lN (blk_lt (pK BK229.out)) hg);have hN229_230:=NB229_230.out;have NB230_229:=nS NB229_230;have hN230_229:=NB230_229.out;replace BK229:=bK BK229 hb;clear hb hbox hg;have hcz46_0:=fun i_=>blk_cell BK229.out i_;have hfz46_0:=fun i_=>blk_frozen BK229.out i_;have hcz47_0:=fun i_=>blk_cell BK230.out i_;have hfz47_0:=fun i_=>blk_frozen BK230.out i_)|((with_reducible refine gT 24 rfl ?_);refine gC (some 24) Try.func80 (laws_eqCmd.calls A6.out) ?_;rintro e w48 ⟨rfl,hb⟩;refine ⟨_,rfl,?_⟩;replace BK229:=bK BK229 hb;replace BK230:=bK BK230 hb;replace HB:=spS HB hb;(try clear hb)))
     go_ret
     exact rZ (pS HB.out)
   ·rw [if_neg c5] at H;have c5b0:(a0_2 == a1_2)=false:=beq_eq_false_iff_ne.mpr c5;have c5b1:(a0_2 != a1_2)=true:=bne_iff_ne.mpr c5;obtain rfl:=Option.some.inj H
    go_enter Try.func34,Try.ntmps34
    go_wp2_with (first|((with_reducible refine gLg rfl (by assumption) ?_);refine ldV ?_)|((with_reducible refine gSt rfl (by assumption) ?_);refine stV ?_)|((with_reducible refine gT 2 rfl ?_);refine bX 2 ?_;intro gb229 hg w49 hbox hb;have BK229:=mA hbox;have GW229:=gbpB HB hg;have GE229:=gbpB HB hg;replace HB:=spB HB hb;clear hb hbox hg)|((with_reducible refine gT 3 rfl ?_);refine bX 3 ?_;intro gb230 hg w50 hbox hb;have BK230:=mA hbox;have GW230:=gbpS HB hg;have GE230:=gbpS HB hg;replace HB:=spS HB hb;have NB229_230:=mA (lN (blk_lt (pK BK229.out)) hg);have hN229_230:=NB229_230.out;have NB230_229:=nS NB229_230;have hN230_229:=NB230_229.out;replace BK229:=bK BK229 hb;clear hb hbox hg;have hcz52_0:=fun i_=>blk_cell BK229.out i_;have hfz52_0:=fun i_=>blk_frozen BK229.out i_;have hcz53_0:=fun i_=>blk_cell BK230.out i_;have hfz53_0:=fun i_=>blk_frozen BK230.out i_))
    go_ret
    exact rZ (pS HB.out)
  ·rw [if_neg c4] at H;have c4b0:(a0_1 == a1_1)=false:=beq_eq_false_iff_ne.mpr c4;have c4b1:(a0_1 != a1_1)=true:=bne_iff_ne.mpr c4;obtain rfl:=Option.some.inj H
   go_enter Try.func34,Try.ntmps34
   go_wp2_with (first|((with_reducible refine gLg rfl (by assumption) ?_);refine ldV ?_)|((with_reducible refine gSt rfl (by assumption) ?_);refine stV ?_)|((with_reducible refine gT 2 rfl ?_);refine bX 2 ?_;intro gb229 hg w54 hbox hb;have BK229:=mA hbox;have GW229:=gbpB HB hg;have GE229:=gbpB HB hg;replace HB:=spB HB hb;clear hb hbox hg)|((with_reducible refine gT 3 rfl ?_);refine bX 3 ?_;intro gb230 hg w55 hbox hb;have BK230:=mA hbox;have GW230:=gbpS HB hg;have GE230:=gbpS HB hg;replace HB:=spS HB hb;have NB229_230:=mA (lN (blk_lt (pK BK229.out)) hg);have hN229_230:=NB229_230.out;have NB230_229:=nS NB229_230;have hN230_229:=NB230_229.out;replace BK229:=bK BK229 hb;clear hb hbox hg;have hcz57_0:=fun i_=>blk_cell BK229.out i_;have hfz57_0:=fun i_=>blk_frozen BK229.out i_;have hcz58_0:=fun i_=>blk_cell BK230.out i_;have hfz58_0:=fun i_=>blk_frozen BK230.out i_))
   go_ret
   exact rZ (pS HB.out)
 ·rw [if_neg c3] at H;have c3b0:(a0_0 == a1_0)=false:=beq_eq_false_iff_ne.mpr c3;have c3b1:(a0_0 != a1_0)=true:=bne_iff_ne.mpr c3;obtain rfl:=Option.some.inj H
  go_enter Try.func34,Try.ntmps34
  go_wp2_with (first|((with_reducible refine gLg rfl (by assumption) ?_);refine ldV ?_)|((with_reducible refine gSt rfl (by assumption) ?_);refine stV ?_)|((with_reducible refine gT 2 rfl ?_);refine bX 2 ?_;intro gb229 hg w59 hbox hb;have BK229:=mA hbox;have GW229:=gbpB HB hg;have GE229:=gbpB HB hg;replace HB:=spB HB hb;clear hb hbox hg)|((with_reducible refine gT 3 rfl ?_);refine bX 3 ?_;intro gb230 hg w60 hbox hb;have BK230:=mA hbox;have GW230:=gbpS HB hg;have GE230:=gbpS HB hg;replace HB:=spS HB hb;have NB229_230:=mA (lN (blk_lt (pK BK229.out)) hg);have hN229_230:=NB229_230.out;have NB230_229:=nS NB229_230;have hN230_229:=NB230_229.out;replace BK229:=bK BK229 hb;clear hb hbox hg;have hcz62_0:=fun i_=>blk_cell BK229.out i_;have hfz62_0:=fun i_=>blk_frozen BK229.out i_;have hcz63_0:=fun i_=>blk_cell BK230.out i_;have hfz63_0:=fun i_=>blk_frozen BK230.out i_))
  go_ret
  exact rZ (pS HB.out)
end Go.Proofs.Ytoieojmfkkidnaa.P
