-- printed by pprint.py (this session's program over the kit's printer) out of the translation. Lean checks it.
import Derived.Test.YtoieojmfkkidnaaPx0
namespace Go.Proofs.Ytoieojmfkkidnaa.P
open Go.RowKit Go.Proofs.YtoieojmfkkidnaaX Go.Proofs.YtoieojmfkkidnaaW.PrintWords Go.Proofs.YtoieojmfkkidnaaW.PrintLast Go.Proofs.YtoieojmfkkidnaaW.PrintMore
attribute [local go_sem] max2_int min2_int max_two min_two max_three min_three max_four min_four   -- for this text's walks alone
set_option linter.unusedVariables false
set_option linter.unusedSimpArgs false
/-! ### spec_l22Has: function 119 -/
def spec_l22Has.l0 : Nat → List Int → Int → Int → Option (Bool)
 | 0,_,_,_=>none
 | k+1,x0,x1,x5=>if x5<(x0.length:Int) then (if 0≤x5 then (if (rd x0 x5)=x1 then (some true) else (spec_l22Has.l0 k x0 x1 (wrap64 (x5+1)))) else (none)) else (some false)
def spec_l22Has.f (k : Nat) (l0 : List Int) (a1 : Int) : Option (Bool) := spec_l22Has.l0 k l0 a1 0
set_option maxHeartbeats 8000000 in
set_option maxRecDepth 100000 in
theorem spec_l22Has.calls {k : Nat} {A0 : Option Addr} {c0 : Nat} {l0 : List Int} {a1 : Int} {r : Bool} {w : World} (hr0 : Kd.C (Kd.int .i64) w A0 l0.length l0) (hc0 : l0.length ≤ c0) (h : spec_l22Has.f k l0 a1 = some r) :
  Calls Try.prog 119 #[.slice A0 l0.length c0,.int .i64 a1] w fun e w'=>e=.returned (.bool r)∧Drawn0 w w':=by
 have HR0:=mA hr0;have HC0:=mA hc0;clear hr0 hc0;have H:(spec_l22Has.l0 k l0 a1 0)=some r:=h;clear h;have H':=mA H;clear H
 go_enter Try.func119,Try.ntmps119
 go_wp2
 go_loopg [5] k (fun kq v5 w'=>∃ (x5_1:Int),v5=.int .i64 x5_1∧Aside0 (spec_l22Has.l0 kq l0 a1 x5_1=some r)∧Aside0 (kq≤k)∧Drawn0 w w')
 case atStart=>exact ⟨(0),bZ,H',⟨Nat.le_refl _⟩,by repeat (first|exact Drawn0.refl _|apply Drawn0.step)⟩
 case round =>
  clear H'
  obtain ⟨x5_1,rfl,HA,HK1,⟨m1,rfl⟩⟩:=hrel
  cases gk with
  | zero=>exact absurd HA.out (by simp [spec_l22Has.l0])
  | succ k1 =>
   have H:=HA.out;clear HA;simp only [spec_l22Has.l0] at H
   by_cases c3:x5_1<(l0.length:Int)
   ·rw [if_pos c3] at H;have c3b0:decide (x5_1<(l0.length:Int))=true:=decide_eq_true c3;clear c3
    by_cases c4:0≤x5_1
    ·rw [if_pos c4] at H;have c4b0:decide (0≤x5_1)=true:=decide_eq_true c4;clear c4
     by_cases c5:(rd l0 x5_1)=a1
     ·rw [if_pos c5] at H;obtain ⟨c5b0,c5b1⟩:=eqB c5;clear c5;obtain rfl:=Option.some.inj H;have p381:0≤(x5_1:Int):=of_decide_eq_true bA;have q381:x5_1<(l0.length:Int):=of_decide_eq_true bA;obtain ⟨ad381,e381,hx381_0⟩:=Kd.at_int HR0.out x5_1 p381 q381;cases e381;replace p381:=eq_true p381;replace q381:=eq_true q381
      go_wp2
      go_ret
      exact ⟨by first|rfl|(simp;done)|(simp [*];done),by repeat (first|exact Drawn0.refl _|apply Drawn0.step)⟩
     ·rw [if_neg c5] at H;have c5b0:((rd l0 x5_1) == a1)=false:=beq_eq_false_iff_ne.mpr c5;have c5b1:((rd l0 x5_1) != a1)=true:=bne_iff_ne.mpr c5;have H':=mA H;clear H;have p381:0≤(x5_1:Int):=of_decide_eq_true bA;have q381:x5_1<(l0.length:Int):=of_decide_eq_true bA;obtain ⟨ad381,e381,hx381_0⟩:=Kd.at_int HR0.out x5_1 p381 q381;cases e381;replace p381:=eq_true p381;replace q381:=eq_true q381
      go_wp2
      go_roundg k1
      case measure=>have:=HK1.out;omega
      case rel=>exact ⟨(wrap64 (x5_1+1)),bZ,H',⟨by have:=HK1.out;omega⟩,by repeat (first|exact Drawn0.refl _|apply Drawn0.step)⟩
    ·rw [if_neg c4] at H
     exact absurd H (by simp)
   ·rw [if_neg c3] at H;have c3b0:decide (x5_1<(l0.length:Int))=false:=decide_eq_false c3;clear c3;obtain rfl:=Option.some.inj H
    go_wp2
    go_ret
    exact ⟨by first|rfl|(simp;done)|(simp [*];done),by repeat (first|exact Drawn0.refl _|apply Drawn0.step)⟩
/-! ### spec_l22Value: function 120 -/
def spec_l22Value.f (a0_0 a0_1 a0_2 a0_3 a0_4 a0_5 a0_6 a0_7 a0_8 a0_9 a0_10 a0_11 a0_12 a0_13 a0_14 a0_15 a0_16 a0_17 a0_18 a0_19 a0_20 a0_21 a0_22 a0_23 a0_24 : Int) (l0_25 : List Int) : Option (Int × Int × Int × Int × Int × Int × Int × Int × Int × Int) := if a0_14 > 0 then (some (a0_15, a0_16, a0_17, a0_18, a0_19, a0_20, a0_21, a0_22, a0_23, a0_24)) else (some (a0_3, a0_4, a0_5, a0_6, a0_7, a0_8, a0_9, a0_10, a0_11, a0_12))
set_option maxHeartbeats 8000000 in
set_option maxRecDepth 100000 in
theorem spec_l22Value.calls {a0_0 a0_1 a0_2 a0_3 a0_4 a0_5 a0_6 a0_7 a0_8 a0_9 a0_10 a0_11 a0_12 a0_13 a0_14 a0_15 a0_16 a0_17 a0_18 a0_19 a0_20 a0_21 a0_22 a0_23 a0_24 : Int} {A0_25 : Option Addr} {c0_25 : Nat} {l0_25 : List Int} {r1 r2 r3 r4 r5 r6 r7 r8 r9 r10 : Int} {w : World} (hr0_25 : Kd.C (Kd.int .i64) w A0_25 l0_25.length l0_25) (hc0_25 : l0_25.length ≤ c0_25) (h : spec_l22Value.f a0_0 a0_1 a0_2 a0_3 a0_4 a0_5 a0_6 a0_7 a0_8 a0_9 a0_10 a0_11 a0_12 a0_13 a0_14 a0_15 a0_16 a0_17 a0_18 a0_19 a0_20 a0_21 a0_22 a0_23 a0_24 l0_25 = some (r1, r2, r3, r4, r5, r6, r7, r8, r9, r10)) :
  Calls Try.prog 120 #[.agg #[.int .i64 a0_0,.int .i64 a0_1,.int .i64 a0_2,.int .i64 a0_3,.int .i64 a0_4,.int .i64 a0_5,.int .i64 a0_6,.int .i64 a0_7,.int .i64 a0_8,.int .i64 a0_9,.int .i64 a0_10,.int .i64 a0_11,.int .i64 a0_12,.int .i64 a0_13,.int .i64 a0_14,.int .i64 a0_15,.int .i64 a0_16,.int .i64 a0_17,.int .i64 a0_18,.int .i64 a0_19,.int .i64 a0_20,.int .i64 a0_21,.int .i64 a0_22,.int .i64 a0_23,.int .i64 a0_24,.slice A0_25 l0_25.length c0_25]] w fun e w'=>e=.returned (.agg #[.int .i64 r1,.int .i64 r2,.int .i64 r3,.int .i64 r4,.int .i64 r5,.int .i64 r6,.int .i64 r7,.int .i64 r8,.int .i64 r9,.int .i64 r10])∧Below w.heap.size w w':=by
 have hu66:=Try.underlying66;have hu24:=Try.underlying24;have HR0_25:=mA hr0_25;have HC0_25:=mA hc0_25;clear hr0_25 hc0_25;have HB:=mA (Below.refl w.heap.size w);have H:(if a0_14 > 0 then (some (a0_15,a0_16,a0_17,a0_18,a0_19,a0_20,a0_21,a0_22,a0_23,a0_24)) else (some (a0_3,a0_4,a0_5,a0_6,a0_7,a0_8,a0_9,a0_10,a0_11,a0_12)))=some (r1,r2,r3,r4,r5,r6,r7,r8,r9,r10):=h;clear h
 by_cases c2:a0_14 > 0
 ·rw [if_pos c2] at H;have c2b0:decide (0<a0_14)=true:=decide_eq_true c2;clear c2;simp only [Option.some.injEq,Prod.mk.injEq] at H;obtain ⟨rfl,rfl,rfl,rfl,rfl,rfl,rfl,rfl,rfl,rfl⟩:=H
  go_enter Try.func120,Try.ntmps120
  go_wp2_with (first|((with_reducible refine gLg rfl (by assumption) ?_);refine ldV ?_)|((with_reducible refine gSt rfl (by assumption) ?_);refine stV ?_)|((with_reducible refine gT 1 rfl ?_);refine bX 1 ?_;intro gb382 hg w3 hbox hb;have BK382:=mA hbox;have GW382:=gbpB HB hg;have GE382:=gbpB HB hg;replace HB:=spB HB hb;clear hb hbox hg)|((with_reducible refine gT 2 rfl ?_);refine bJ 2 y24 ?_;intro gb383 hg w4 hbox hb;have BK383:=mA hbox;have GW383:=gbpS HB hg;have GE383:=gbpS HB hg;replace HB:=spS HB hb;have NB382_383:=mA (lN (blk_lt (pK BK382.out)) hg);have hN382_383:=NB382_383.out;have NB383_382:=nS NB382_383;have hN383_382:=NB383_382.out;replace BK382:=bK BK382 hb;clear hb hbox hg;have hcz6_0:=fun i_=>blk_cell BK382.out i_;have hfz6_0:=fun i_=>blk_frozen BK382.out i_;have hcz7_0:=fun i_=>blk_cell BK383.out i_;have hfz7_0:=fun i_=>blk_frozen BK383.out i_))
  refine bodyPost_ret (results_cell_row rfl _ _ gb383 24 #[.int .i64 a0_15,.int .i64 a0_16,.int .i64 a0_17,.int .i64 a0_18,.int .i64 a0_19,.int .i64 a0_20,.int .i64 a0_21,.int .i64 a0_22,.int .i64 a0_23,.int .i64 a0_24] (0,0) _ rfl (pP BK383) Try.underlying24 rfl aK) rfl ?_
  exact rZ (pS HB.out)
 ·rw [if_neg c2] at H;have c2b0:decide (0<a0_14)=false:=decide_eq_false c2;clear c2;simp only [Option.some.injEq,Prod.mk.injEq] at H;obtain ⟨rfl,rfl,rfl,rfl,rfl,rfl,rfl,rfl,rfl,rfl⟩:=H
  go_enter Try.func120,Try.ntmps120
  go_wp2_with (first|((with_reducible refine gLg rfl (by assumption) ?_);refine ldV ?_)|((with_reducible refine gSt rfl (by assumption) ?_);refine stV ?_)|((with_reducible refine gT 1 rfl ?_);refine bX 1 ?_;intro gb382 hg w8 hbox hb;have BK382:=mA hbox;have GW382:=gbpB HB hg;have GE382:=gbpB HB hg;replace HB:=spB HB hb;clear hb hbox hg)|((with_reducible refine gT 2 rfl ?_);refine bJ 2 y24 ?_;intro gb383 hg w9 hbox hb;have BK383:=mA hbox;have GW383:=gbpS HB hg;have GE383:=gbpS HB hg;replace HB:=spS HB hb;have NB382_383:=mA (lN (blk_lt (pK BK382.out)) hg);have hN382_383:=NB382_383.out;have NB383_382:=nS NB382_383;have hN383_382:=NB383_382.out;replace BK382:=bK BK382 hb;clear hb hbox hg;have hcz11_0:=fun i_=>blk_cell BK382.out i_;have hfz11_0:=fun i_=>blk_frozen BK382.out i_;have hcz12_0:=fun i_=>blk_cell BK383.out i_;have hfz12_0:=fun i_=>blk_frozen BK383.out i_))
  refine bodyPost_ret (results_cell_row rfl _ _ gb383 24 #[.int .i64 a0_3,.int .i64 a0_4,.int .i64 a0_5,.int .i64 a0_6,.int .i64 a0_7,.int .i64 a0_8,.int .i64 a0_9,.int .i64 a0_10,.int .i64 a0_11,.int .i64 a0_12] (0,0) _ rfl (pP BK383) Try.underlying24 rfl aK) rfl ?_
  exact rZ (pS HB.out)
end Go.Proofs.Ytoieojmfkkidnaa.P
