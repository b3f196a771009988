-- printed by pprint.py (this session's program over the kit's printer) out of the translation. Lean checks it.
import Derived.Test.YtncohokalilnbaaPx0
namespace Go.Proofs.Ytncohokalilnbaa.P
open Go.RowKit Go.Proofs.YtncohokalilnbaaX Go.Proofs.YtncohokalilnbaaW.PrintWords Go.Proofs.YtncohokalilnbaaW.PrintLast Go.Proofs.YtncohokalilnbaaW.PrintMore
attribute [local go_sem] max2_int min2_int max_two min_two max_three min_three max_four min_four   -- for this text's walks alone
set_option linter.unusedVariables false
set_option linter.unusedSimpArgs false

/-! ### laws_eqCmd: function 21 -/
def laws_eqCmd.f (a0_0 a0_1 a0_2 a0_3 a0_4 a0_5 a0_6 a0_7 a0_8 a0_9 a1_0 a1_1 a1_2 a1_3 a1_4 a1_5 a1_6 a1_7 a1_8 a1_9 : Int) : Option (Bool) := if a0_0 = a1_0 then (if a0_1 = a1_1 then (if a0_2 = a1_2 then (if a0_3 = a1_3 then (if a0_4 = a1_4 then (if a0_5 = a1_5 then (if a0_6 = a1_6 then (if a0_7 = a1_7 then (if a0_8 = a1_8 then (if a0_9 = a1_9 then (some true) else (some false)) else (some false)) else (some false)) else (some false)) else (some false)) else (some false)) else (some false)) else (some false)) else (some false)) else (some false)
set_option maxHeartbeats 8000000 in
set_option maxRecDepth 100000 in
theorem laws_eqCmd.calls {a0_0 a0_1 a0_2 a0_3 a0_4 a0_5 a0_6 a0_7 a0_8 a0_9 a1_0 a1_1 a1_2 a1_3 a1_4 a1_5 a1_6 a1_7 a1_8 a1_9 : Int} {r : Bool} {w : World} (h : laws_eqCmd.f a0_0 a0_1 a0_2 a0_3 a0_4 a0_5 a0_6 a0_7 a0_8 a0_9 a1_0 a1_1 a1_2 a1_3 a1_4 a1_5 a1_6 a1_7 a1_8 a1_9 = some r) :
  Calls Try.prog 21 #[.agg #[.int .i64 a0_0,.int .i64 a0_1,.int .i64 a0_2,.int .i64 a0_3,.int .i64 a0_4,.int .i64 a0_5,.int .i64 a0_6,.int .i64 a0_7,.int .i64 a0_8,.int .i64 a0_9],.agg #[.int .i64 a1_0,.int .i64 a1_1,.int .i64 a1_2,.int .i64 a1_3,.int .i64 a1_4,.int .i64 a1_5,.int .i64 a1_6,.int .i64 a1_7,.int .i64 a1_8,.int .i64 a1_9]] w fun e w'=>e=.returned (.bool r)∧Below w.heap.size w w':=by
 have hu44:=Try.underlying44;have HB:=mA (Below.refl w.heap.size w);have H:(if a0_0=a1_0 then (if a0_1=a1_1 then (if a0_2=a1_2 then (if a0_3=a1_3 then (if a0_4=a1_4 then (if a0_5=a1_5 then (if a0_6=a1_6 then (if a0_7=a1_7 then (if a0_8=a1_8 then (if a0_9=a1_9 then (some true) else (some false)) else (some false)) else (some false)) else (some false)) else (some false)) else (some false)) else (some false)) else (some false)) else (some false)) else (some false))=some r:=h;clear h
 by_cases c3:a0_0=a1_0
 ·rw [if_pos c3] at H;obtain ⟨c3b0,c3b1⟩:=eqB c3;clear c3
  by_cases c4:a0_1=a1_1
  ·rw [if_pos c4] at H;obtain ⟨c4b0,c4b1⟩:=eqB c4;clear c4
   by_cases c5:a0_2=a1_2
   ·rw [if_pos c5] at H;obtain ⟨c5b0,c5b1⟩:=eqB c5;clear c5
    by_cases c6:a0_3=a1_3
    ·rw [if_pos c6] at H;obtain ⟨c6b0,c6b1⟩:=eqB c6;clear c6
     by_cases c7:a0_4=a1_4
     ·rw [if_pos c7] at H;obtain ⟨c7b0,c7b1⟩:=eqB c7;clear c7
      by_cases c8:a0_5=a1_5
      ·rw [if_pos c8] at H;obtain ⟨c8b0,c8b1⟩:=eqB c8;clear c8
       by_cases c9:a0_6=a1_6
       ·rw [if_pos c9] at H;obtain ⟨c9b0,c9b1⟩:=eqB c9;clear c9
        by_cases c10:a0_7=a1_7
        ·rw [if_pos c10] at H;obtain ⟨c10b0,c10b1⟩:=eqB c10;clear c10
         by_cases c11:a0_8=a1_8
         ·rw [if_pos c11] at H;obtain ⟨c11b0,c11b1⟩:=eqB c11;clear c11
          by_cases c12:a0_9=a1_9
          ·rw [if_pos c12] at H;obtain ⟨c12b0,c12b1⟩:=eqB c12;clear c12;obtain rfl:=Option.some.inj H
           go_enter Try.func21,Try.ntmps21
           go_wp2_with (first|((with_reducible refine gLg rfl (by assumption) ?_);refine ldV ?_)|((with_reducible refine gSt rfl (by assumption) ?_);refine stV ?_)|((with_reducible refine gT 2 rfl ?_);refine bX 2 ?_;intro gb101 hg w13 hbox hb;have BK101:=mA hbox;have GW101:=gbpB HB hg;have GE101:=gbpB HB hg;replace HB:=spB HB hb;clear hb hbox hg)|((with_reducible refine gT 3 rfl ?_);refine bX 3 ?_;intro gb102 hg w14 hbox hb;have BK102:=mA hbox;have GW102:=gbpS HB hg;have GE102:=gbpS HB hg;replace HB:=spS HB hb;have NB101_102:=mA (lN (blk_lt (pK BK101.out)) hg);have hN101_102:=NB101_102.out;have NB102_101:=nS NB101_102;have hN102_101:=NB102_101.out;replace BK101:=bK BK101 hb;clear hb hbox hg;have hcz16_0:=fun i_=>blk_cell BK101.out i_;have hfz16_0:=fun i_=>blk_frozen BK101.out i_;have hcz17_0:=fun i_=>blk_cell BK102.out i_;have hfz17_0:=fun i_=>blk_frozen BK102.out i_))
           go_ret
           exact rZ (pS HB.out)
          ·rw [if_neg c12] at H;have c12b0:(a0_9 == a1_9)=false:=beq_eq_false_iff_ne.mpr c12;have c12b1:(a0_9 != a1_9)=true:=bne_iff_ne.mpr c12;obtain rfl:=Option.some.inj H
           go_enter Try.func21,Try.ntmps21
           go_wp2_with (first|((with_reducible refine gLg rfl (by assumption) ?_);refine ldV ?_)|((with_reducible refine gSt rfl (by assumption) ?_);refine stV ?_)|((with_reducible refine gT 2 rfl ?_);refine bX 2 ?_;intro gb101 hg w18 hbox hb;have BK101:=mA hbox;have GW101:=gbpB HB hg;have GE101:=gbpB HB hg;replace HB:=spB HB hb;clear hb hbox hg)|((with_reducible refine gT 3 rfl ?_);refine bX 3 ?_;intro gb102 hg w19 hbox hb;have BK102:=mA hbox;have GW102:=gbpS HB hg;have GE102:=gbpS HB hg;replace HB:=spS HB hb;have NB101_102:=mA (lN (blk_lt (pK BK101.out)) hg);have hN101_102:=NB101_102.out;have NB102_101:=nS NB101_102;have hN102_101:=NB102_101.out;replace BK101:=bK BK101 hb;clear hb hbox hg;have hcz21_0:=fun i_=>blk_cell BK101.out i_;have hfz21_0:=fun i_=>blk_frozen BK101.out i_;have hcz22_0:=fun i_=>blk_cell BK102.out i_;have hfz22_0:=fun i_=>blk_frozen BK102.out i_))
           go_ret
           exact rZ (pS HB.out)
         ·rw [if_neg c11] at H;have c11b0:(a0_8 == a1_8)=false:=beq_eq_false_iff_ne.mpr c11;have c11b1:(a0_8 != a1_8)=true:=bne_iff_ne.mpr c11;obtain rfl:=Option.some.inj H
          go_enter Try.func21,Try.ntmps21
          go_wp2_with (first|((with_reducible refine gLg rfl (by assumption) ?_);refine ldV ?_)|((with_reducible refine gSt rfl (by assumption) ?_);refine stV ?_)|((with_reducible refine gT 2 rfl ?_);refine bX 2 ?_;intro gb101 hg w23 hbox hb;have BK101:=mA hbox;have GW101:=gbpB HB hg;have GE101:=gbpB HB hg;replace HB:=spB HB hb;clear hb hbox hg)|((with_reducible refine gT 3 rfl ?_);refine bX 3 ?_;intro gb102 hg w24 hbox hb;have BK102:=mA hbox;have GW102:=gbpS HB hg;have GE102:=gbpS HB hg;replace HB:=spS HB hb;have NB101_102:=mA (lN (blk_lt (pK BK101.out)) hg);have hN101_102:=NB101_102.out;have NB102_101:=nS NB101_102;have hN102_101:=NB102_101.out;replace BK101:=bK BK101 hb;clear hb hbox hg;have hcz26_0:=fun i_=>blk_cell BK101.out i_;have hfz26_0:=fun i_=>blk_frozen BK101.out i_;have hcz27_0:=fun i_=>blk_cell BK102.out i_;have hfz27_0:=fun i_=>blk_frozen BK102.out i_))
          go_ret
          exact rZ (pS HB.out)
        ·rw [if_neg c10] at H;have c10b0:(a0_7 == a1_7)=false:=beq_eq_false_iff_ne.mpr c10;have c10b1:(a0_7 != a1_7)=true:=bne_iff_ne.mpr c10;obtain rfl:=Option.some.inj H
         go_enter Try.func21,Try.ntmps21
         go_wp2_with (first|((with_reducible refine gLg rfl (by assumption) ?_);refine ldV ?_)|((with_reducible refine gSt rfl (by assumption) ?_);refine stV ?_)|((with_reducible refine gT 2 rfl ?_);refine bX 2 ?_;intro gb101 hg w28 hbox hb;have BK101:=mA hbox;have GW101:=gbpB HB hg;have GE101:=gbpB HB hg;replace HB:=spB HB hb;clear hb hbox hg)|((with_reducible refine gT 3 rfl ?_);refine bX 3 ?_;intro gb102 hg w29 hbox hb;have BK102:=mA hbox;have GW102:=gbpS HB hg;have GE102:=gbpS HB hg;replace HB:=spS HB hb;have NB101_102:=mA (lN (blk_lt (pK BK101.out)) hg);have hN101_102:=NB101_102.out;have NB102_101:=nS NB101_102;have hN102_101:=NB102_101.out;replace BK101:=bK BK101 hb;clear hb hbox hg;have hcz31_0:=fun i_=>blk_cell BK101.out i_;have hfz31_0:=fun i_=>blk_frozen BK101.out i_;have hcz32_0:=fun i_=>blk_cell BK102.out i_;have hfz32_0:=fun i_=>blk_frozen BK102.out i_))
         go_ret
         exact rZ (pS HB.out)
       ·rw [if_neg c9] at H;have c9b0:(a0_6 == a1_6)=false:=beq_eq_false_iff_ne.mpr c9;have c9b1:(a0_6 != a1_6)=true:=bne_iff_ne.mpr c9;obtain rfl:=Option.some.inj H
        go_enter Try.func21,Try.ntmps21
        go_wp2_with (first|((with_reducible refine gLg rfl (by assumption) ?_);refine ldV ?_)|((with_reducible refine gSt rfl (by assumption) ?_);refine stV ?_)|((with_reducible refine gT 2 rfl ?_);refine bX 2 ?_;intro gb101 hg w33 hbox hb;have BK101:=mA hbox;have GW101:=gbpB HB hg;have GE101:=gbpB HB hg;replace HB:=spB HB hb;clear hb hbox hg)|((with_reducible refine gT 3 rfl ?_);refine bX 3 ?_;intro gb102 hg w34 hbox hb;have BK102:=mA hbox;have GW102:=gbpS HB hg;have GE102:=gbpS HB hg;replace HB:=spS HB hb;have NB101_102:=mA (lN (blk_lt (pK BK101.out)) hg);have hN101_102:=NB101_102.out;have NB102_101:=nS NB101_102;have hN102_101:=NB102_101.out;replace BK101:=bK BK101 hb;clear hb hbox hg;have hcz36_0:=fun i_=>blk_cell BK101.out i_;have hfz36_0:=fun i_=>blk_frozen BK101.out i_;have hcz37_0:=fun i_=>blk_cell BK102.out i_;have hfz37_0:=fun i_=>blk_frozen BK102.out i_))
        go_ret
        exact rZ (pS HB.out)
      ·rw [if_neg c8] at H;have c8b0:(a0_5 == a1_5)=false:=beq_eq_false_iff_ne.mpr c8;have c8b1:(a0_5 != a1_5)=true:=bne_iff_ne.mpr c8;obtain rfl:=Option.some.inj H
       go_enter Try.func21,Try.ntmps21
       go_wp2_with (first|((with_reducible refine gLg rfl (by assumption) ?_);refine ldV ?_)|((with_reducible refine gSt rfl (by assumption) ?_);refine stV ?_)|((with_reducible refine gT 2 rfl ?_);refine bX 2 ?_;intro gb101 hg w38 hbox hb;have BK101:=mA hbox;have GW101:=gbpB HB hg;have GE101:=gbpB HB hg;replace HB:=spB HB hb;clear hb hbox hg)|((with_reducible refine gT 3 rfl ?_);refine bX 3 ?_;intro gb102 hg w39 hbox hb;have BK102:=mA hbox;have GW102:=gbpS HB hg;have GE102:=gbpS HB hg;replace HB:=spS HB hb;have NB101_102:=mA (lN (blk_lt (pK BK101.out)) hg);have hN101_102:=NB101_102.out;have NB102_101:=nS NB101_102;have hN102_101:=NB102_101.out;replace BK101:=bK BK101 hb;clear hb hbox hg;have hcz41_0:=fun i_=>blk_cell BK101.out i_;have hfz41_0:=fun i_=>blk_frozen BK101.out i_;have hcz42_0:=fun i_=>blk_cell BK102.out i_;have hfz42_0:=fun i_=>blk_frozen BK102.out i_))
       go_ret
       exact rZ (pS HB.out)
     ·rw [if_neg c7] at H;have c7b0:(a0_4 == a1_4)=false:=beq_eq_false_iff_ne.mpr c7;have c7b1:(a0_4 != a1_4)=true:=bne_iff_ne.mpr c7;obtain rfl:=Option.some.inj H
      go_enter Try.func21,Try.ntmps21
      go_wp2_with (first|((with_reducible refine gLg rfl (by assumption) ?_);refine ldV ?_)|((with_reducible refine gSt rfl (by assumption) ?_);refine stV ?_)|((with_reducible refine gT 2 rfl ?_);refine bX 2 ?_;intro gb101 hg w43 hbox hb;have BK101:=mA hbox;have GW101:=gbpB HB hg;have GE101:=gbpB HB hg;replace HB:=spB HB hb;clear hb hbox hg)|((with_reducible refine gT 3 rfl ?_);refine bX 3 ?_;intro gb102 hg w44 hbox hb;have BK102:=mA hbox;have GW102:=gbpS HB hg;have GE102:=gbpS HB hg;replace HB:=spS HB hb;have NB101_102:=mA (lN (blk_lt (pK BK101.out)) hg);have hN101_102:=NB101_102.out;have NB102_101:=nS NB101_102;have hN102_101:=NB102_101.out;replace BK101:=bK BK101 hb;clear hb hbox hg;have hcz46_0:=fun i_=>blk_cell BK101.out i_;have hfz46_0:=fun i_=>blk_frozen BK101.out i_;have hcz47_0:=fun i_=>blk_cell BK102.out i_;have hfz47_0:=fun i_=>blk_frozen BK102.out i_))
      go_ret
      exact rZ (pS HB.out)
    ·rw [if_neg c6] at H;have c6b0:(a0_3 == a1_3)=false:=beq_eq_false_iff_ne.mpr c6;have c6b1:(a0_3 != a1_3)=true:=bne_iff_ne.mpr c6;obtain rfl:=Option.some.inj H
     go_enter Try.func21,Try.ntmps21
     go_wp2_with (first|((with_reducible refine gLg rfl (by assumption) ?_);refine ldV ?_)|((with_reducible refine gSt rfl (by assumption) ?_);refine stV ?_)|((with_reducible refine gT 2 rfl ?_);refine bX 2 ?_;intro gb101 hg w48 hbox hb;have BK101:=mA hbox;have GW101:=gbpB HB hg;have GE101:=gbpB HB hg;replace HB:=spB HB hb;clear hb hbox hg)|((with_reducible refine gT 3 rfl ?_);refine bX 3 ?_;intro gb102 hg w49 hbox hb;have BK102:=mA hbox;have GW102:=gbpS HB hg;have GE102:=gbpS HB hg;replace HB:=spS HB hb;have NB101_102:=mA (lN (blk_lt (pK BK101.out)) hg);have hN101_102:=NB101_102.out;have NB102_101:=nS NB101_102;have hN102_101:=NB102_101.out;replace BK101:=bK BK101 hb;clear hb hbox hg;have hcz51_0:=fun i_=>blk_cell BK101.out i_;have hfz51_0:=fun i_=>blk_frozen BK101.out i_;have hcz52_0:=fun i_=>blk_cell BK102.out i_;have hfz52_0:=fun i_=>blk_frozen BK102.out i_))
     go_ret
     exact rZ (pS HB.out)
   ·rw [if_neg c5] at H;have c5b0:(a0_2 == a1_2)=false:=beq_eq_false_iff_ne.mpr c5;have c5b1:(a0_2 != a1_2)=true:=bne_iff_ne.mpr c5;obtain rfl:=Option.some.inj H
    go_enter Try.func21,Try.ntmps21
    go_wp2_with (first|((with_reducible refine gLg rfl (by assumption) ?_);refine ldV ?_)|((with_reducible refine gSt rfl (by assumption) ?_);refine stV ?_)|((with_reducible refine gT 2 rfl ?_);refine bX 2 ?_;intro gb101 hg w53 hbox hb;have BK101:=mA hbox;have GW101:=gbpB HB hg;have GE101:=gbpB HB hg;replace HB:=spB HB hb;clear hb hbox hg)|((with_reducible refine gT 3 rfl ?_);refine bX 3 ?_;intro gb102 hg w54 hbox hb;have BK102:=mA hbox;have GW102:=gbpS HB hg;have GE102:=gbpS HB hg;replace HB:=spS HB hb;have NB101_102:=mA (lN (blk_lt (pK BK101.out)) hg);have hN101_102:=NB101_102.out;have NB102_101:=nS NB101_102;have hN102_101:=NB102_101.out;replace BK101:=bK BK101 hb;clear hb hbox hg;have hcz56_0:=fun i_=>blk_cell BK101.out i_;have hfz56_0:=fun i_=>blk_frozen BK101.out i_;have hcz57_0:=fun i_=>blk_cell BK102.out i_;have hfz57_0:=fun i_=>blk_frozen BK102.out i_))
    go_ret
    exact rZ (pS HB.out)
  ·rw [if_neg c4] at H;have c4b0:(a0_1 == a1_1)=false:=beq_eq_false_iff_ne.mpr c4;have c4b1:(a0_1 != a1_1)=true:=bne_iff_ne.mpr c4;obtain rfl:=Option.some.inj H
   go_enter Try.func21,Try.ntmps21
   go_wp2_with (first|((with_reducible refine gLg rfl (by assumption) ?_);refine ldV ?_)|((with_reducible refine gSt rfl (by assumption) ?_);refine stV ?_)|((with_reducible refine gT 2 rfl ?_);refine bX 2 ?_;intro gb101 hg w58 hbox hb;have BK101:=mA hbox;have GW101:=gbpB HB hg;have GE101:=gbpB HB hg;replace HB:=spB HB hb;clear hb hbox hg)|((with_reducible refine gT 3 rfl ?_);refine bX 3 ?_;intro gb102 hg w59 hbox hb;have BK102:=mA hbox;have GW102:=gbpS HB hg;have GE102:=gbpS HB hg;replace HB:=spS HB hb;have NB101_102:=mA (lN (blk_lt (pK BK101.out)) hg);have hN101_102:=NB101_102.out;have NB102_101:=nS NB101_102;have hN102_101:=NB102_101.out;replace BK101:=bK BK101 hb;clear hb hbox hg;have hcz61_0:=fun i_=>blk_cell BK101.out i_;have hfz61_0:=fun i_=>blk_frozen BK101.out i_;have hcz62_0:=fun i_=>blk_cell BK102.out i_;have hfz62_0:=fun i_=>blk_frozen BK102.out i_))
   go_ret
   exact rZ (pS HB.out)
 ·rw [if_neg c3] at H;have c3b0:(a0_0 == a1_0)=false:=beq_eq_false_iff_ne.mpr c3;have c3b1:(a0_0 != a1_0)=true:=bne_iff_ne.mpr c3;obtain rfl:=Option.some.inj H
  go_enter Try.func21,Try.ntmps21
  go_wp2_with (first|((with_reducible refine gLg rfl (by assumption) ?_);refine ldV ?_)|((with_reducible refine gSt rfl (by assumption) ?_);refine stV ?_)|((with_reducible refine gT 2 rfl ?_);refine bX 2 ?_;intro gb101 hg w63 hbox hb;have BK101:=mA hbox;have GW101:=gbpB HB hg;have GE101:=gbpB HB hg;replace HB:=spB HB hb;clear hb hbox hg)|((with_reducible refine gT 3 rfl ?_);refine bX 3 ?_;intro gb102 hg w64 hbox hb;have BK102:=mA hbox;have GW102:=gbpS HB hg;have GE102:=gbpS HB hg;replace HB:=spS HB hb;have NB101_102:=mA (lN (blk_lt (pK BK101.out)) hg);have hN101_102:=NB101_102.out;have NB102_101:=nS NB101_102;have hN102_101:=NB102_101.out;replace BK101:=bK BK101 hb;clear hb hbox hg;have hcz66_0:=fun i_=>blk_cell BK101.out i_;have hfz66_0:=fun i_=>blk_frozen BK101.out i_;have hcz67_0:=fun i_=>blk_cell BK102.out i_;have hfz67_0:=fun i_=>blk_frozen BK102.out i_))
  go_ret
  exact rZ (pS HB.out)

/-! ### laws_eqSynPaper: function 89 -/
def laws_eqSynPaper.f (a0_0 a0_1 a0_2 a0_3 a0_4 a0_5 a0_6 a0_7 a0_8 a0_9 a0_10 a0_11 a1_0 a1_1 a1_2 a1_3 a1_4 a1_5 a1_6 a1_7 a1_8 a1_9 a1_10 a1_11 : Int) : Option (Bool) := if a0_0 = a1_0 then (if a0_1 = a1_1 then ((laws_eqCmd.f a0_2 a0_3 a0_4 a0_5 a0_6 a0_7 a0_8 a0_9 a0_10 a0_11 a1_2 a1_3 a1_4 a1_5 a1_6 a1_7 a1_8 a1_9 a1_10 a1_11).bind fun t105 => (if t105 = true then (some true) else (some false))) else (some false)) else (some false)
set_option maxHeartbeats 8000000 in
set_option maxRecDepth 100000 in
theorem laws_eqSynPaper.calls {a0_0 a0_1 a0_2 a0_3 a0_4 a0_5 a0_6 a0_7 a0_8 a0_9 a0_10 a0_11 a1_0 a1_1 a1_2 a1_3 a1_4 a1_5 a1_6 a1_7 a1_8 a1_9 a1_10 a1_11 : Int} {r : Bool} {w : World} (h : laws_eqSynPaper.f a0_0 a0_1 a0_2 a0_3 a0_4 a0_5 a0_6 a0_7 a0_8 a0_9 a0_10 a0_11 a1_0 a1_1 a1_2 a1_3 a1_4 a1_5 a1_6 a1_7 a1_8 a1_9 a1_10 a1_11 = some r) :
  Calls Try.prog 89 #[.agg #[.int .i64 a0_0,.int .i64 a0_1,.int .i64 a0_2,.int .i64 a0_3,.int .i64 a0_4,.int .i64 a0_5,.int .i64 a0_6,.int .i64 a0_7,.int .i64 a0_8,.int .i64 a0_9,.int .i64 a0_10,.int .i64 a0_11],.agg #[.int .i64 a1_0,.int .i64 a1_1,.int .i64 a1_2,.int .i64 a1_3,.int .i64 a1_4,.int .i64 a1_5,.int .i64 a1_6,.int .i64 a1_7,.int .i64 a1_8,.int .i64 a1_9,.int .i64 a1_10,.int .i64 a1_11]] w fun e w'=>e=.returned (.bool r)∧Below w.heap.size w w':=by
 have hu53:=Try.underlying53;have hu44:=Try.underlying44;have HB:=mA (Below.refl w.heap.size w);have H:(if a0_0=a1_0 then (if a0_1=a1_1 then ((laws_eqCmd.f a0_2 a0_3 a0_4 a0_5 a0_6 a0_7 a0_8 a0_9 a0_10 a0_11 a1_2 a1_3 a1_4 a1_5 a1_6 a1_7 a1_8 a1_9 a1_10 a1_11).bind fun t105=>(if t105=true then (some true) else (some false))) else (some false)) else (some false))=some r:=h;clear h
 by_cases c3:a0_0=a1_0
 ·rw [if_pos c3] at H;obtain ⟨c3b0,c3b1⟩:=eqB c3;clear c3
  by_cases c4:a0_1=a1_1
  ·rw [if_pos c4] at H;obtain ⟨c4b0,c4b1⟩:=eqB c4;clear c4;obtain ⟨t105,A5,H⟩:=bI H;(try dsimp only at H)
   by_cases c6:t105=true
   ·subst c6;rw [if_pos rfl] at H;obtain rfl:=Option.some.inj H
    go_enter Try.func89,Try.ntmps89
    go_wp2_with (first|((with_reducible refine gLg rfl (by assumption) ?_);refine ldV ?_)|((with_reducible refine gSt rfl (by assumption) ?_);refine stV ?_)|((with_reducible refine gT 2 rfl ?_);refine bX 2 ?_;intro gb103 hg w7 hbox hb;have BK103:=mA hbox;have GW103:=gbpB HB hg;have GE103:=gbpB HB hg;replace HB:=spB HB hb;clear hb hbox hg)|((with_reducible refine gT 3 rfl ?_);refine bX 3 ?_;intro gb104 hg w8 hbox hb;have BK104:=mA hbox;have GW104:=gbpS HB hg;have GE104:=gbpS HB hg;replace HB:=spS HB hb;have NB103_104:=mA (lN (blk_lt (pK BK103.out)) hg);have hN103_104:=NB103_104.out;have NB104_103:=nS NB103_104;have hN104_103:=NB104_103.out;replace BK103:=bK BK103 hb;clear hb hbox hg;have hcz10_0:=fun i_=>blk_cell BK103.out i_;have hfz10_0:=fun i_=>blk_frozen BK103.out i_;have hcz11_0:=fun i_=>blk_cell BK104.out i_;have hfz11_0:=fun i_=>blk_frozen BK104.out i_)|((with_reducible refine gT 19 rfl ?_);refine gC (some 19) Try.func21 (laws_eqCmd.calls A5.out) ?_;rintro e w12 ⟨rfl,hb⟩;refine ⟨_,rfl,?_⟩;replace BK103:=bK BK103 hb;replace BK104:=bK BK104 hb;replace HB:=spS HB hb;(try clear hb)))
    go_ret
    exact rZ (pS HB.out)
   ·replace c6:=Bool.eq_false_iff.mpr c6;subst c6
    rw [if_neg nFT] at H
    obtain rfl:=Option.some.inj H
    go_enter Try.func89,Try.ntmps89
    go_wp2_with (first|((with_reducible refine gLg rfl (by assumption) ?_);refine ldV ?_)|((with_reducible refine gSt rfl (by assumption) ?_);refine stV ?_)|((with_reducible refine gT 2 rfl ?_);refine bX 2 ?_;intro gb103 hg w13 hbox hb;have BK103:=mA hbox;have GW103:=gbpB HB hg;have GE103:=gbpB HB hg;replace HB:=spB HB hb;clear hb hbox hg)|((with_reducible refine gT 3 rfl ?_);refine bX 3 ?_;intro gb104 hg w14 hbox hb;have BK104:=mA hbox;have GW104:=gbpS HB hg;have GE104:=gbpS HB hg;replace HB:=spS HB hb;have NB103_104:=mA (lN (blk_lt (pK BK103.out)) hg);have hN103_104:=NB103_104.out;have NB104_103:=nS NB103_104;have hN104_103:=NB104_103.out;replace BK103:=bK BK103 hb;clear hb hbox hg;have hcz16_0:=fun i_=>blk_cell BK103.out i_;have hfz16_0:=fun i_=>blk_frozen BK103.out i_;have hcz17_0:=fun i_=>blk_cell BK104.out i_;have hfz17_0:=fun i_=>blk_frozen BK104.out i_)|((with_reducible refine gT 19 rfl ?_);refine gC (some 19) Try.func21 (laws_eqCmd.calls A5.out) ?_;rintro e w18 ⟨rfl,hb⟩;refine ⟨_,rfl,?_⟩;replace BK103:=bK BK103 hb;replace BK104:=bK BK104 hb;replace HB:=spS HB hb;(try clear hb)))
    go_ret
    exact rZ (pS HB.out)
  ·rw [if_neg c4] at H;have c4b0:(a0_1 == a1_1)=false:=beq_eq_false_iff_ne.mpr c4;have c4b1:(a0_1 != a1_1)=true:=bne_iff_ne.mpr c4;obtain rfl:=Option.some.inj H
   go_enter Try.func89,Try.ntmps89
   go_wp2_with (first|((with_reducible refine gLg rfl (by assumption) ?_);refine ldV ?_)|((with_reducible refine gSt rfl (by assumption) ?_);refine stV ?_)|((with_reducible refine gT 2 rfl ?_);refine bX 2 ?_;intro gb103 hg w19 hbox hb;have BK103:=mA hbox;have GW103:=gbpB HB hg;have GE103:=gbpB HB hg;replace HB:=spB HB hb;clear hb hbox hg)|((with_reducible refine gT 3 rfl ?_);refine bX 3 ?_;intro gb104 hg w20 hbox hb;have BK104:=mA hbox;have GW104:=gbpS HB hg;have GE104:=gbpS HB hg;replace HB:=spS HB hb;have NB103_104:=mA (lN (blk_lt (pK BK103.out)) hg);have hN103_104:=NB103_104.out;have NB104_103:=nS NB103_104;have hN104_103:=NB104_103.out;replace BK103:=bK BK103 hb;clear hb hbox hg;have hcz22_0:=fun i_=>blk_cell BK103.out i_;have hfz22_0:=fun i_=>blk_frozen BK103.out i_;have hcz23_0:=fun i_=>blk_cell BK104.out i_;have hfz23_0:=fun i_=>blk_frozen BK104.out i_))
   go_ret
   exact rZ (pS HB.out)
 ·rw [if_neg c3] at H;have c3b0:(a0_0 == a1_0)=false:=beq_eq_false_iff_ne.mpr c3;have c3b1:(a0_0 != a1_0)=true:=bne_iff_ne.mpr c3;obtain rfl:=Option.some.inj H
  go_enter Try.func89,Try.ntmps89
  go_wp2_with (first|((with_reducible refine gLg rfl (by assumption) ?_);refine ldV ?_)|((with_reducible refine gSt rfl (by assumption) ?_);refine stV ?_)|((with_reducible refine gT 2 rfl ?_);refine bX 2 ?_;intro gb103 hg w24 hbox hb;have BK103:=mA hbox;have GW103:=gbpB HB hg;have GE103:=gbpB HB hg;replace HB:=spB HB hb;clear hb hbox hg)|((with_reducible refine gT 3 rfl ?_);refine bX 3 ?_;intro gb104 hg w25 hbox hb;have BK104:=mA hbox;have GW104:=gbpS HB hg;have GE104:=gbpS HB hg;replace HB:=spS HB hb;have NB103_104:=mA (lN (blk_lt (pK BK103.out)) hg);have hN103_104:=NB103_104.out;have NB104_103:=nS NB103_104;have hN104_103:=NB104_103.out;replace BK103:=bK BK103 hb;clear hb hbox hg;have hcz27_0:=fun i_=>blk_cell BK103.out i_;have hfz27_0:=fun i_=>blk_frozen BK103.out i_;have hcz28_0:=fun i_=>blk_cell BK104.out i_;have hfz28_0:=fun i_=>blk_frozen BK104.out i_))
  go_ret
  exact rZ (pS HB.out)

/-! ### laws_eqSynPaperS: function 38 -/
def laws_eqSynPaperS.l0 : Nat → List (S53) → List (S53) → Int → Option (Bool)
 | 0,_,_,_=>none
 | k+1,x0,x1,x5=>if x5<(x0.length:Int) then (if 0≤x5 then (if x5<(x1.length:Int) then ((laws_eqSynPaper.f ((rd_T53 x0 x5).f0) ((rd_T53 x0 x5).f1) ((rd_T53 x0 x5).f2.f0) ((rd_T53 x0 x5).f2.f1) ((rd_T53 x0 x5).f2.f2) ((rd_T53 x0 x5).f2.f3) ((rd_T53 x0 x5).f2.f4) ((rd_T53 x0 x5).f2.f5) ((rd_T53 x0 x5).f2.f6) ((rd_T53 x0 x5).f2.f7) ((rd_T53 x0 x5).f2.f8) ((rd_T53 x0 x5).f2.f9) ((rd_T53 x1 x5).f0) ((rd_T53 x1 x5).f1) ((rd_T53 x1 x5).f2.f0) ((rd_T53 x1 x5).f2.f1) ((rd_T53 x1 x5).f2.f2) ((rd_T53 x1 x5).f2.f3) ((rd_T53 x1 x5).f2.f4) ((rd_T53 x1 x5).f2.f5) ((rd_T53 x1 x5).f2.f6) ((rd_T53 x1 x5).f2.f7) ((rd_T53 x1 x5).f2.f8) ((rd_T53 x1 x5).f2.f9)).bind fun t108=>(if t108=true then (laws_eqSynPaperS.l0 k x0 x1 (wrap64 (x5+1))) else (some false))) else (none)) else (none)) else (some true)
def laws_eqSynPaperS.f (k : Nat) (l0 : List (S53)) (l1 : List (S53)) : Option (Bool) := if (l0.length : Int) = (l1.length : Int) then (laws_eqSynPaperS.l0 k l0 l1 0) else (some false)
theorem laws_eqSynPaperS.mono_l : ∀ k, (∀ y0 y1 y2, LeO (laws_eqSynPaperS.l0 k y0 y1 y2) (laws_eqSynPaperS.l0 (k + 1) y0 y1 y2))
 | 0=>fun _ _ _ r h=>by simp [laws_eqSynPaperS.l0] at h
 | k+1=>by
  have ih0:=laws_eqSynPaperS.mono_l k
  ·intros
   unfold laws_eqSynPaperS.l0
   repeat' first
   | (with_reducible first|apply ih0|exact LeO.refl _|exact LeO.none _|refine LeO.ite ?_ ?_|refine LeO.bind ?_ (fun _=>?_))|exact LeO.none _|refine LeO.ite ?_ ?_|refine LeO.bind ?_ (fun _=>?_)
theorem laws_eqSynPaperS.mono : ∀ a0 a1 k, LeO (laws_eqSynPaperS.f k a0 a1) (laws_eqSynPaperS.f (k + 1) a0 a1) := by
 intro a0 a1 k;have ih0:=laws_eqSynPaperS.mono_l k
 unfold laws_eqSynPaperS.f
 repeat' first
   | (with_reducible first|apply ih0|exact LeO.refl _|exact LeO.none _|refine LeO.ite ?_ ?_|refine LeO.bind ?_ (fun _=>?_))|exact LeO.none _|refine LeO.ite ?_ ?_|refine LeO.bind ?_ (fun _=>?_)
def laws_eqSynPaperS.T6 : Bool × List (List Nat × List Nat) := (true, [([], []), ([], []), ([0, 1], [0, 1]), ([2], [2]), ([], []), ([], []), ([4, 5], [4, 5]), ([6], [6]), ([3, 7], [3, 7]), ([8], [8])])
def laws_eqSynPaperS.B6 : List Nat := [0, 0, 3, 7, 0, 0, 48, 112, 255, 511]
theorem laws_eqSynPaperS.tab6 : rtab .any (opsOf Try.f38 6) = laws_eqSynPaperS.T6 := by kernel_rfl
theorem laws_eqSynPaperS.bits6 : waitsOk laws_eqSynPaperS.T6.2 laws_eqSynPaperS.B6 = true := by kernel_rfl
set_option maxHeartbeats 8000000 in
set_option maxRecDepth 100000 in
theorem laws_eqSynPaperS.calls {k : Nat} {A0 : Option Addr} {c0 : Nat} {l0 : List (S53)} {A1 : Option Addr} {c1 : Nat} {l1 : List (S53)} {r : Bool} {w : World} (hr0 : Kd.C k53 w A0 l0.length l0) (hc0 : l0.length ≤ c0) (hr1 : Kd.C k53 w A1 l1.length l1) (hc1 : l1.length ≤ c1) (h : laws_eqSynPaperS.f k l0 l1 = some r) :
  Calls Try.prog 38 #[.slice A0 l0.length c0,.slice A1 l1.length c1] w fun e w'=>e=.returned (.bool r)∧Below w.heap.size w w':=by
 have hu53:=Try.underlying53;have HR0:=mA hr0;have HC0:=mA hc0;clear hr0 hc0;have HR1:=mA hr1;have HC1:=mA hc1;clear hr1 hc1;have HB:=mA (Below.refl w.heap.size w);have H:(if (l0.length:Int)=(l1.length:Int) then (laws_eqSynPaperS.l0 k l0 l1 0) else (some false))=some r:=h;clear h
 by_cases c3:(l0.length:Int)=(l1.length:Int)
 ·rw [if_pos c3] at H;have c3b0:((l0.length:Int) == (l1.length:Int))=true:=beq_iff_eq.mpr c3;have c3b1:((l0.length:Int) != (l1.length:Int))=false:=bne_eq_false_iff_eq.mpr c3
  have c3b2:(l0.length == l1.length)=true:=by first|simpa using c3|(simp at c3 ⊢;omega)
  clear c3;have H':=mA H;clear H
  go_enter Try.func38,Try.ntmps38
  go_wp2
  go_loopg [5] k (fun kq v5 w'=>∃ (x5_1:Int),v5=.int .i64 x5_1∧Aside0 (laws_eqSynPaperS.l0 kq l0 l1 x5_1=some r)∧Aside0 (kq≤k)∧Aside0 (Below w.heap.size w w'))
  case atStart=>exact ⟨(0),bZ,H',⟨Nat.le_refl _⟩,⟨pB HB.out⟩⟩
  case round =>
   clear H'
   (try clear c3);(try clear c3b0);(try clear c3b1);(try clear c3b2)
   obtain ⟨x5_1,rfl,HA,HK1,HB⟩:=hrel
   cases gk with
   | zero=>exact absurd HA.out (by simp [laws_eqSynPaperS.l0])
   | succ k1 =>
    have H:=HA.out;clear HA;simp only [laws_eqSynPaperS.l0] at H
    by_cases c4:x5_1<(l0.length:Int)
    ·rw [if_pos c4] at H;have c4b0:decide (x5_1<(l0.length:Int))=true:=decide_eq_true c4;clear c4
     by_cases c5:0≤x5_1
     ·rw [if_pos c5] at H;have c5b0:decide (0≤x5_1)=true:=decide_eq_true c5;clear c5
      by_cases c6:x5_1<(l1.length:Int)
      ·rw [if_pos c6] at H;have c6b0:decide (x5_1<(l1.length:Int))=true:=decide_eq_true c6;clear c6;obtain ⟨t108,A7,H⟩:=bI H;(try dsimp only at H)
       have H0_:=mA H;clear H
       try go_wp2
       replace HB:=mA (below_drew1 HB.out);have p106:0≤(x5_1:Int):=of_decide_eq_true bA;have q106:x5_1<(l0.length:Int):=of_decide_eq_true bA;obtain ⟨ad106,e106,hs106⟩:=at_R53 HR0.out x5_1 p106 q106;cases e106;replace p106:=eq_true p106;replace q106:=eq_true q106;have p107:0≤(x5_1:Int):=of_decide_eq_true bA;have q107:x5_1<(l1.length:Int):=of_decide_eq_true bA;obtain ⟨ad107,e107,hs107⟩:=at_R53 HR1.out x5_1 p107 q107;cases e107;replace p107:=eq_true p107;replace q107:=eq_true q107
       refine start_ (n:=10) (S:=fun w'=>RS w' (ad106.add ((x5_1).toNat * 12)) (d53 (rd_T53 l0 x5_1))∧RS w' (ad107.add ((x5_1).toNat * 12)) (d53 (rd_T53 l1 x5_1))) (ds:=[]) _ aK rfl rfl ⟨rS HB hs106,rS HB hs107⟩ (fun hHeld=>?_);refine with_tabW laws_eqSynPaperS.tab6 laws_eqSynPaperS.bits6 (fun HT_ HW_=>?_)
       generalize wr.drew=w9 at HB hHeld ⊢
       refine qu 0 ?_;refine qu 1 ?_;refine qu 2 ?_;refine qu 4 ?_;refine qu 5 ?_;refine qu 6 ?_;refine qt 3 ?_;refine qt 7 ?_
       refine qo 8 ?_;intro K hK
       refine gD Try.func89 (laws_eqSynPaper.calls A7.out) ?_
       rintro e w10 ⟨rfl,hb⟩;refine ⟨_,rfl,?_⟩;replace HB:=spB HB hb
       (try clear hb)
       refine hK.out _ _ ⟨rS HB hs106,rS HB hs107⟩ (fun hHeld=>?_);clear hK K;refine no_ (some 25) ?_;refine qu 9 ?_;refine qe ?_
       have H:=H0_.out;clear H0_
       by_cases c8:t108=true
       ·subst c8;rw [if_pos rfl] at H;have H':=mA H;clear H
        try go_wp2
        go_roundg k1
        case measure=>have:=HK1.out;omega
        case rel=>exact ⟨(wrap64 (x5_1+1)),bZ,H',⟨by have:=HK1.out;omega⟩,⟨pB HB.out⟩⟩
       ·replace c8:=Bool.eq_false_iff.mpr c8;subst c8
        rw [if_neg nFT] at H
        obtain rfl:=Option.some.inj H
        try go_wp2
        go_ret
        exact rZ (pB HB.out)
      ·rw [if_neg c6] at H
       exact absurd H (by simp)
     ·rw [if_neg c5] at H
      exact absurd H (by simp)
    ·rw [if_neg c4] at H;have c4b0:decide (x5_1<(l0.length:Int))=false:=decide_eq_false c4;clear c4;obtain rfl:=Option.some.inj H
     go_wp2
     go_ret
     exact rZ (pB HB.out)
 ·rw [if_neg c3] at H;have c3b0:((l0.length:Int) == (l1.length:Int))=false:=beq_eq_false_iff_ne.mpr c3;have c3b1:((l0.length:Int) != (l1.length:Int))=true:=bne_iff_ne.mpr c3
  have c3b2:(l0.length == l1.length)=false:=by first|simpa using c3|(simp at c3 ⊢;omega)
  obtain rfl:=Option.some.inj H
  go_enter Try.func38,Try.ntmps38
  go_wp2
  go_ret
  exact rZ (pB HB.out)

/-! ### laws_eqSynVoter: function 86 -/
def laws_eqSynVoter.f (k : Nat) (a0_0 : Int) (l0_1 : List (S53)) (a1_0 : Int) (l1_1 : List (S53)) : Option (Bool) := if a0_0 = a1_0 then ((laws_eqSynPaperS.f k l0_1 l1_1).bind fun t111 => (if t111 = true then (some true) else (some false))) else (some false)
theorem laws_eqSynVoter.mono : ∀ a0 a1 a2 a3 k, LeO (laws_eqSynVoter.f k a0 a1 a2 a3) (laws_eqSynVoter.f (k + 1) a0 a1 a2 a3) := by
 intro a0 a1 a2 a3 k
 unfold laws_eqSynVoter.f
 repeat' first
   | (with_reducible first|apply laws_eqSynPaperS.mono|exact LeO.refl _|exact LeO.none _|refine LeO.ite ?_ ?_|refine LeO.bind ?_ (fun _=>?_))|exact LeO.none _|refine LeO.ite ?_ ?_|refine LeO.bind ?_ (fun _=>?_)
set_option maxHeartbeats 8000000 in
set_option maxRecDepth 100000 in
theorem laws_eqSynVoter.calls {k : Nat} {a0_0 : Int} {A0_1 : Option Addr} {c0_1 : Nat} {l0_1 : List (S53)} {a1_0 : Int} {A1_1 : Option Addr} {c1_1 : Nat} {l1_1 : List (S53)} {r : Bool} {w : World} (hr0_1 : Kd.C k53 w A0_1 l0_1.length l0_1) (hc0_1 : l0_1.length ≤ c0_1) (hr1_1 : Kd.C k53 w A1_1 l1_1.length l1_1) (hc1_1 : l1_1.length ≤ c1_1) (h : laws_eqSynVoter.f k a0_0 l0_1 a1_0 l1_1 = some r) :
  Calls Try.prog 86 #[.agg #[.int .i64 a0_0,.slice A0_1 l0_1.length c0_1],.agg #[.int .i64 a1_0,.slice A1_1 l1_1.length c1_1]] w fun e w'=>e=.returned (.bool r)∧Below w.heap.size w w':=by
 have hu84:=Try.underlying84;have HR0_1:=mA hr0_1;have HC0_1:=mA hc0_1;clear hr0_1 hc0_1;have HR1_1:=mA hr1_1;have HC1_1:=mA hc1_1;clear hr1_1 hc1_1;have HB:=mA (Below.refl w.heap.size w);have H:(if a0_0=a1_0 then ((laws_eqSynPaperS.f k l0_1 l1_1).bind fun t111=>(if t111=true then (some true) else (some false))) else (some false))=some r:=h;clear h
 by_cases c3:a0_0=a1_0
 ·rw [if_pos c3] at H;obtain ⟨c3b0,c3b1⟩:=eqB c3;clear c3;obtain ⟨t111,A4,H⟩:=bI H;(try dsimp only at H)
  by_cases c5:t111=true
  ·subst c5;rw [if_pos rfl] at H;obtain rfl:=Option.some.inj H
   go_enter Try.func86,Try.ntmps86
   go_wp2_with (first|((with_reducible refine gT 2 rfl ?_);refine bE 2 #[.int .i64 a0_0,.slice A0_1 l0_1.length c0_1] 84 ?_;intro gb109 hg w6 hbox hb;have BK109:=mA hbox;have GW109:=gbpB HB hg;have GE109:=gbpB HB hg;replace HB:=spB HB hb;clear hb hbox hg)|((with_reducible refine gT 3 rfl ?_);refine bE 3 #[.int .i64 a1_0,.slice A1_1 l1_1.length c1_1] 84 ?_;intro gb110 hg w7 hbox hb;have BK110:=mA hbox;have GW110:=gbpS HB hg;have GE110:=gbpS HB hg;replace HB:=spS HB hb;have NB109_110:=mA (lN (blk_lt (pK BK109.out)) hg);have hN109_110:=NB109_110.out;have NB110_109:=nS NB109_110;have hN110_109:=NB110_109.out;replace BK109:=bK BK109 hb;clear hb hbox hg;obtain ⟨hcz9_0,hcz9_1,hfz9_0,hfz9_1⟩:=box2 BK109.out;obtain ⟨hcz10_0,hcz10_1,hfz10_0,hfz10_1⟩:=box2 BK110.out)|((with_reducible refine gT 14 rfl ?_);refine gC (some 14) Try.func38 (laws_eqSynPaperS.calls (cB HR0_1 HB) HC0_1.out (cB HR1_1 HB) HC1_1.out A4.out) ?_;rintro e w11 ⟨rfl,hb⟩;refine ⟨_,rfl,?_⟩;replace BK109:=bK BK109 hb;replace BK110:=bK BK110 hb;replace HB:=spS HB hb;(try clear hb)))
   go_ret
   exact rZ (pS HB.out)
  ·replace c5:=Bool.eq_false_iff.mpr c5;subst c5
   rw [if_neg nFT] at H
   obtain rfl:=Option.some.inj H
   go_enter Try.func86,Try.ntmps86
   go_wp2_with (first|((with_reducible refine gT 2 rfl ?_);refine bE 2 #[.int .i64 a0_0,.slice A0_1 l0_1.length c0_1] 84 ?_;intro gb109 hg w12 hbox hb;have BK109:=mA hbox;have GW109:=gbpB HB hg;have GE109:=gbpB HB hg;replace HB:=spB HB hb;clear hb hbox hg)|((with_reducible refine gT 3 rfl ?_);refine bE 3 #[.int .i64 a1_0,.slice A1_1 l1_1.length c1_1] 84 ?_;intro gb110 hg w13 hbox hb;have BK110:=mA hbox;have GW110:=gbpS HB hg;have GE110:=gbpS HB hg;replace HB:=spS HB hb;have NB109_110:=mA (lN (blk_lt (pK BK109.out)) hg);have hN109_110:=NB109_110.out;have NB110_109:=nS NB109_110;have hN110_109:=NB110_109.out;replace BK109:=bK BK109 hb;clear hb hbox hg;obtain ⟨hcz15_0,hcz15_1,hfz15_0,hfz15_1⟩:=box2 BK109.out;obtain ⟨hcz16_0,hcz16_1,hfz16_0,hfz16_1⟩:=box2 BK110.out)|((with_reducible refine gT 14 rfl ?_);refine gC (some 14) Try.func38 (laws_eqSynPaperS.calls (cB HR0_1 HB) HC0_1.out (cB HR1_1 HB) HC1_1.out A4.out) ?_;rintro e w17 ⟨rfl,hb⟩;refine ⟨_,rfl,?_⟩;replace BK109:=bK BK109 hb;replace BK110:=bK BK110 hb;replace HB:=spS HB hb;(try clear hb)))
   go_ret
   exact rZ (pS HB.out)
 ·rw [if_neg c3] at H;have c3b0:(a0_0 == a1_0)=false:=beq_eq_false_iff_ne.mpr c3;have c3b1:(a0_0 != a1_0)=true:=bne_iff_ne.mpr c3;obtain rfl:=Option.some.inj H
  go_enter Try.func86,Try.ntmps86
  go_wp2_with (first|((with_reducible refine gT 2 rfl ?_);refine bE 2 #[.int .i64 a0_0,.slice A0_1 l0_1.length c0_1] 84 ?_;intro gb109 hg w18 hbox hb;have BK109:=mA hbox;have GW109:=gbpB HB hg;have GE109:=gbpB HB hg;replace HB:=spB HB hb;clear hb hbox hg)|((with_reducible refine gT 3 rfl ?_);refine bE 3 #[.int .i64 a1_0,.slice A1_1 l1_1.length c1_1] 84 ?_;intro gb110 hg w19 hbox hb;have BK110:=mA hbox;have GW110:=gbpS HB hg;have GE110:=gbpS HB hg;replace HB:=spS HB hb;have NB109_110:=mA (lN (blk_lt (pK BK109.out)) hg);have hN109_110:=NB109_110.out;have NB110_109:=nS NB109_110;have hN110_109:=NB110_109.out;replace BK109:=bK BK109 hb;clear hb hbox hg;obtain ⟨hcz21_0,hcz21_1,hfz21_0,hfz21_1⟩:=box2 BK109.out;obtain ⟨hcz22_0,hcz22_1,hfz22_0,hfz22_1⟩:=box2 BK110.out))
  go_ret
  exact rZ (pS HB.out)

/-! ### laws_eqSynVoterS: function 34 -/
def laws_eqSynVoterS.l0 : Nat → List (S84) → List (S84) → Int → Option (Bool)
 | 0,_,_,_=>none
 | k+1,x0,x1,x5=>if x5<(x0.length:Int) then (if 0≤x5 then (if x5<(x1.length:Int) then ((laws_eqSynVoter.f k ((rd_T84 x0 x5).f0) ((rd_T84 x0 x5).f1) ((rd_T84 x1 x5).f0) ((rd_T84 x1 x5).f1)).bind fun t114=>(if t114=true then (laws_eqSynVoterS.l0 k x0 x1 (wrap64 (x5+1))) else (some false))) else (none)) else (none)) else (some true)
def laws_eqSynVoterS.f (k : Nat) (l0 : List (S84)) (l1 : List (S84)) : Option (Bool) := if (l0.length : Int) = (l1.length : Int) then (laws_eqSynVoterS.l0 k l0 l1 0) else (some false)
theorem laws_eqSynVoterS.mono_l : ∀ k, (∀ y0 y1 y2, LeO (laws_eqSynVoterS.l0 k y0 y1 y2) (laws_eqSynVoterS.l0 (k + 1) y0 y1 y2))
 | 0=>fun _ _ _ r h=>by simp [laws_eqSynVoterS.l0] at h
 | k+1=>by
  have ih0:=laws_eqSynVoterS.mono_l k
  ·intros
   unfold laws_eqSynVoterS.l0
   repeat' first
   | (with_reducible first|apply ih0|apply laws_eqSynVoter.mono|exact LeO.refl _|exact LeO.none _|refine LeO.ite ?_ ?_|refine LeO.bind ?_ (fun _=>?_))|exact LeO.none _|refine LeO.ite ?_ ?_|refine LeO.bind ?_ (fun _=>?_)
theorem laws_eqSynVoterS.mono : ∀ a0 a1 k, LeO (laws_eqSynVoterS.f k a0 a1) (laws_eqSynVoterS.f (k + 1) a0 a1) := by
 intro a0 a1 k;have ih0:=laws_eqSynVoterS.mono_l k
 unfold laws_eqSynVoterS.f
 repeat' first
   | (with_reducible first|apply ih0|apply laws_eqSynVoter.mono|exact LeO.refl _|exact LeO.none _|refine LeO.ite ?_ ?_|refine LeO.bind ?_ (fun _=>?_))|exact LeO.none _|refine LeO.ite ?_ ?_|refine LeO.bind ?_ (fun _=>?_)
def laws_eqSynVoterS.T6 : Bool × List (List Nat × List Nat) := (true, [([], []), ([], []), ([0, 1], [0, 1]), ([2], [2]), ([], []), ([], []), ([4, 5], [4, 5]), ([6], [6]), ([3, 7], [3, 7]), ([8], [8])])
def laws_eqSynVoterS.B6 : List Nat := [0, 0, 3, 7, 0, 0, 48, 112, 255, 511]
theorem laws_eqSynVoterS.tab6 : rtab .any (opsOf Try.f34 6) = laws_eqSynVoterS.T6 := by kernel_rfl
theorem laws_eqSynVoterS.bits6 : waitsOk laws_eqSynVoterS.T6.2 laws_eqSynVoterS.B6 = true := by kernel_rfl
set_option maxHeartbeats 8000000 in
set_option maxRecDepth 100000 in
theorem laws_eqSynVoterS.calls {k : Nat} {A0 : Option Addr} {c0 : Nat} {l0 : List (S84)} {A1 : Option Addr} {c1 : Nat} {l1 : List (S84)} {r : Bool} {w : World} (hr0 : Kd.C k84 w A0 l0.length l0) (hc0 : l0.length ≤ c0) (hr1 : Kd.C k84 w A1 l1.length l1) (hc1 : l1.length ≤ c1) (h : laws_eqSynVoterS.f k l0 l1 = some r) :
  Calls Try.prog 34 #[.slice A0 l0.length c0,.slice A1 l1.length c1] w fun e w'=>e=.returned (.bool r)∧Below w.heap.size w w':=by
 have hu84:=Try.underlying84;have HR0:=mA hr0;have HC0:=mA hc0;clear hr0 hc0;have HR1:=mA hr1;have HC1:=mA hc1;clear hr1 hc1;have HB:=mA (Below.refl w.heap.size w);have H:(if (l0.length:Int)=(l1.length:Int) then (laws_eqSynVoterS.l0 k l0 l1 0) else (some false))=some r:=h;clear h
 by_cases c3:(l0.length:Int)=(l1.length:Int)
 ·rw [if_pos c3] at H;have c3b0:((l0.length:Int) == (l1.length:Int))=true:=beq_iff_eq.mpr c3;have c3b1:((l0.length:Int) != (l1.length:Int))=false:=bne_eq_false_iff_eq.mpr c3
  have c3b2:(l0.length == l1.length)=true:=by first|simpa using c3|(simp at c3 ⊢;omega)
  clear c3;have H':=mA H;clear H
  go_enter Try.func34,Try.ntmps34
  go_wp2
  go_loopg [5] k (fun kq v5 w'=>∃ (x5_1:Int),v5=.int .i64 x5_1∧Aside0 (laws_eqSynVoterS.l0 kq l0 l1 x5_1=some r)∧Aside0 (kq≤k)∧Aside0 (Below w.heap.size w w'))
  case atStart=>exact ⟨(0),bZ,H',⟨Nat.le_refl _⟩,⟨pB HB.out⟩⟩
  case round =>
   clear H'
   (try clear c3);(try clear c3b0);(try clear c3b1);(try clear c3b2)
   obtain ⟨x5_1,rfl,HA,HK1,HB⟩:=hrel
   cases gk with
   | zero=>exact absurd HA.out (by simp [laws_eqSynVoterS.l0])
   | succ k1 =>
    have H:=HA.out;clear HA;simp only [laws_eqSynVoterS.l0] at H
    by_cases c4:x5_1<(l0.length:Int)
    ·rw [if_pos c4] at H;have c4b0:decide (x5_1<(l0.length:Int))=true:=decide_eq_true c4;clear c4
     by_cases c5:0≤x5_1
     ·rw [if_pos c5] at H;have c5b0:decide (0≤x5_1)=true:=decide_eq_true c5;clear c5
      by_cases c6:x5_1<(l1.length:Int)
      ·rw [if_pos c6] at H;have c6b0:decide (x5_1<(l1.length:Int))=true:=decide_eq_true c6;clear c6;obtain ⟨t114,A7,H⟩:=bI H;(try dsimp only at H)
       have H0_:=mA H;clear H
       try go_wp2
       replace HB:=mA (below_drew1 HB.out);have p112:0≤(x5_1:Int):=of_decide_eq_true bA;have q112:x5_1<(l0.length:Int):=of_decide_eq_true bA;obtain ⟨ad112,A112_1,c112_1,e112,hs112,hl112_1,hi112_1⟩:=at_R84 HR0.out x5_1 p112 q112;cases e112;have HR112_1:=mA hi112_1;have HC112_1:=mA hl112_1;clear hi112_1 hl112_1;replace p112:=eq_true p112;replace q112:=eq_true q112;have p113:0≤(x5_1:Int):=of_decide_eq_true bA;have q113:x5_1<(l1.length:Int):=of_decide_eq_true bA;obtain ⟨ad113,A113_1,c113_1,e113,hs113,hl113_1,hi113_1⟩:=at_R84 HR1.out x5_1 p113 q113;cases e113;have HR113_1:=mA hi113_1;have HC113_1:=mA hl113_1;clear hi113_1 hl113_1;replace p113:=eq_true p113;replace q113:=eq_true q113
       refine start_ (n:=10) (S:=fun w'=>RS w' (ad112.add ((x5_1).toNat * 2)) (d84 (rd_T84 l0 x5_1) (.slice A112_1 ((rd_T84 l0 x5_1).f1).length c112_1))∧RS w' (ad113.add ((x5_1).toNat * 2)) (d84 (rd_T84 l1 x5_1) (.slice A113_1 ((rd_T84 l1 x5_1).f1).length c113_1))) (ds:=[]) _ aK rfl rfl ⟨rS HB hs112,rS HB hs113⟩ (fun hHeld=>?_);refine with_tabW laws_eqSynVoterS.tab6 laws_eqSynVoterS.bits6 (fun HT_ HW_=>?_)
       generalize wr.drew=w9 at HB HR112_1 HR113_1 hHeld ⊢
       refine qu 0 ?_;refine qu 1 ?_;refine qu 2 ?_;refine qu 4 ?_;refine qu 5 ?_;refine qu 6 ?_;refine qt 3 ?_;refine qt 7 ?_
       refine qo 8 ?_;intro K hK
       refine gD Try.func86 (laws_eqSynVoter.calls (cB HR112_1 HB) HC112_1.out (cB HR113_1 HB) HC113_1.out A7.out) ?_
       rintro e w10 ⟨rfl,hb⟩;refine ⟨_,rfl,?_⟩;replace HB:=spB HB hb
       (try clear hb)
       refine hK.out _ _ ⟨rS HB hs112,rS HB hs113⟩ (fun hHeld=>?_);clear hK K;refine no_ (some 25) ?_;refine qu 9 ?_;refine qe ?_
       have H:=H0_.out;clear H0_
       by_cases c8:t114=true
       ·subst c8;rw [if_pos rfl] at H;have H':=mA H;clear H
        try go_wp2
        go_roundg k1
        case measure=>have:=HK1.out;omega
        case rel=>exact ⟨(wrap64 (x5_1+1)),bZ,H',⟨by have:=HK1.out;omega⟩,⟨pB HB.out⟩⟩
       ·replace c8:=Bool.eq_false_iff.mpr c8;subst c8
        rw [if_neg nFT] at H
        obtain rfl:=Option.some.inj H
        try go_wp2
        go_ret
        exact rZ (pB HB.out)
      ·rw [if_neg c6] at H
       exact absurd H (by simp)
     ·rw [if_neg c5] at H
      exact absurd H (by simp)
    ·rw [if_neg c4] at H;have c4b0:decide (x5_1<(l0.length:Int))=false:=decide_eq_false c4;clear c4;obtain rfl:=Option.some.inj H
     go_wp2
     go_ret
     exact rZ (pB HB.out)
 ·rw [if_neg c3] at H;have c3b0:((l0.length:Int) == (l1.length:Int))=false:=beq_eq_false_iff_ne.mpr c3;have c3b1:((l0.length:Int) != (l1.length:Int))=true:=bne_iff_ne.mpr c3
  have c3b2:(l0.length == l1.length)=false:=by first|simpa using c3|(simp at c3 ⊢;omega)
  obtain rfl:=Option.some.inj H
  go_enter Try.func34,Try.ntmps34
  go_wp2
  go_ret
  exact rZ (pB HB.out)

/-! ### laws_eqIntS: function 35 -/
def laws_eqIntS.l0 : Nat → List Int → List Int → Int → Option (Bool)
 | 0,_,_,_=>none
 | k+1,x0,x1,x5=>if x5<(x0.length:Int) then (if 0≤x5 then (if x5<(x1.length:Int) then (if (rd x0 x5)=(rd x1 x5) then (laws_eqIntS.l0 k x0 x1 (wrap64 (x5+1))) else (some false)) else (none)) else (none)) else (some true)
def laws_eqIntS.f (k : Nat) (l0 : List Int) (l1 : List Int) : Option (Bool) := if (l0.length : Int) = (l1.length : Int) then (laws_eqIntS.l0 k l0 l1 0) else (some false)
theorem laws_eqIntS.mono_l : ∀ k, (∀ y0 y1 y2, LeO (laws_eqIntS.l0 k y0 y1 y2) (laws_eqIntS.l0 (k + 1) y0 y1 y2))
 | 0=>fun _ _ _ r h=>by simp [laws_eqIntS.l0] at h
 | k+1=>by
  have ih0:=laws_eqIntS.mono_l k
  ·intros
   unfold laws_eqIntS.l0
   repeat' first
   | (with_reducible first|apply ih0|exact LeO.refl _|exact LeO.none _|refine LeO.ite ?_ ?_|refine LeO.bind ?_ (fun _=>?_))|exact LeO.none _|refine LeO.ite ?_ ?_|refine LeO.bind ?_ (fun _=>?_)
theorem laws_eqIntS.mono : ∀ a0 a1 k, LeO (laws_eqIntS.f k a0 a1) (laws_eqIntS.f (k + 1) a0 a1) := by
 intro a0 a1 k;have ih0:=laws_eqIntS.mono_l k
 unfold laws_eqIntS.f
 repeat' first
   | (with_reducible first|apply ih0|exact LeO.refl _|exact LeO.none _|refine LeO.ite ?_ ?_|refine LeO.bind ?_ (fun _=>?_))|exact LeO.none _|refine LeO.ite ?_ ?_|refine LeO.bind ?_ (fun _=>?_)
set_option maxHeartbeats 8000000 in
set_option maxRecDepth 100000 in
theorem laws_eqIntS.calls {k : Nat} {A0 : Option Addr} {c0 : Nat} {l0 : List Int} {A1 : Option Addr} {c1 : Nat} {l1 : List Int} {r : Bool} {w : World} (hr0 : Kd.C (Kd.int .i64) w A0 l0.length l0) (hc0 : l0.length ≤ c0) (hr1 : Kd.C (Kd.int .i64) w A1 l1.length l1) (hc1 : l1.length ≤ c1) (h : laws_eqIntS.f k l0 l1 = some r) :
  Calls Try.prog 35 #[.slice A0 l0.length c0,.slice A1 l1.length c1] w fun e w'=>e=.returned (.bool r)∧Drawn0 w w':=by
 have HR0:=mA hr0;have HC0:=mA hc0;clear hr0 hc0;have HR1:=mA hr1;have HC1:=mA hc1;clear hr1 hc1;have H:(if (l0.length:Int)=(l1.length:Int) then (laws_eqIntS.l0 k l0 l1 0) else (some false))=some r:=h;clear h
 by_cases c3:(l0.length:Int)=(l1.length:Int)
 ·rw [if_pos c3] at H;have c3b0:((l0.length:Int) == (l1.length:Int))=true:=beq_iff_eq.mpr c3;have c3b1:((l0.length:Int) != (l1.length:Int))=false:=bne_eq_false_iff_eq.mpr c3
  have c3b2:(l0.length == l1.length)=true:=by first|simpa using c3|(simp at c3 ⊢;omega)
  clear c3;have H':=mA H;clear H
  go_enter Try.func35,Try.ntmps35
  go_wp2
  repeat (go_quiet (fail);try go_wp2)
  go_loopg [5] k (fun kq v5 w'=>∃ (x5_1:Int),v5=.int .i64 x5_1∧Aside0 (laws_eqIntS.l0 kq l0 l1 x5_1=some r)∧Aside0 (kq≤k)∧Drawn0 w w')
  case atStart=>exact ⟨(0),bZ,H',⟨Nat.le_refl _⟩,by repeat (first|exact Drawn0.refl _|apply Drawn0.step)⟩
  case round =>
   clear H'
   (try clear c3);(try clear c3b0);(try clear c3b1);(try clear c3b2)
   obtain ⟨x5_1,rfl,HA,HK1,⟨m1,rfl⟩⟩:=hrel
   cases gk with
   | zero=>exact absurd HA.out (by simp [laws_eqIntS.l0])
   | succ k1 =>
    have H:=HA.out;clear HA;simp only [laws_eqIntS.l0] at H
    by_cases c4:x5_1<(l0.length:Int)
    ·rw [if_pos c4] at H;have c4b0:decide (x5_1<(l0.length:Int))=true:=decide_eq_true c4;clear c4
     by_cases c5:0≤x5_1
     ·rw [if_pos c5] at H;have c5b0:decide (0≤x5_1)=true:=decide_eq_true c5;clear c5
      by_cases c6:x5_1<(l1.length:Int)
      ·rw [if_pos c6] at H;have c6b0:decide (x5_1<(l1.length:Int))=true:=decide_eq_true c6;clear c6
       by_cases c7:(rd l0 x5_1)=(rd l1 x5_1)
       ·rw [if_pos c7] at H;obtain ⟨c7b0,c7b1⟩:=eqB c7;clear c7;have H':=mA H;clear H;have p115:0≤(x5_1:Int):=of_decide_eq_true bA;have q115:x5_1<(l0.length:Int):=of_decide_eq_true bA;obtain ⟨ad115,e115,hx115_0⟩:=Kd.at_int HR0.out x5_1 p115 q115;cases e115;replace p115:=eq_true p115;replace q115:=eq_true q115;have p116:0≤(x5_1:Int):=of_decide_eq_true bA;have q116:x5_1<(l1.length:Int):=of_decide_eq_true bA;obtain ⟨ad116,e116,hx116_0⟩:=Kd.at_int HR1.out x5_1 p116 q116;cases e116;replace p116:=eq_true p116;replace q116:=eq_true q116
        go_wp2
        repeat (go_quiet (fail);try go_wp2)
        go_roundg k1
        case measure=>have:=HK1.out;omega
        case rel=>exact ⟨(wrap64 (x5_1+1)),bZ,H',⟨by have:=HK1.out;omega⟩,by repeat (first|exact Drawn0.refl _|apply Drawn0.step)⟩
       ·rw [if_neg c7] at H;have c7b0:((rd l0 x5_1) == (rd l1 x5_1))=false:=beq_eq_false_iff_ne.mpr c7;have c7b1:((rd l0 x5_1) != (rd l1 x5_1))=true:=bne_iff_ne.mpr c7;obtain rfl:=Option.some.inj H;have p115:0≤(x5_1:Int):=of_decide_eq_true bA;have q115:x5_1<(l0.length:Int):=of_decide_eq_true bA;obtain ⟨ad115,e115,hx115_0⟩:=Kd.at_int HR0.out x5_1 p115 q115;cases e115;replace p115:=eq_true p115;replace q115:=eq_true q115;have p116:0≤(x5_1:Int):=of_decide_eq_true bA;have q116:x5_1<(l1.length:Int):=of_decide_eq_true bA;obtain ⟨ad116,e116,hx116_0⟩:=Kd.at_int HR1.out x5_1 p116 q116;cases e116;replace p116:=eq_true p116;replace q116:=eq_true q116
        go_wp2
        repeat (go_quiet (fail);try go_wp2)
        go_ret
        exact ⟨by first|rfl|(simp;done)|(simp [*];done),by repeat (first|exact Drawn0.refl _|apply Drawn0.step)⟩
      ·rw [if_neg c6] at H
       exact absurd H (by simp)
     ·rw [if_neg c5] at H
      exact absurd H (by simp)
    ·rw [if_neg c4] at H;have c4b0:decide (x5_1<(l0.length:Int))=false:=decide_eq_false c4;clear c4;obtain rfl:=Option.some.inj H
     go_wp2
     repeat (go_quiet (fail);try go_wp2)
     go_ret
     exact ⟨by first|rfl|(simp;done)|(simp [*];done),by repeat (first|exact Drawn0.refl _|apply Drawn0.step)⟩
 ·rw [if_neg c3] at H;have c3b0:((l0.length:Int) == (l1.length:Int))=false:=beq_eq_false_iff_ne.mpr c3;have c3b1:((l0.length:Int) != (l1.length:Int))=true:=bne_iff_ne.mpr c3
  have c3b2:(l0.length == l1.length)=false:=by first|simpa using c3|(simp at c3 ⊢;omega)
  obtain rfl:=Option.some.inj H
  go_enter Try.func35,Try.ntmps35
  go_wp2
  repeat (go_quiet (fail);try go_wp2)
  go_ret
  exact ⟨by first|rfl|(simp;done)|(simp [*];done),by repeat (first|exact Drawn0.refl _|apply Drawn0.step)⟩

/-! ### laws_eqSynSeeker: function 87 -/
def laws_eqSynSeeker.f (k : Nat) (a0_0 a0_1 a0_2 a0_3 a0_4 a0_5 a0_6 a0_7 a0_8 a0_9 a0_10 a0_11 a0_12 a0_13 a0_14 a0_15 a0_16 a0_17 a0_18 a0_19 a0_20 a0_21 a0_22 a0_23 a0_24 : Int) (l0_25 : List Int) (a1_0 a1_1 a1_2 a1_3 a1_4 a1_5 a1_6 a1_7 a1_8 a1_9 a1_10 a1_11 a1_12 a1_13 a1_14 a1_15 a1_16 a1_17 a1_18 a1_19 a1_20 a1_21 a1_22 a1_23 a1_24 : Int) (l1_25 : List Int) : Option (Bool) := if a0_0 = a1_0 then (if a0_1 = a1_1 then (if a0_2 = a1_2 then ((laws_eqCmd.f a0_3 a0_4 a0_5 a0_6 a0_7 a0_8 a0_9 a0_10 a0_11 a0_12 a1_3 a1_4 a1_5 a1_6 a1_7 a1_8 a1_9 a1_10 a1_11 a1_12).bind fun t119 => (if t119 = true then ((laws_eqSynPaper.f a0_13 a0_14 a0_15 a0_16 a0_17 a0_18 a0_19 a0_20 a0_21 a0_22 a0_23 a0_24 a1_13 a1_14 a1_15 a1_16 a1_17 a1_18 a1_19 a1_20 a1_21 a1_22 a1_23 a1_24).bind fun t120 => (if t120 = true then ((laws_eqIntS.f k l0_25 l1_25).bind fun t121 => (if t121 = true then (some true) else (some false))) else (some false))) else (some false))) else (some false)) else (some false)) else (some false)
theorem laws_eqSynSeeker.mono : ∀ a0 a1 a2 a3 a4 a5 a6 a7 a8 a9 a10 a11 a12 a13 a14 a15 a16 a17 a18 a19 a20 a21 a22 a23 a24 a25 a26 a27 a28 a29 a30 a31 a32 a33 a34 a35 a36 a37 a38 a39 a40 a41 a42 a43 a44 a45 a46 a47 a48 a49 a50 a51 k, LeO (laws_eqSynSeeker.f k a0 a1 a2 a3 a4 a5 a6 a7 a8 a9 a10 a11 a12 a13 a14 a15 a16 a17 a18 a19 a20 a21 a22 a23 a24 a25 a26 a27 a28 a29 a30 a31 a32 a33 a34 a35 a36 a37 a38 a39 a40 a41 a42 a43 a44 a45 a46 a47 a48 a49 a50 a51) (laws_eqSynSeeker.f (k + 1) a0 a1 a2 a3 a4 a5 a6 a7 a8 a9 a10 a11 a12 a13 a14 a15 a16 a17 a18 a19 a20 a21 a22 a23 a24 a25 a26 a27 a28 a29 a30 a31 a32 a33 a34 a35 a36 a37 a38 a39 a40 a41 a42 a43 a44 a45 a46 a47 a48 a49 a50 a51) := by
 intro a0 a1 a2 a3 a4 a5 a6 a7 a8 a9 a10 a11 a12 a13 a14 a15 a16 a17 a18 a19 a20 a21 a22 a23 a24 a25 a26 a27 a28 a29 a30 a31 a32 a33 a34 a35 a36 a37 a38 a39 a40 a41 a42 a43 a44 a45 a46 a47 a48 a49 a50 a51 k
 unfold laws_eqSynSeeker.f
 repeat' first
   | (with_reducible first|apply laws_eqIntS.mono|exact LeO.refl _|exact LeO.none _|refine LeO.ite ?_ ?_|refine LeO.bind ?_ (fun _=>?_))|exact LeO.none _|refine LeO.ite ?_ ?_|refine LeO.bind ?_ (fun _=>?_)
set_option maxHeartbeats 8000000 in
set_option maxRecDepth 100000 in
theorem laws_eqSynSeeker.calls {k : Nat} {a0_0 a0_1 a0_2 a0_3 a0_4 a0_5 a0_6 a0_7 a0_8 a0_9 a0_10 a0_11 a0_12 a0_13 a0_14 a0_15 a0_16 a0_17 a0_18 a0_19 a0_20 a0_21 a0_22 a0_23 a0_24 : Int} {A0_25 : Option Addr} {c0_25 : Nat} {l0_25 : List Int} {a1_0 a1_1 a1_2 a1_3 a1_4 a1_5 a1_6 a1_7 a1_8 a1_9 a1_10 a1_11 a1_12 a1_13 a1_14 a1_15 a1_16 a1_17 a1_18 a1_19 a1_20 a1_21 a1_22 a1_23 a1_24 : Int} {A1_25 : Option Addr} {c1_25 : Nat} {l1_25 : List Int} {r : Bool} {w : World} (hr0_25 : Kd.C (Kd.int .i64) w A0_25 l0_25.length l0_25) (hc0_25 : l0_25.length ≤ c0_25) (hr1_25 : Kd.C (Kd.int .i64) w A1_25 l1_25.length l1_25) (hc1_25 : l1_25.length ≤ c1_25) (h : laws_eqSynSeeker.f k a0_0 a0_1 a0_2 a0_3 a0_4 a0_5 a0_6 a0_7 a0_8 a0_9 a0_10 a0_11 a0_12 a0_13 a0_14 a0_15 a0_16 a0_17 a0_18 a0_19 a0_20 a0_21 a0_22 a0_23 a0_24 l0_25 a1_0 a1_1 a1_2 a1_3 a1_4 a1_5 a1_6 a1_7 a1_8 a1_9 a1_10 a1_11 a1_12 a1_13 a1_14 a1_15 a1_16 a1_17 a1_18 a1_19 a1_20 a1_21 a1_22 a1_23 a1_24 l1_25 = some r) :
  Calls Try.prog 87 #[.agg #[.int .i64 a0_0,.int .i64 a0_1,.int .i64 a0_2,.int .i64 a0_3,.int .i64 a0_4,.int .i64 a0_5,.int .i64 a0_6,.int .i64 a0_7,.int .i64 a0_8,.int .i64 a0_9,.int .i64 a0_10,.int .i64 a0_11,.int .i64 a0_12,.int .i64 a0_13,.int .i64 a0_14,.int .i64 a0_15,.int .i64 a0_16,.int .i64 a0_17,.int .i64 a0_18,.int .i64 a0_19,.int .i64 a0_20,.int .i64 a0_21,.int .i64 a0_22,.int .i64 a0_23,.int .i64 a0_24,.slice A0_25 l0_25.length c0_25],.agg #[.int .i64 a1_0,.int .i64 a1_1,.int .i64 a1_2,.int .i64 a1_3,.int .i64 a1_4,.int .i64 a1_5,.int .i64 a1_6,.int .i64 a1_7,.int .i64 a1_8,.int .i64 a1_9,.int .i64 a1_10,.int .i64 a1_11,.int .i64 a1_12,.int .i64 a1_13,.int .i64 a1_14,.int .i64 a1_15,.int .i64 a1_16,.int .i64 a1_17,.int .i64 a1_18,.int .i64 a1_19,.int .i64 a1_20,.int .i64 a1_21,.int .i64 a1_22,.int .i64 a1_23,.int .i64 a1_24,.slice A1_25 l1_25.length c1_25]] w fun e w'=>e=.returned (.bool r)∧Below w.heap.size w w':=by
 have hu88:=Try.underlying88;have hu44:=Try.underlying44;have hu53:=Try.underlying53;have HR0_25:=mA hr0_25;have HC0_25:=mA hc0_25;clear hr0_25 hc0_25;have HR1_25:=mA hr1_25;have HC1_25:=mA hc1_25;clear hr1_25 hc1_25;have HB:=mA (Below.refl w.heap.size w);have H:(if a0_0=a1_0 then (if a0_1=a1_1 then (if a0_2=a1_2 then ((laws_eqCmd.f a0_3 a0_4 a0_5 a0_6 a0_7 a0_8 a0_9 a0_10 a0_11 a0_12 a1_3 a1_4 a1_5 a1_6 a1_7 a1_8 a1_9 a1_10 a1_11 a1_12).bind fun t119=>(if t119=true then ((laws_eqSynPaper.f a0_13 a0_14 a0_15 a0_16 a0_17 a0_18 a0_19 a0_20 a0_21 a0_22 a0_23 a0_24 a1_13 a1_14 a1_15 a1_16 a1_17 a1_18 a1_19 a1_20 a1_21 a1_22 a1_23 a1_24).bind fun t120=>(if t120=true then ((laws_eqIntS.f k l0_25 l1_25).bind fun t121=>(if t121=true then (some true) else (some false))) else (some false))) else (some false))) else (some false)) else (some false)) else (some false))=some r:=h;clear h
 by_cases c3:a0_0=a1_0
 ·rw [if_pos c3] at H;obtain ⟨c3b0,c3b1⟩:=eqB c3;clear c3
  by_cases c4:a0_1=a1_1
  ·rw [if_pos c4] at H;obtain ⟨c4b0,c4b1⟩:=eqB c4;clear c4
   by_cases c5:a0_2=a1_2
   ·rw [if_pos c5] at H;obtain ⟨c5b0,c5b1⟩:=eqB c5;clear c5;obtain ⟨t119,A6,H⟩:=bI H;(try dsimp only at H)
    by_cases c7:t119=true
    ·subst c7;rw [if_pos rfl] at H;obtain ⟨t120,A8,H⟩:=bI H;(try dsimp only at H)
     by_cases c9:t120=true
     ·subst c9;rw [if_pos rfl] at H;obtain ⟨t121,A10,H⟩:=bI H;(try dsimp only at H)
      by_cases c11:t121=true
      ·subst c11;rw [if_pos rfl] at H;obtain rfl:=Option.some.inj H
       go_enter Try.func87,Try.ntmps87
       go_wp2_with (first|((with_reducible refine gLg rfl (by assumption) ?_);refine ldV ?_)|((with_reducible refine gSt rfl (by assumption) ?_);refine stV ?_)|((with_reducible refine gT 2 rfl ?_);refine bX 2 ?_;intro gb117 hg w12 hbox hb;have BK117:=mA hbox;have GW117:=gbpB HB hg;have GE117:=gbpB HB hg;replace HB:=spB HB hb;clear hb hbox hg)|((with_reducible refine gT 3 rfl ?_);refine bX 3 ?_;intro gb118 hg w13 hbox hb;have BK118:=mA hbox;have GW118:=gbpS HB hg;have GE118:=gbpS HB hg;replace HB:=spS HB hb;have NB117_118:=mA (lN (blk_lt (pK BK117.out)) hg);have hN117_118:=NB117_118.out;have NB118_117:=nS NB117_118;have hN118_117:=NB118_117.out;replace BK117:=bK BK117 hb;clear hb hbox hg;have hcz15_0:=fun i_=>blk_cell BK117.out i_;have hfz15_0:=fun i_=>blk_frozen BK117.out i_;have hcz16_0:=fun i_=>blk_cell BK118.out i_;have hfz16_0:=fun i_=>blk_frozen BK118.out i_)|((with_reducible refine gT 24 rfl ?_);refine gC (some 24) Try.func21 (laws_eqCmd.calls A6.out) ?_;rintro e w17 ⟨rfl,hb⟩;refine ⟨_,rfl,?_⟩;replace BK117:=bK BK117 hb;replace BK118:=bK BK118 hb;replace HB:=spS HB hb;(try clear hb);have hcz18_0:=fun i_=>blk_cell BK117.out i_;have hfz18_0:=fun i_=>blk_frozen BK117.out i_;have hcz19_0:=fun i_=>blk_cell BK118.out i_;have hfz19_0:=fun i_=>blk_frozen BK118.out i_)|((with_reducible refine gT 30 rfl ?_);refine gC (some 30) Try.func89 (laws_eqSynPaper.calls A8.out) ?_;rintro e w20 ⟨rfl,hb⟩;refine ⟨_,rfl,?_⟩;replace BK117:=bK BK117 hb;replace BK118:=bK BK118 hb;replace HB:=spS HB hb;(try clear hb);have hcz21_0:=fun i_=>blk_cell BK117.out i_;have hfz21_0:=fun i_=>blk_frozen BK117.out i_;have hcz22_0:=fun i_=>blk_cell BK118.out i_;have hfz22_0:=fun i_=>blk_frozen BK118.out i_)|((with_reducible refine gT 36 rfl ?_);refine gC (some 36) Try.func35 (laws_eqIntS.calls (cB HR0_25 HB) HC0_25.out (cB HR1_25 HB) HC1_25.out A10.out) ?_;rintro e w' ⟨rfl,⟨nd,rfl⟩⟩;refine ⟨_,rfl,?_⟩))
       go_ret
       exact rZ (pS HB.out)
      ·replace c11:=Bool.eq_false_iff.mpr c11;subst c11
       rw [if_neg nFT] at H
       obtain rfl:=Option.some.inj H
       go_enter Try.func87,Try.ntmps87
       go_wp2_with (first|((with_reducible refine gLg rfl (by assumption) ?_);refine ldV ?_)|((with_reducible refine gSt rfl (by assumption) ?_);refine stV ?_)|((with_reducible refine gT 2 rfl ?_);refine bX 2 ?_;intro gb117 hg w23 hbox hb;have BK117:=mA hbox;have GW117:=gbpB HB hg;have GE117:=gbpB HB hg;replace HB:=spB HB hb;clear hb hbox hg)|((with_reducible refine gT 3 rfl ?_);refine bX 3 ?_;intro gb118 hg w24 hbox hb;have BK118:=mA hbox;have GW118:=gbpS HB hg;have GE118:=gbpS HB hg;replace HB:=spS HB hb;have NB117_118:=mA (lN (blk_lt (pK BK117.out)) hg);have hN117_118:=NB117_118.out;have NB118_117:=nS NB117_118;have hN118_117:=NB118_117.out;replace BK117:=bK BK117 hb;clear hb hbox hg;have hcz26_0:=fun i_=>blk_cell BK117.out i_;have hfz26_0:=fun i_=>blk_frozen BK117.out i_;have hcz27_0:=fun i_=>blk_cell BK118.out i_;have hfz27_0:=fun i_=>blk_frozen BK118.out i_)|((with_reducible refine gT 24 rfl ?_);refine gC (some 24) Try.func21 (laws_eqCmd.calls A6.out) ?_;rintro e w28 ⟨rfl,hb⟩;refine ⟨_,rfl,?_⟩;replace BK117:=bK BK117 hb;replace BK118:=bK BK118 hb;replace HB:=spS HB hb;(try clear hb);have hcz29_0:=fun i_=>blk_cell BK117.out i_;have hfz29_0:=fun i_=>blk_frozen BK117.out i_;have hcz30_0:=fun i_=>blk_cell BK118.out i_;have hfz30_0:=fun i_=>blk_frozen BK118.out i_)|((with_reducible refine gT 30 rfl ?_);refine gC (some 30) Try.func89 (laws_eqSynPaper.calls A8.out) ?_;rintro e w31 ⟨rfl,hb⟩;refine ⟨_,rfl,?_⟩;replace BK117:=bK BK117 hb;replace BK118:=bK BK118 hb;replace HB:=spS HB hb;(try clear hb);have hcz32_0:=fun i_=>blk_cell BK117.out i_;have hfz32_0:=fun i_=>blk_frozen BK117.out i_;have hcz33_0:=fun i_=>blk_cell BK118.out i_;have hfz33_0:=fun i_=>blk_frozen BK118.out i_)|((with_reducible refine gT 36 rfl ?_);refine gC (some 36) Try.func35 (laws_eqIntS.calls (cB HR0_25 HB) HC0_25.out (cB HR1_25 HB) HC1_25.out A10.out) ?_;rintro e w' ⟨rfl,⟨nd,rfl⟩⟩;refine ⟨_,rfl,?_⟩))
       go_ret
       exact rZ (pS HB.out)
     ·replace c9:=Bool.eq_false_iff.mpr c9;subst c9
      rw [if_neg nFT] at H
      obtain rfl:=Option.some.inj H
      go_enter Try.func87,Try.ntmps87
      go_wp2_with (first|((with_reducible refine gLg rfl (by assumption) ?_);refine ldV ?_)|((with_reducible refine gSt rfl (by assumption) ?_);refine stV ?_)|((with_reducible refine gT 2 rfl ?_);refine bX 2 ?_;intro gb117 hg w34 hbox hb;have BK117:=mA hbox;have GW117:=gbpB HB hg;have GE117:=gbpB HB hg;replace HB:=spB HB hb;clear hb hbox hg)|((with_reducible refine gT 3 rfl ?_);refine bX 3 ?_;intro gb118 hg w35 hbox hb;have BK118:=mA hbox;have GW118:=gbpS HB hg;have GE118:=gbpS HB hg;replace HB:=spS HB hb;have NB117_118:=mA (lN (blk_lt (pK BK117.out)) hg);have hN117_118:=NB117_118.out;have NB118_117:=nS NB117_118;have hN118_117:=NB118_117.out;replace BK117:=bK BK117 hb;clear hb hbox hg;have hcz37_0:=fun i_=>blk_cell BK117.out i_;have hfz37_0:=fun i_=>blk_frozen BK117.out i_;have hcz38_0:=fun i_=>blk_cell BK118.out i_;have hfz38_0:=fun i_=>blk_frozen BK118.out i_)|((with_reducible refine gT 24 rfl ?_);refine gC (some 24) Try.func21 (laws_eqCmd.calls A6.out) ?_;rintro e w39 ⟨rfl,hb⟩;refine ⟨_,rfl,?_⟩;replace BK117:=bK BK117 hb;replace BK118:=bK BK118 hb;replace HB:=spS HB hb;(try clear hb);have hcz40_0:=fun i_=>blk_cell BK117.out i_;have hfz40_0:=fun i_=>blk_frozen BK117.out i_;have hcz41_0:=fun i_=>blk_cell BK118.out i_;have hfz41_0:=fun i_=>blk_frozen BK118.out i_)|((with_reducible refine gT 30 rfl ?_);refine gC (some 30) Try.func89 (laws_eqSynPaper.calls A8.out) ?_;rintro e w42 ⟨rfl,hb⟩;refine ⟨_,rfl,?_⟩;replace BK117:=bK BK117 hb;replace BK118:=bK BK118 hb;replace HB:=spS HB hb;(try clear hb)))
      go_ret
      exact rZ (pS HB.out)
    ·replace c7:=Bool.eq_false_iff.mpr c7;subst c7
     rw [if_neg nFT] at H
     obtain rfl:=Option.some.inj H
     go_enter Try.func87,Try.ntmps87
     go_wp2_with (first|((with_reducible refine gLg rfl (by assumption) ?_);refine ldV ?_)|((with_reducible refine gSt rfl (by assumption) ?_);refine stV ?_)|((with_reducible refine gT 2 rfl ?_);refine bX 2 ?_;intro gb117 hg w43 hbox hb;have BK117:=mA hbox;have GW117:=gbpB HB hg;have GE117:=gbpB HB hg;replace HB:=spB HB hb;clear hb hbox hg)|((with_reducible refine gT 3 rfl ?_);refine bX 3 ?_;intro gb118 hg w44 hbox hb;have BK118:=mA hbox;have GW118:=gbpS HB hg;have GE118:=gbpS HB hg;replace HB:=spS HB hb;have NB117_118:=mA (lN (blk_lt (pK BK117.out)) hg);have hN117_118:=NB117_118.out;have NB118_117:=nS NB117_118;have hN118_117:=NB118_117.out;replace BK117:=bK BK117 hb;clear hb hbox hg;have hcz46_0:=fun i_=>blk_cell BK117.out i_;have hfz46_0:=fun i_=>blk_frozen BK117.out i_;have hcz47_0:=fun i_=>blk_cell BK118.out i_;have hfz47_0:=fun i_=>blk_frozen BK118.out i_)|((with_reducible refine gT 24 rfl ?_);refine gC (some 24) Try.func21 (laws_eqCmd.calls A6.out) ?_;rintro e w48 ⟨rfl,hb⟩;refine ⟨_,rfl,?_⟩;replace BK117:=bK BK117 hb;replace BK118:=bK BK118 hb;replace HB:=spS HB hb;(try clear hb)))
     go_ret
     exact rZ (pS HB.out)
   ·rw [if_neg c5] at H;have c5b0:(a0_2 == a1_2)=false:=beq_eq_false_iff_ne.mpr c5;have c5b1:(a0_2 != a1_2)=true:=bne_iff_ne.mpr c5;obtain rfl:=Option.some.inj H
    go_enter Try.func87,Try.ntmps87
    go_wp2_with (first|((with_reducible refine gLg rfl (by assumption) ?_);refine ldV ?_)|((with_reducible refine gSt rfl (by assumption) ?_);refine stV ?_)|((with_reducible refine gT 2 rfl ?_);refine bX 2 ?_;intro gb117 hg w49 hbox hb;have BK117:=mA hbox;have GW117:=gbpB HB hg;have GE117:=gbpB HB hg;replace HB:=spB HB hb;clear hb hbox hg)|((with_reducible refine gT 3 rfl ?_);refine bX 3 ?_;intro gb118 hg w50 hbox hb;have BK118:=mA hbox;have GW118:=gbpS HB hg;have GE118:=gbpS HB hg;replace HB:=spS HB hb;have NB117_118:=mA (lN (blk_lt (pK BK117.out)) hg);have hN117_118:=NB117_118.out;have NB118_117:=nS NB117_118;have hN118_117:=NB118_117.out;replace BK117:=bK BK117 hb;clear hb hbox hg;have hcz52_0:=fun i_=>blk_cell BK117.out i_;have hfz52_0:=fun i_=>blk_frozen BK117.out i_;have hcz53_0:=fun i_=>blk_cell BK118.out i_;have hfz53_0:=fun i_=>blk_frozen BK118.out i_))
    go_ret
    exact rZ (pS HB.out)
  ·rw [if_neg c4] at H;have c4b0:(a0_1 == a1_1)=false:=beq_eq_false_iff_ne.mpr c4;have c4b1:(a0_1 != a1_1)=true:=bne_iff_ne.mpr c4;obtain rfl:=Option.some.inj H
   go_enter Try.func87,Try.ntmps87
   go_wp2_with (first|((with_reducible refine gLg rfl (by assumption) ?_);refine ldV ?_)|((with_reducible refine gSt rfl (by assumption) ?_);refine stV ?_)|((with_reducible refine gT 2 rfl ?_);refine bX 2 ?_;intro gb117 hg w54 hbox hb;have BK117:=mA hbox;have GW117:=gbpB HB hg;have GE117:=gbpB HB hg;replace HB:=spB HB hb;clear hb hbox hg)|((with_reducible refine gT 3 rfl ?_);refine bX 3 ?_;intro gb118 hg w55 hbox hb;have BK118:=mA hbox;have GW118:=gbpS HB hg;have GE118:=gbpS HB hg;replace HB:=spS HB hb;have NB117_118:=mA (lN (blk_lt (pK BK117.out)) hg);have hN117_118:=NB117_118.out;have NB118_117:=nS NB117_118;have hN118_117:=NB118_117.out;replace BK117:=bK BK117 hb;clear hb hbox hg;have hcz57_0:=fun i_=>blk_cell BK117.out i_;have hfz57_0:=fun i_=>blk_frozen BK117.out i_;have hcz58_0:=fun i_=>blk_cell BK118.out i_;have hfz58_0:=fun i_=>blk_frozen BK118.out i_))
   go_ret
   exact rZ (pS HB.out)
 ·rw [if_neg c3] at H;have c3b0:(a0_0 == a1_0)=false:=beq_eq_false_iff_ne.mpr c3;have c3b1:(a0_0 != a1_0)=true:=bne_iff_ne.mpr c3;obtain rfl:=Option.some.inj H
  go_enter Try.func87,Try.ntmps87
  go_wp2_with (first|((with_reducible refine gLg rfl (by assumption) ?_);refine ldV ?_)|((with_reducible refine gSt rfl (by assumption) ?_);refine stV ?_)|((with_reducible refine gT 2 rfl ?_);refine bX 2 ?_;intro gb117 hg w59 hbox hb;have BK117:=mA hbox;have GW117:=gbpB HB hg;have GE117:=gbpB HB hg;replace HB:=spB HB hb;clear hb hbox hg)|((with_reducible refine gT 3 rfl ?_);refine bX 3 ?_;intro gb118 hg w60 hbox hb;have BK118:=mA hbox;have GW118:=gbpS HB hg;have GE118:=gbpS HB hg;replace HB:=spS HB hb;have NB117_118:=mA (lN (blk_lt (pK BK117.out)) hg);have hN117_118:=NB117_118.out;have NB118_117:=nS NB117_118;have hN118_117:=NB118_117.out;replace BK117:=bK BK117 hb;clear hb hbox hg;have hcz62_0:=fun i_=>blk_cell BK117.out i_;have hfz62_0:=fun i_=>blk_frozen BK117.out i_;have hcz63_0:=fun i_=>blk_cell BK118.out i_;have hfz63_0:=fun i_=>blk_frozen BK118.out i_))
  go_ret
  exact rZ (pS HB.out)

/-! ### laws_eqSynSeekerS: function 36 -/
def laws_eqSynSeekerS.l0 : Nat → List (S88) → List (S88) → Int → Option (Bool)
 | 0,_,_,_=>none
 | k+1,x0,x1,x5=>if x5<(x0.length:Int) then (if 0≤x5 then (if x5<(x1.length:Int) then ((laws_eqSynSeeker.f k ((rd_T88 x0 x5).f0) ((rd_T88 x0 x5).f1) ((rd_T88 x0 x5).f2) ((rd_T88 x0 x5).f3.f0) ((rd_T88 x0 x5).f3.f1) ((rd_T88 x0 x5).f3.f2) ((rd_T88 x0 x5).f3.f3) ((rd_T88 x0 x5).f3.f4) ((rd_T88 x0 x5).f3.f5) ((rd_T88 x0 x5).f3.f6) ((rd_T88 x0 x5).f3.f7) ((rd_T88 x0 x5).f3.f8) ((rd_T88 x0 x5).f3.f9) ((rd_T88 x0 x5).f4.f0) ((rd_T88 x0 x5).f4.f1) ((rd_T88 x0 x5).f4.f2.f0) ((rd_T88 x0 x5).f4.f2.f1) ((rd_T88 x0 x5).f4.f2.f2) ((rd_T88 x0 x5).f4.f2.f3) ((rd_T88 x0 x5).f4.f2.f4) ((rd_T88 x0 x5).f4.f2.f5) ((rd_T88 x0 x5).f4.f2.f6) ((rd_T88 x0 x5).f4.f2.f7) ((rd_T88 x0 x5).f4.f2.f8) ((rd_T88 x0 x5).f4.f2.f9) ((rd_T88 x0 x5).f5) ((rd_T88 x1 x5).f0) ((rd_T88 x1 x5).f1) ((rd_T88 x1 x5).f2) ((rd_T88 x1 x5).f3.f0) ((rd_T88 x1 x5).f3.f1) ((rd_T88 x1 x5).f3.f2) ((rd_T88 x1 x5).f3.f3) ((rd_T88 x1 x5).f3.f4) ((rd_T88 x1 x5).f3.f5) ((rd_T88 x1 x5).f3.f6) ((rd_T88 x1 x5).f3.f7) ((rd_T88 x1 x5).f3.f8) ((rd_T88 x1 x5).f3.f9) ((rd_T88 x1 x5).f4.f0) ((rd_T88 x1 x5).f4.f1) ((rd_T88 x1 x5).f4.f2.f0) ((rd_T88 x1 x5).f4.f2.f1) ((rd_T88 x1 x5).f4.f2.f2) ((rd_T88 x1 x5).f4.f2.f3) ((rd_T88 x1 x5).f4.f2.f4) ((rd_T88 x1 x5).f4.f2.f5) ((rd_T88 x1 x5).f4.f2.f6) ((rd_T88 x1 x5).f4.f2.f7) ((rd_T88 x1 x5).f4.f2.f8) ((rd_T88 x1 x5).f4.f2.f9) ((rd_T88 x1 x5).f5)).bind fun t124=>(if t124=true then (laws_eqSynSeekerS.l0 k x0 x1 (wrap64 (x5+1))) else (some false))) else (none)) else (none)) else (some true)
def laws_eqSynSeekerS.f (k : Nat) (l0 : List (S88)) (l1 : List (S88)) : Option (Bool) := if (l0.length : Int) = (l1.length : Int) then (laws_eqSynSeekerS.l0 k l0 l1 0) else (some false)
theorem laws_eqSynSeekerS.mono_l : ∀ k, (∀ y0 y1 y2, LeO (laws_eqSynSeekerS.l0 k y0 y1 y2) (laws_eqSynSeekerS.l0 (k + 1) y0 y1 y2))
 | 0=>fun _ _ _ r h=>by simp [laws_eqSynSeekerS.l0] at h
 | k+1=>by
  have ih0:=laws_eqSynSeekerS.mono_l k
  ·intros
   unfold laws_eqSynSeekerS.l0
   repeat' first
   | (with_reducible first|apply ih0|apply laws_eqSynSeeker.mono|exact LeO.refl _|exact LeO.none _|refine LeO.ite ?_ ?_|refine LeO.bind ?_ (fun _=>?_))|exact LeO.none _|refine LeO.ite ?_ ?_|refine LeO.bind ?_ (fun _=>?_)
theorem laws_eqSynSeekerS.mono : ∀ a0 a1 k, LeO (laws_eqSynSeekerS.f k a0 a1) (laws_eqSynSeekerS.f (k + 1) a0 a1) := by
 intro a0 a1 k;have ih0:=laws_eqSynSeekerS.mono_l k
 unfold laws_eqSynSeekerS.f
 repeat' first
   | (with_reducible first|apply ih0|apply laws_eqSynSeeker.mono|exact LeO.refl _|exact LeO.none _|refine LeO.ite ?_ ?_|refine LeO.bind ?_ (fun _=>?_))|exact LeO.none _|refine LeO.ite ?_ ?_|refine LeO.bind ?_ (fun _=>?_)
def laws_eqSynSeekerS.T6 : Bool × List (List Nat × List Nat) := (true, [([], []), ([], []), ([0, 1], [0, 1]), ([2], [2]), ([], []), ([], []), ([4, 5], [4, 5]), ([6], [6]), ([3, 7], [3, 7]), ([8], [8])])
def laws_eqSynSeekerS.B6 : List Nat := [0, 0, 3, 7, 0, 0, 48, 112, 255, 511]
theorem laws_eqSynSeekerS.tab6 : rtab .any (opsOf Try.f36 6) = laws_eqSynSeekerS.T6 := by kernel_rfl
theorem laws_eqSynSeekerS.bits6 : waitsOk laws_eqSynSeekerS.T6.2 laws_eqSynSeekerS.B6 = true := by kernel_rfl
set_option maxHeartbeats 8000000 in
set_option maxRecDepth 100000 in
theorem laws_eqSynSeekerS.calls {k : Nat} {A0 : Option Addr} {c0 : Nat} {l0 : List (S88)} {A1 : Option Addr} {c1 : Nat} {l1 : List (S88)} {r : Bool} {w : World} (hr0 : Kd.C k88 w A0 l0.length l0) (hc0 : l0.length ≤ c0) (hr1 : Kd.C k88 w A1 l1.length l1) (hc1 : l1.length ≤ c1) (h : laws_eqSynSeekerS.f k l0 l1 = some r) :
  Calls Try.prog 36 #[.slice A0 l0.length c0,.slice A1 l1.length c1] w fun e w'=>e=.returned (.bool r)∧Below w.heap.size w w':=by
 have hu88:=Try.underlying88;have HR0:=mA hr0;have HC0:=mA hc0;clear hr0 hc0;have HR1:=mA hr1;have HC1:=mA hc1;clear hr1 hc1;have HB:=mA (Below.refl w.heap.size w);have H:(if (l0.length:Int)=(l1.length:Int) then (laws_eqSynSeekerS.l0 k l0 l1 0) else (some false))=some r:=h;clear h
 by_cases c3:(l0.length:Int)=(l1.length:Int)
 ·rw [if_pos c3] at H;have c3b0:((l0.length:Int) == (l1.length:Int))=true:=beq_iff_eq.mpr c3;have c3b1:((l0.length:Int) != (l1.length:Int))=false:=bne_eq_false_iff_eq.mpr c3
  have c3b2:(l0.length == l1.length)=true:=by first|simpa using c3|(simp at c3 ⊢;omega)
  clear c3;have H':=mA H;clear H
  go_enter Try.func36,Try.ntmps36
  go_wp2
  go_loopg [5] k (fun kq v5 w'=>∃ (x5_1:Int),v5=.int .i64 x5_1∧Aside0 (laws_eqSynSeekerS.l0 kq l0 l1 x5_1=some r)∧Aside0 (kq≤k)∧Aside0 (Below w.heap.size w w'))
  case atStart=>exact ⟨(0),bZ,H',⟨Nat.le_refl _⟩,⟨pB HB.out⟩⟩
  case round =>
   clear H'
   (try clear c3);(try clear c3b0);(try clear c3b1);(try clear c3b2)
   obtain ⟨x5_1,rfl,HA,HK1,HB⟩:=hrel
   cases gk with
   | zero=>exact absurd HA.out (by simp [laws_eqSynSeekerS.l0])
   | succ k1 =>
    have H:=HA.out;clear HA;simp only [laws_eqSynSeekerS.l0] at H
    by_cases c4:x5_1<(l0.length:Int)
    ·rw [if_pos c4] at H;have c4b0:decide (x5_1<(l0.length:Int))=true:=decide_eq_true c4;clear c4
     by_cases c5:0≤x5_1
     ·rw [if_pos c5] at H;have c5b0:decide (0≤x5_1)=true:=decide_eq_true c5;clear c5
      by_cases c6:x5_1<(l1.length:Int)
      ·rw [if_pos c6] at H;have c6b0:decide (x5_1<(l1.length:Int))=true:=decide_eq_true c6;clear c6;obtain ⟨t124,A7,H⟩:=bI H;(try dsimp only at H)
       have H0_:=mA H;clear H
       try go_wp2
       replace HB:=mA (below_drew1 HB.out);have p122:0≤(x5_1:Int):=of_decide_eq_true bA;have q122:x5_1<(l0.length:Int):=of_decide_eq_true bA;obtain ⟨ad122,A122_25,c122_25,e122,hs122,hl122_25,hi122_25⟩:=at_R88 HR0.out x5_1 p122 q122;cases e122;have HR122_25:=mA hi122_25;have HC122_25:=mA hl122_25;clear hi122_25 hl122_25;replace p122:=eq_true p122;replace q122:=eq_true q122;have p123:0≤(x5_1:Int):=of_decide_eq_true bA;have q123:x5_1<(l1.length:Int):=of_decide_eq_true bA;obtain ⟨ad123,A123_25,c123_25,e123,hs123,hl123_25,hi123_25⟩:=at_R88 HR1.out x5_1 p123 q123;cases e123;have HR123_25:=mA hi123_25;have HC123_25:=mA hl123_25;clear hi123_25 hl123_25;replace p123:=eq_true p123;replace q123:=eq_true q123
       refine start_ (n:=10) (S:=fun w'=>RS w' (ad122.add ((x5_1).toNat * 26)) (d88 (rd_T88 l0 x5_1) (.slice A122_25 ((rd_T88 l0 x5_1).f5).length c122_25))∧RS w' (ad123.add ((x5_1).toNat * 26)) (d88 (rd_T88 l1 x5_1) (.slice A123_25 ((rd_T88 l1 x5_1).f5).length c123_25))) (ds:=[]) _ aK rfl rfl ⟨rS HB hs122,rS HB hs123⟩ (fun hHeld=>?_);refine with_tabW laws_eqSynSeekerS.tab6 laws_eqSynSeekerS.bits6 (fun HT_ HW_=>?_)
       generalize wr.drew=w9 at HB HR122_25 HR123_25 hHeld ⊢
       refine qu 0 ?_;refine qu 1 ?_;refine qu 2 ?_;refine qu 4 ?_;refine qu 5 ?_;refine qu 6 ?_;refine qt 3 ?_;refine qt 7 ?_
       refine qo 8 ?_;intro K hK
       refine gD Try.func87 (laws_eqSynSeeker.calls (cB HR122_25 HB) HC122_25.out (cB HR123_25 HB) HC123_25.out A7.out) ?_
       rintro e w10 ⟨rfl,hb⟩;refine ⟨_,rfl,?_⟩;replace HB:=spB HB hb
       (try clear hb)
       refine hK.out _ _ ⟨rS HB hs122,rS HB hs123⟩ (fun hHeld=>?_);clear hK K;refine no_ (some 25) ?_;refine qu 9 ?_;refine qe ?_
       have H:=H0_.out;clear H0_
       by_cases c8:t124=true
       ·subst c8;rw [if_pos rfl] at H;have H':=mA H;clear H
        try go_wp2
        go_roundg k1
        case measure=>have:=HK1.out;omega
        case rel=>exact ⟨(wrap64 (x5_1+1)),bZ,H',⟨by have:=HK1.out;omega⟩,⟨pB HB.out⟩⟩
       ·replace c8:=Bool.eq_false_iff.mpr c8;subst c8
        rw [if_neg nFT] at H
        obtain rfl:=Option.some.inj H
        try go_wp2
        go_ret
        exact rZ (pB HB.out)
      ·rw [if_neg c6] at H
       exact absurd H (by simp)
     ·rw [if_neg c5] at H
      exact absurd H (by simp)
    ·rw [if_neg c4] at H;have c4b0:decide (x5_1<(l0.length:Int))=false:=decide_eq_false c4;clear c4;obtain rfl:=Option.some.inj H
     go_wp2
     go_ret
     exact rZ (pB HB.out)
 ·rw [if_neg c3] at H;have c3b0:((l0.length:Int) == (l1.length:Int))=false:=beq_eq_false_iff_ne.mpr c3;have c3b1:((l0.length:Int) != (l1.length:Int))=true:=bne_iff_ne.mpr c3
  have c3b2:(l0.length == l1.length)=false:=by first|simpa using c3|(simp at c3 ⊢;omega)
  obtain rfl:=Option.some.inj H
  go_enter Try.func36,Try.ntmps36
  go_wp2
  go_ret
  exact rZ (pB HB.out)

end Go.Proofs.Ytncohokalilnbaa.P
