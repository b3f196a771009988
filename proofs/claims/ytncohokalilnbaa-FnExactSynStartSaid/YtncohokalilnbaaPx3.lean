-- printed by pprint.py (this session's program over the kit's printer) out of the translation. Lean checks it.
import Derived.Test.YtncohokalilnbaaPx0
namespace Go.Proofs.Ytncohokalilnbaa.P
open Go.RowKit Go.Proofs.YtncohokalilnbaaX Go.Proofs.YtncohokalilnbaaW.PrintWords Go.Proofs.YtncohokalilnbaaW.PrintLast Go.Proofs.YtncohokalilnbaaW.PrintMore
attribute [local go_sem] max2_int min2_int max_two min_two max_three min_three max_four min_four   -- for this text's walks alone
set_option linter.unusedVariables false
set_option linter.unusedSimpArgs false

/-! ### laws_eqCmd: function 21 -/
def laws_eqCmd.f (a0_0 a0_1 a0_2 a0_3 a0_4 a0_5 a0_6 a0_7 a0_8 a0_9 a1_0 a1_1 a1_2 a1_3 a1_4 a1_5 a1_6 a1_7 a1_8 a1_9 : Int) : Option (Bool) := if a0_0 = a1_0 then (if a0_1 = a1_1 then (if a0_2 = a1_2 then (if a0_3 = a1_3 then (if a0_4 = a1_4 then (if a0_5 = a1_5 then (if a0_6 = a1_6 then (if a0_7 = a1_7 then (if a0_8 = a1_8 then (if a0_9 = a1_9 then (some true) else (some false)) else (some false)) else (some false)) else (some false)) else (some false)) else (some false)) else (some false)) else (some false)) else (some false)) else (some false)
set_option maxHeartbeats 8000000 in
set_option maxRecDepth 100000 in
theorem laws_eqCmd.calls {a0_0 a0_1 a0_2 a0_3 a0_4 a0_5 a0_6 a0_7 a0_8 a0_9 a1_0 a1_1 a1_2 a1_3 a1_4 a1_5 a1_6 a1_7 a1_8 a1_9 : Int} {r : Bool} {w : World} (h : laws_eqCmd.f a0_0 a0_1 a0_2 a0_3 a0_4 a0_5 a0_6 a0_7 a0_8 a0_9 a1_0 a1_1 a1_2 a1_3 a1_4 a1_5 a1_6 a1_7 a1_8 a1_9 = some r) :
  Calls Try.prog 21 #[.agg #[.int .i64 a0_0,.int .i64 a0_1,.int .i64 a0_2,.int .i64 a0_3,.int .i64 a0_4,.int .i64 a0_5,.int .i64 a0_6,.int .i64 a0_7,.int .i64 a0_8,.int .i64 a0_9],.agg #[.int .i64 a1_0,.int .i64 a1_1,.int .i64 a1_2,.int .i64 a1_3,.int .i64 a1_4,.int .i64 a1_5,.int .i64 a1_6,.int .i64 a1_7,.int .i64 a1_8,.int .i64 a1_9]] w fun e w'=>e=.returned (.bool r)∧Below w.heap.size w w':=by
 have hu44:=Try.underlying44;have HB:=mA (Below.refl w.heap.size w);have H:(if a0_0=a1_0 then (if a0_1=a1_1 then (if a0_2=a1_2 then (if a0_3=a1_3 then (if a0_4=a1_4 then (if a0_5=a1_5 then (if a0_6=a1_6 then (if a0_7=a1_7 then (if a0_8=a1_8 then (if a0_9=a1_9 then (some true) else (some false)) else (some false)) else (some false)) else (some false)) else (some false)) else (some false)) else (some false)) else (some false)) else (some false)) else (some false))=some r:=h;clear h
 by_cases c3:a0_0=a1_0
 ·rw [if_pos c3] at H;obtain ⟨c3b0,c3b1⟩:=eqB c3;clear c3
  by_cases c4:a0_1=a1_1
  ·rw [if_pos c4] at H;obtain ⟨c4b0,c4b1⟩:=eqB c4;clear c4
   by_cases c5:a0_2=a1_2
   ·rw [if_pos c5] at H;obtain ⟨c5b0,c5b1⟩:=eqB c5;clear c5
    by_cases c6:a0_3=a1_3
    ·rw [if_pos c6] at H;obtain ⟨c6b0,c6b1⟩:=eqB c6;clear c6
     by_cases c7:a0_4=a1_4
     ·rw [if_pos c7] at H;obtain ⟨c7b0,c7b1⟩:=eqB c7;clear c7
      by_cases c8:a0_5=a1_5
      ·rw [if_pos c8] at H;obtain ⟨c8b0,c8b1⟩:=eqB c8;clear c8
       by_cases c9:a0_6=a1_6
       ·rw [if_pos c9] at H;obtain ⟨c9b0,c9b1⟩:=eqB c9;clear c9
        by_cases c10:a0_7=a1_7
        ·rw [if_pos c10] at H;obtain ⟨c10b0,c10b1⟩:=eqB c10;clear c10
         by_cases c11:a0_8=a1_8
         ·rw [if_pos c11] at H;obtain ⟨c11b0,c11b1⟩:=eqB c11;clear c11
          by_cases c12:a0_9=a1_9
          ·rw [if_pos c12] at H;obtain ⟨c12b0,c12b1⟩:=eqB c12;clear c12;obtain rfl:=Option.some.inj H
           go_enter Try.func21,Try.ntmps21
           go_wp2_with (first|((with_reducible refine gLg rfl (by assumption) ?_);refine ldV ?_)|((with_reducible refine gSt rfl (by assumption) ?_);refine stV ?_)|((with_reducible refine gT 2 rfl ?_);refine bX 2 ?_;intro gb121 hg w13 hbox hb;have BK121:=mA hbox;have GW121:=gbpB HB hg;have GE121:=gbpB HB hg;replace HB:=spB HB hb;clear hb hbox hg)|((with_reducible refine gT 3 rfl ?_);refine bX 3 ?_;intro gb122 hg w14 hbox hb;have BK122:=mA hbox;have GW122:=gbpS HB hg;have GE122:=gbpS HB hg;replace HB:=spS HB hb;have NB121_122:=mA (lN (blk_lt (pK BK121.out)) hg);have hN121_122:=NB121_122.out;have NB122_121:=nS NB121_122;have hN122_121:=NB122_121.out;replace BK121:=bK BK121 hb;clear hb hbox hg;have hcz16_0:=fun i_=>blk_cell BK121.out i_;have hfz16_0:=fun i_=>blk_frozen BK121.out i_;have hcz17_0:=fun i_=>blk_cell BK122.out i_;have hfz17_0:=fun i_=>blk_frozen BK122.out i_))
           go_ret
           exact rZ (pS HB.out)
          ·rw [if_neg c12] at H;have c12b0:(a0_9 == a1_9)=false:=beq_eq_false_iff_ne.mpr c12;have c12b1:(a0_9 != a1_9)=true:=bne_iff_ne.mpr c12;obtain rfl:=Option.some.inj H
           go_enter Try.func21,Try.ntmps21
           go_wp2_with (first|((with_reducible refine gLg rfl (by assumption) ?_);refine ldV ?_)|((with_reducible refine gSt rfl (by assumption) ?_);refine stV ?_)|((with_reducible refine gT 2 rfl ?_);refine bX 2 ?_;intro gb121 hg w18 hbox hb;have BK121:=mA hbox;have GW121:=gbpB HB hg;have GE121:=gbpB HB hg;replace HB:=spB HB hb;clear hb hbox hg)|((with_reducible refine gT 3 rfl ?_);refine bX 3 ?_;intro gb122 hg w19 hbox hb;have BK122:=mA hbox;have GW122:=gbpS HB hg;have GE122:=gbpS HB hg;replace HB:=spS HB hb;have NB121_122:=mA (lN (blk_lt (pK BK121.out)) hg);have hN121_122:=NB121_122.out;have NB122_121:=nS NB121_122;have hN122_121:=NB122_121.out;replace BK121:=bK BK121 hb;clear hb hbox hg;have hcz21_0:=fun i_=>blk_cell BK121.out i_;have hfz21_0:=fun i_=>blk_frozen BK121.out i_;have hcz22_0:=fun i_=>blk_cell BK122.out i_;have hfz22_0:=fun i_=>blk_frozen BK122.out i_))
           go_ret
           exact rZ (pS HB.out)
         ·rw [if_neg c11] at H;have c11b0:(a0_8 == a1_8)=false:=beq_eq_false_iff_ne.mpr c11;have c11b1:(a0_8 != a1_8)=true:=bne_iff_ne.mpr c11;obtain rfl:=Option.some.inj H
          go_enter Try.func21,Try.ntmps21
          go_wp2_with (first|((with_reducible refine gLg rfl (by assumption) ?_);refine ldV ?_)|((with_reducible refine gSt rfl (by assumption) ?_);refine stV ?_)|((with_reducible refine gT 2 rfl ?_);refine bX 2 ?_;intro gb121 hg w23 hbox hb;have BK121:=mA hbox;have GW121:=gbpB HB hg;have GE121:=gbpB HB hg;replace HB:=spB HB hb;clear hb hbox hg)|((with_reducible refine gT 3 rfl ?_);refine bX 3 ?_;intro gb122 hg w24 hbox hb;have BK122:=mA hbox;have GW122:=gbpS HB hg;have GE122:=gbpS HB hg;replace HB:=spS HB hb;have NB121_122:=mA (lN (blk_lt (pK BK121.out)) hg);have hN121_122:=NB121_122.out;have NB122_121:=nS NB121_122;have hN122_121:=NB122_121.out;replace BK121:=bK BK121 hb;clear hb hbox hg;have hcz26_0:=fun i_=>blk_cell BK121.out i_;have hfz26_0:=fun i_=>blk_frozen BK121.out i_;have hcz27_0:=fun i_=>blk_cell BK122.out i_;have hfz27_0:=fun i_=>blk_frozen BK122.out i_))
          go_ret
          exact rZ (pS HB.out)
        ·rw [if_neg c10] at H;have c10b0:(a0_7 == a1_7)=false:=beq_eq_false_iff_ne.mpr c10;have c10b1:(a0_7 != a1_7)=true:=bne_iff_ne.mpr c10;obtain rfl:=Option.some.inj H
         go_enter Try.func21,Try.ntmps21
         go_wp2_with (first|((with_reducible refine gLg rfl (by assumption) ?_);refine ldV ?_)|((with_reducible refine gSt rfl (by assumption) ?_);refine stV ?_)|((with_reducible refine gT 2 rfl ?_);refine bX 2 ?_;intro gb121 hg w28 hbox hb;have BK121:=mA hbox;have GW121:=gbpB HB hg;have GE121:=gbpB HB hg;replace HB:=spB HB hb;clear hb hbox hg)|((with_reducible refine gT 3 rfl ?_);refine bX 3 ?_;intro gb122 hg w29 hbox hb;have BK122:=mA hbox;have GW122:=gbpS HB hg;have GE122:=gbpS HB hg;replace HB:=spS HB hb;have NB121_122:=mA (lN (blk_lt (pK BK121.out)) hg);have hN121_122:=NB121_122.out;have NB122_121:=nS NB121_122;have hN122_121:=NB122_121.out;replace BK121:=bK BK121 hb;clear hb hbox hg;have hcz31_0:=fun i_=>blk_cell BK121.out i_;have hfz31_0:=fun i_=>blk_frozen BK121.out i_;have hcz32_0:=fun i_=>blk_cell BK122.out i_;have hfz32_0:=fun i_=>blk_frozen BK122.out i_))
         go_ret
         exact rZ (pS HB.out)
       ·rw [if_neg c9] at H;have c9b0:(a0_6 == a1_6)=false:=beq_eq_false_iff_ne.mpr c9;have c9b1:(a0_6 != a1_6)=true:=bne_iff_ne.mpr c9;obtain rfl:=Option.some.inj H
        go_enter Try.func21,Try.ntmps21
        go_wp2_with (first|((with_reducible refine gLg rfl (by assumption) ?_);refine ldV ?_)|((with_reducible refine gSt rfl (by assumption) ?_);refine stV ?_)|((with_reducible refine gT 2 rfl ?_);refine bX 2 ?_;intro gb121 hg w33 hbox hb;have BK121:=mA hbox;have GW121:=gbpB HB hg;have GE121:=gbpB HB hg;replace HB:=spB HB hb;clear hb hbox hg)|((with_reducible refine gT 3 rfl ?_);refine bX 3 ?_;intro gb122 hg w34 hbox hb;have BK122:=mA hbox;have GW122:=gbpS HB hg;have GE122:=gbpS HB hg;replace HB:=spS HB hb;have NB121_122:=mA (lN (blk_lt (pK BK121.out)) hg);have hN121_122:=NB121_122.out;have NB122_121:=nS NB121_122;have hN122_121:=NB122_121.out;replace BK121:=bK BK121 hb;clear hb hbox hg;have hcz36_0:=fun i_=>blk_cell BK121.out i_;have hfz36_0:=fun i_=>blk_frozen BK121.out i_;have hcz37_0:=fun i_=>blk_cell BK122.out i_;have hfz37_0:=fun i_=>blk_frozen BK122.out i_))
        go_ret
        exact rZ (pS HB.out)
      ·rw [if_neg c8] at H;have c8b0:(a0_5 == a1_5)=false:=beq_eq_false_iff_ne.mpr c8;have c8b1:(a0_5 != a1_5)=true:=bne_iff_ne.mpr c8;obtain rfl:=Option.some.inj H
       go_enter Try.func21,Try.ntmps21
       go_wp2_with (first|((with_reducible refine gLg rfl (by assumption) ?_);refine ldV ?_)|((with_reducible refine gSt rfl (by assumption) ?_);refine stV ?_)|((with_reducible refine gT 2 rfl ?_);refine bX 2 ?_;intro gb121 hg w38 hbox hb;have BK121:=mA hbox;have GW121:=gbpB HB hg;have GE121:=gbpB HB hg;replace HB:=spB HB hb;clear hb hbox hg)|((with_reducible refine gT 3 rfl ?_);refine bX 3 ?_;intro gb122 hg w39 hbox hb;have BK122:=mA hbox;have GW122:=gbpS HB hg;have GE122:=gbpS HB hg;replace HB:=spS HB hb;have NB121_122:=mA (lN (blk_lt (pK BK121.out)) hg);have hN121_122:=NB121_122.out;have NB122_121:=nS NB121_122;have hN122_121:=NB122_121.out;replace BK121:=bK BK121 hb;clear hb hbox hg;have hcz41_0:=fun i_=>blk_cell BK121.out i_;have hfz41_0:=fun i_=>blk_frozen BK121.out i_;have hcz42_0:=fun i_=>blk_cell BK122.out i_;have hfz42_0:=fun i_=>blk_frozen BK122.out i_))
       go_ret
       exact rZ (pS HB.out)
     ·rw [if_neg c7] at H;have c7b0:(a0_4 == a1_4)=false:=beq_eq_false_iff_ne.mpr c7;have c7b1:(a0_4 != a1_4)=true:=bne_iff_ne.mpr c7;obtain rfl:=Option.some.inj H
      go_enter Try.func21,Try.ntmps21
      go_wp2_with (first|((with_reducible refine gLg rfl (by assumption) ?_);refine ldV ?_)|((with_reducible refine gSt rfl (by assumption) ?_);refine stV ?_)|((with_reducible refine gT 2 rfl ?_);refine bX 2 ?_;intro gb121 hg w43 hbox hb;have BK121:=mA hbox;have GW121:=gbpB HB hg;have GE121:=gbpB HB hg;replace HB:=spB HB hb;clear hb hbox hg)|((with_reducible refine gT 3 rfl ?_);refine bX 3 ?_;intro gb122 hg w44 hbox hb;have BK122:=mA hbox;have GW122:=gbpS HB hg;have GE122:=gbpS HB hg;replace HB:=spS HB hb;have NB121_122:=mA (lN (blk_lt (pK BK121.out)) hg);have hN121_122:=NB121_122.out;have NB122_121:=nS NB121_122;have hN122_121:=NB122_121.out;replace BK121:=bK BK121 hb;clear hb hbox hg;have hcz46_0:=fun i_=>blk_cell BK121.out i_;have hfz46_0:=fun i_=>blk_frozen BK121.out i_;have hcz47_0:=fun i_=>blk_cell BK122.out i_;have hfz47_0:=fun i_=>blk_frozen BK122.out i_))
      go_ret
      exact rZ (pS HB.out)
    ·rw [if_neg c6] at H;have c6b0:(a0_3 == a1_3)=false:=beq_eq_false_iff_ne.mpr c6;have c6b1:(a0_3 != a1_3)=true:=bne_iff_ne.mpr c6;obtain rfl:=Option.some.inj H
     go_enter Try.func21,Try.ntmps21
     go_wp2_with (first|((with_reducible refine gLg rfl (by assumption) ?_);refine ldV ?_)|((with_reducible refine gSt rfl (by assumption) ?_);refine stV ?_)|((with_reducible refine gT 2 rfl ?_);refine bX 2 ?_;intro gb121 hg w48 hbox hb;have BK121:=mA hbox;have GW121:=gbpB HB hg;have GE121:=gbpB HB hg;replace HB:=spB HB hb;clear hb hbox hg)|((with_reducible refine gT 3 rfl ?_);refine bX 3 ?_;intro gb122 hg w49 hbox hb;have BK122:=mA hbox;have GW122:=gbpS HB hg;have GE122:=gbpS HB hg;replace HB:=spS HB hb;have NB121_122:=mA (lN (blk_lt (pK BK121.out)) hg);have hN121_122:=NB121_122.out;have NB122_121:=nS NB121_122;have hN122_121:=NB122_121.out;replace BK121:=bK BK121 hb;clear hb hbox hg;have hcz51_0:=fun i_=>blk_cell BK121.out i_;have hfz51_0:=fun i_=>blk_frozen BK121.out i_;have hcz52_0:=fun i_=>blk_cell BK122.out i_;have hfz52_0:=fun i_=>blk_frozen BK122.out i_))
     go_ret
     exact rZ (pS HB.out)
   ·rw [if_neg c5] at H;have c5b0:(a0_2 == a1_2)=false:=beq_eq_false_iff_ne.mpr c5;have c5b1:(a0_2 != a1_2)=true:=bne_iff_ne.mpr c5;obtain rfl:=Option.some.inj H
    go_enter Try.func21,Try.ntmps21
    go_wp2_with (first|((with_reducible refine gLg rfl (by assumption) ?_);refine ldV ?_)|((with_reducible refine gSt rfl (by assumption) ?_);refine stV ?_)|((with_reducible refine gT 2 rfl ?_);refine bX 2 ?_;intro gb121 hg w53 hbox hb;have BK121:=mA hbox;have GW121:=gbpB HB hg;have GE121:=gbpB HB hg;replace HB:=spB HB hb;clear hb hbox hg)|((with_reducible refine gT 3 rfl ?_);refine bX 3 ?_;intro gb122 hg w54 hbox hb;have BK122:=mA hbox;have GW122:=gbpS HB hg;have GE122:=gbpS HB hg;replace HB:=spS HB hb;have NB121_122:=mA (lN (blk_lt (pK BK121.out)) hg);have hN121_122:=NB121_122.out;have NB122_121:=nS NB121_122;have hN122_121:=NB122_121.out;replace BK121:=bK BK121 hb;clear hb hbox hg;have hcz56_0:=fun i_=>blk_cell BK121.out i_;have hfz56_0:=fun i_=>blk_frozen BK121.out i_;have hcz57_0:=fun i_=>blk_cell BK122.out i_;have hfz57_0:=fun i_=>blk_frozen BK122.out i_))
    go_ret
    exact rZ (pS HB.out)
  ·rw [if_neg c4] at H;have c4b0:(a0_1 == a1_1)=false:=beq_eq_false_iff_ne.mpr c4;have c4b1:(a0_1 != a1_1)=true:=bne_iff_ne.mpr c4;obtain rfl:=Option.some.inj H
   go_enter Try.func21,Try.ntmps21
   go_wp2_with (first|((with_reducible refine gLg rfl (by assumption) ?_);refine ldV ?_)|((with_reducible refine gSt rfl (by assumption) ?_);refine stV ?_)|((with_reducible refine gT 2 rfl ?_);refine bX 2 ?_;intro gb121 hg w58 hbox hb;have BK121:=mA hbox;have GW121:=gbpB HB hg;have GE121:=gbpB HB hg;replace HB:=spB HB hb;clear hb hbox hg)|((with_reducible refine gT 3 rfl ?_);refine bX 3 ?_;intro gb122 hg w59 hbox hb;have BK122:=mA hbox;have GW122:=gbpS HB hg;have GE122:=gbpS HB hg;replace HB:=spS HB hb;have NB121_122:=mA (lN (blk_lt (pK BK121.out)) hg);have hN121_122:=NB121_122.out;have NB122_121:=nS NB121_122;have hN122_121:=NB122_121.out;replace BK121:=bK BK121 hb;clear hb hbox hg;have hcz61_0:=fun i_=>blk_cell BK121.out i_;have hfz61_0:=fun i_=>blk_frozen BK121.out i_;have hcz62_0:=fun i_=>blk_cell BK122.out i_;have hfz62_0:=fun i_=>blk_frozen BK122.out i_))
   go_ret
   exact rZ (pS HB.out)
 ·rw [if_neg c3] at H;have c3b0:(a0_0 == a1_0)=false:=beq_eq_false_iff_ne.mpr c3;have c3b1:(a0_0 != a1_0)=true:=bne_iff_ne.mpr c3;obtain rfl:=Option.some.inj H
  go_enter Try.func21,Try.ntmps21
  go_wp2_with (first|((with_reducible refine gLg rfl (by assumption) ?_);refine ldV ?_)|((with_reducible refine gSt rfl (by assumption) ?_);refine stV ?_)|((with_reducible refine gT 2 rfl ?_);refine bX 2 ?_;intro gb121 hg w63 hbox hb;have BK121:=mA hbox;have GW121:=gbpB HB hg;have GE121:=gbpB HB hg;replace HB:=spB HB hb;clear hb hbox hg)|((with_reducible refine gT 3 rfl ?_);refine bX 3 ?_;intro gb122 hg w64 hbox hb;have BK122:=mA hbox;have GW122:=gbpS HB hg;have GE122:=gbpS HB hg;replace HB:=spS HB hb;have NB121_122:=mA (lN (blk_lt (pK BK121.out)) hg);have hN121_122:=NB121_122.out;have NB122_121:=nS NB121_122;have hN122_121:=NB122_121.out;replace BK121:=bK BK121 hb;clear hb hbox hg;have hcz66_0:=fun i_=>blk_cell BK121.out i_;have hfz66_0:=fun i_=>blk_frozen BK121.out i_;have hcz67_0:=fun i_=>blk_cell BK122.out i_;have hfz67_0:=fun i_=>blk_frozen BK122.out i_))
  go_ret
  exact rZ (pS HB.out)

end Go.Proofs.Ytncohokalilnbaa.P
