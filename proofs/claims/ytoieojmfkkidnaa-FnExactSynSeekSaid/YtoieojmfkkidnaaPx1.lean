-- printed by pprint.py (this session's program over the kit's printer) out of the translation. Lean checks it.
import Derived.Test.YtoieojmfkkidnaaPx0
namespace Go.Proofs.Ytoieojmfkkidnaa.P
open Go.RowKit Go.Proofs.YtoieojmfkkidnaaX Go.Proofs.YtoieojmfkkidnaaW.PrintWords Go.Proofs.YtoieojmfkkidnaaW.PrintLast Go.Proofs.YtoieojmfkkidnaaW.PrintMore
attribute [local go_sem] max2_int min2_int max_two min_two max_three min_three max_four min_four   -- for this text's walks alone
set_option linter.unusedVariables false
set_option linter.unusedSimpArgs false

/-! ### laws_eqCmd: function 80 -/
def laws_eqCmd.f (a0_0 a0_1 a0_2 a0_3 a0_4 a0_5 a0_6 a0_7 a0_8 a0_9 a1_0 a1_1 a1_2 a1_3 a1_4 a1_5 a1_6 a1_7 a1_8 a1_9 : Int) : Option (Bool) := if a0_0 = a1_0 then (if a0_1 = a1_1 then (if a0_2 = a1_2 then (if a0_3 = a1_3 then (if a0_4 = a1_4 then (if a0_5 = a1_5 then (if a0_6 = a1_6 then (if a0_7 = a1_7 then (if a0_8 = a1_8 then (if a0_9 = a1_9 then (some true) else (some false)) else (some false)) else (some false)) else (some false)) else (some false)) else (some false)) else (some false)) else (some false)) else (some false)) else (some false)
set_option maxHeartbeats 8000000 in
set_option maxRecDepth 100000 in
theorem laws_eqCmd.calls {a0_0 a0_1 a0_2 a0_3 a0_4 a0_5 a0_6 a0_7 a0_8 a0_9 a1_0 a1_1 a1_2 a1_3 a1_4 a1_5 a1_6 a1_7 a1_8 a1_9 : Int} {r : Bool} {w : World} (h : laws_eqCmd.f a0_0 a0_1 a0_2 a0_3 a0_4 a0_5 a0_6 a0_7 a0_8 a0_9 a1_0 a1_1 a1_2 a1_3 a1_4 a1_5 a1_6 a1_7 a1_8 a1_9 = some r) :
  Calls Try.prog 80 #[.agg #[.int .i64 a0_0,.int .i64 a0_1,.int .i64 a0_2,.int .i64 a0_3,.int .i64 a0_4,.int .i64 a0_5,.int .i64 a0_6,.int .i64 a0_7,.int .i64 a0_8,.int .i64 a0_9],.agg #[.int .i64 a1_0,.int .i64 a1_1,.int .i64 a1_2,.int .i64 a1_3,.int .i64 a1_4,.int .i64 a1_5,.int .i64 a1_6,.int .i64 a1_7,.int .i64 a1_8,.int .i64 a1_9]] w fun e w'=>e=.returned (.bool r)∧Below w.heap.size w w':=by
 have hu24:=Try.underlying24;have HB:=mA (Below.refl w.heap.size w);have H:(if a0_0=a1_0 then (if a0_1=a1_1 then (if a0_2=a1_2 then (if a0_3=a1_3 then (if a0_4=a1_4 then (if a0_5=a1_5 then (if a0_6=a1_6 then (if a0_7=a1_7 then (if a0_8=a1_8 then (if a0_9=a1_9 then (some true) else (some false)) else (some false)) else (some false)) else (some false)) else (some false)) else (some false)) else (some false)) else (some false)) else (some false)) else (some false))=some r:=h;clear h
 by_cases c3:a0_0=a1_0
 ·rw [if_pos c3] at H;obtain ⟨c3b0,c3b1⟩:=eqB c3;clear c3
  by_cases c4:a0_1=a1_1
  ·rw [if_pos c4] at H;obtain ⟨c4b0,c4b1⟩:=eqB c4;clear c4
   by_cases c5:a0_2=a1_2
   ·rw [if_pos c5] at H;obtain ⟨c5b0,c5b1⟩:=eqB c5;clear c5
    by_cases c6:a0_3=a1_3
    ·rw [if_pos c6] at H;obtain ⟨c6b0,c6b1⟩:=eqB c6;clear c6
     by_cases c7:a0_4=a1_4
     ·rw [if_pos c7] at H;obtain ⟨c7b0,c7b1⟩:=eqB c7;clear c7
      by_cases c8:a0_5=a1_5
      ·rw [if_pos c8] at H;obtain ⟨c8b0,c8b1⟩:=eqB c8;clear c8
       by_cases c9:a0_6=a1_6
       ·rw [if_pos c9] at H;obtain ⟨c9b0,c9b1⟩:=eqB c9;clear c9
        by_cases c10:a0_7=a1_7
        ·rw [if_pos c10] at H;obtain ⟨c10b0,c10b1⟩:=eqB c10;clear c10
         by_cases c11:a0_8=a1_8
         ·rw [if_pos c11] at H;obtain ⟨c11b0,c11b1⟩:=eqB c11;clear c11
          by_cases c12:a0_9=a1_9
          ·rw [if_pos c12] at H;obtain ⟨c12b0,c12b1⟩:=eqB c12;clear c12;obtain rfl:=Option.some.inj H
           go_enter Try.func80,Try.ntmps80
           go_wp2_with (first|((with_reducible refine gLg rfl (by assumption) ?_);refine ldV ?_)|((with_reducible refine gSt rfl (by assumption) ?_);refine stV ?_)|((with_reducible refine gT 2 rfl ?_);refine bX 2 ?_;intro gb101 hg w13 hbox hb;have BK101:=mA hbox;have GW101:=gbpB HB hg;have GE101:=gbpB HB hg;replace HB:=spB HB hb;clear hb hbox hg)|((with_reducible refine gT 3 rfl ?_);refine bX 3 ?_;intro gb102 hg w14 hbox hb;have BK102:=mA hbox;have GW102:=gbpS HB hg;have GE102:=gbpS HB hg;replace HB:=spS HB hb;have NB101_102:=mA (lN (blk_lt (pK BK101.out)) hg);have hN101_102:=NB101_102.out;have NB102_101:=nS NB101_102;have hN102_101:=NB102_101.out;replace BK101:=bK BK101 hb;clear hb hbox hg;have hcz16_0:=fun i_=>blk_cell BK101.out i_;have hfz16_0:=fun i_=>blk_frozen BK101.out i_;have hcz17_0:=fun i_=>blk_cell BK102.out i_;have hfz17_0:=fun i_=>blk_frozen BK102.out i_))
           go_ret
           exact rZ (pS HB.out)
          ·rw [if_neg c12] at H;have c12b0:(a0_9 == a1_9)=false:=beq_eq_false_iff_ne.mpr c12;have c12b1:(a0_9 != a1_9)=true:=bne_iff_ne.mpr c12;obtain rfl:=Option.some.inj H
           go_enter Try.func80,Try.ntmps80
           go_wp2_with (first|((with_reducible refine gLg rfl (by assumption) ?_);refine ldV ?_)|((with_reducible refine gSt rfl (by assumption) ?_);refine stV ?_)|((with_reducible refine gT 2 rfl ?_);refine bX 2 ?_;intro gb101 hg w18 hbox hb;have BK101:=mA hbox;have GW101:=gbpB HB hg;have GE101:=gbpB HB hg;replace HB:=spB HB hb;clear hb hbox hg)|((with_reducible refine gT 3 rfl ?_);refine bX 3 ?_;intro gb102 hg w19 hbox hb;have BK102:=mA hbox;have GW102:=gbpS HB hg;have GE102:=gbpS HB hg;replace HB:=spS HB hb;have NB101_102:=mA (lN (blk_lt (pK BK101.out)) hg);have hN101_102:=NB101_102.out;have NB102_101:=nS NB101_102;have hN102_101:=NB102_101.out;replace BK101:=bK BK101 hb;clear hb hbox hg;have hcz21_0:=fun i_=>blk_cell BK101.out i_;have hfz21_0:=fun i_=>blk_frozen BK101.out i_;have hcz22_0:=fun i_=>blk_cell BK102.out i_;have hfz22_0:=fun i_=>blk_frozen BK102.out i_))
           go_ret
           exact rZ (pS HB.out)
         ·rw [if_neg c11] at H;have c11b0:(a0_8 == a1_8)=false:=beq_eq_false_iff_ne.mpr c11;have c11b1:(a0_8 != a1_8)=true:=bne_iff_ne.mpr c11;obtain rfl:=Option.some.inj H
          go_enter Try.func80,Try.ntmps80
          go_wp2_with (first|((with_reducible refine gLg rfl (by assumption) ?_);refine ldV ?_)|((with_reducible refine gSt rfl (by assumption) ?_);refine stV ?_)|((with_reducible refine gT 2 rfl ?_);refine bX 2 ?_;intro gb101 hg w23 hbox hb;have BK101:=mA hbox;have GW101:=gbpB HB hg;have GE101:=gbpB HB hg;replace HB:=spB HB hb;clear hb hbox hg)|((with_reducible refine gT 3 rfl ?_);refine bX 3 ?_;intro gb102 hg w24 hbox hb;have BK102:=mA hbox;have GW102:=gbpS HB hg;have GE102:=gbpS HB hg;replace HB:=spS HB hb;have NB101_102:=mA (lN (blk_lt (pK BK101.out)) hg);have hN101_102:=NB101_102.out;have NB102_101:=nS NB101_102;have hN102_101:=NB102_101.out;replace BK101:=bK BK101 hb;clear hb hbox hg;have hcz26_0:=fun i_=>blk_cell BK101.out i_;have hfz26_0:=fun i_=>blk_frozen BK101.out i_;have hcz27_0:=fun i_=>blk_cell BK102.out i_;have hfz27_0:=fun i_=>blk_frozen BK102.out i_))
          go_ret
          exact rZ (pS HB.out)
        ·rw [if_neg c10] at H;have c10b0:(a0_7 == a1_7)=false:=beq_eq_false_iff_ne.mpr c10;have c10b1:(a0_7 != a1_7)=true:=bne_iff_ne.mpr c10;obtain rfl:=Option.some.inj H
         go_enter Try.func80,Try.ntmps80
         go_wp2_with (first|((with_reducible refine gLg rfl (by assumption) ?_);refine ldV ?_)|((with_reducible refine gSt rfl (by assumption) ?_);refine stV ?_)|((with_reducible refine gT 2 rfl ?_);refine bX 2 ?_;intro gb101 hg w28 hbox hb;have BK101:=mA hbox;have GW101:=gbpB HB hg;have GE101:=gbpB HB hg;replace HB:=spB HB hb;clear hb hbox hg)|((with_reducible refine gT 3 rfl ?_);refine bX 3 ?_;intro gb102 hg w29 hbox hb;have BK102:=mA hbox;have GW102:=gbpS HB hg;have GE102:=gbpS HB hg;replace HB:=spS HB hb;have NB101_102:=mA (lN (blk_lt (pK BK101.out)) hg);have hN101_102:=NB101_102.out;have NB102_101:=nS NB101_102;have hN102_101:=NB102_101.out;replace BK101:=bK BK101 hb;clear hb hbox hg;have hcz31_0:=fun i_=>blk_cell BK101.out i_;have hfz31_0:=fun i_=>blk_frozen BK101.out i_;have hcz32_0:=fun i_=>blk_cell BK102.out i_;have hfz32_0:=fun i_=>blk_frozen BK102.out i_))
         go_ret
         exact rZ (pS HB.out)
       ·rw [if_neg c9] at H;have c9b0:(a0_6 == a1_6)=false:=beq_eq_false_iff_ne.mpr c9;have c9b1:(a0_6 != a1_6)=true:=bne_iff_ne.mpr c9;obtain rfl:=Option.some.inj H
        go_enter Try.func80,Try.ntmps80
        go_wp2_with (first|((with_reducible refine gLg rfl (by assumption) ?_);refine ldV ?_)|((with_reducible refine gSt rfl (by assumption) ?_);refine stV ?_)|((with_reducible refine gT 2 rfl ?_);refine bX 2 ?_;intro gb101 hg w33 hbox hb;have BK101:=mA hbox;have GW101:=gbpB HB hg;have GE101:=gbpB HB hg;replace HB:=spB HB hb;clear hb hbox hg)|((with_reducible refine gT 3 rfl ?_);refine bX 3 ?_;intro gb102 hg w34 hbox hb;have BK102:=mA hbox;have GW102:=gbpS HB hg;have GE102:=gbpS HB hg;replace HB:=spS HB hb;have NB101_102:=mA (lN (blk_lt (pK BK101.out)) hg);have hN101_102:=NB101_102.out;have NB102_101:=nS NB101_102;have hN102_101:=NB102_101.out;replace BK101:=bK BK101 hb;clear hb hbox hg;have hcz36_0:=fun i_=>blk_cell BK101.out i_;have hfz36_0:=fun i_=>blk_frozen BK101.out i_;have hcz37_0:=fun i_=>blk_cell BK102.out i_;have hfz37_0:=fun i_=>blk_frozen BK102.out i_))
        go_ret
        exact rZ (pS HB.out)
      ·rw [if_neg c8] at H;have c8b0:(a0_5 == a1_5)=false:=beq_eq_false_iff_ne.mpr c8;have c8b1:(a0_5 != a1_5)=true:=bne_iff_ne.mpr c8;obtain rfl:=Option.some.inj H
       go_enter Try.func80,Try.ntmps80
       go_wp2_with (first|((with_reducible refine gLg rfl (by assumption) ?_);refine ldV ?_)|((with_reducible refine gSt rfl (by assumption) ?_);refine stV ?_)|((with_reducible refine gT 2 rfl ?_);refine bX 2 ?_;intro gb101 hg w38 hbox hb;have BK101:=mA hbox;have GW101:=gbpB HB hg;have GE101:=gbpB HB hg;replace HB:=spB HB hb;clear hb hbox hg)|((with_reducible refine gT 3 rfl ?_);refine bX 3 ?_;intro gb102 hg w39 hbox hb;have BK102:=mA hbox;have GW102:=gbpS HB hg;have GE102:=gbpS HB hg;replace HB:=spS HB hb;have NB101_102:=mA (lN (blk_lt (pK BK101.out)) hg);have hN101_102:=NB101_102.out;have NB102_101:=nS NB101_102;have hN102_101:=NB102_101.out;replace BK101:=bK BK101 hb;clear hb hbox hg;have hcz41_0:=fun i_=>blk_cell BK101.out i_;have hfz41_0:=fun i_=>blk_frozen BK101.out i_;have hcz42_0:=fun i_=>blk_cell BK102.out i_;have hfz42_0:=fun i_=>blk_frozen BK102.out i_))
       go_ret
       exact rZ (pS HB.out)
     ·rw [if_neg c7] at H;have c7b0:(a0_4 == a1_4)=false:=beq_eq_false_iff_ne.mpr c7;have c7b1:(a0_4 != a1_4)=true:=bne_iff_ne.mpr c7;obtain rfl:=Option.some.inj H
      go_enter Try.func80,Try.ntmps80
      go_wp2_with (first|((with_reducible refine gLg rfl (by assumption) ?_);refine ldV ?_)|((with_reducible refine gSt rfl (by assumption) ?_);refine stV ?_)|((with_reducible refine gT 2 rfl ?_);refine bX 2 ?_;intro gb101 hg w43 hbox hb;have BK101:=mA hbox;have GW101:=gbpB HB hg;have GE101:=gbpB HB hg;replace HB:=spB HB hb;clear hb hbox hg)|((with_reducible refine gT 3 rfl ?_);refine bX 3 ?_;intro gb102 hg w44 hbox hb;have BK102:=mA hbox;have GW102:=gbpS HB hg;have GE102:=gbpS HB hg;replace HB:=spS HB hb;have NB101_102:=mA (lN (blk_lt (pK BK101.out)) hg);have hN101_102:=NB101_102.out;have NB102_101:=nS NB101_102;have hN102_101:=NB102_101.out;replace BK101:=bK BK101 hb;clear hb hbox hg;have hcz46_0:=fun i_=>blk_cell BK101.out i_;have hfz46_0:=fun i_=>blk_frozen BK101.out i_;have hcz47_0:=fun i_=>blk_cell BK102.out i_;have hfz47_0:=fun i_=>blk_frozen BK102.out i_))
      go_ret
      exact rZ (pS HB.out)
    ·rw [if_neg c6] at H;have c6b0:(a0_3 == a1_3)=false:=beq_eq_false_iff_ne.mpr c6;have c6b1:(a0_3 != a1_3)=true:=bne_iff_ne.mpr c6;obtain rfl:=Option.some.inj H
     go_enter Try.func80,Try.ntmps80
     go_wp2_with (first|((with_reducible refine gLg rfl (by assumption) ?_);refine ldV ?_)|((with_reducible refine gSt rfl (by assumption) ?_);refine stV ?_)|((with_reducible refine gT 2 rfl ?_);refine bX 2 ?_;intro gb101 hg w48 hbox hb;have BK101:=mA hbox;have GW101:=gbpB HB hg;have GE101:=gbpB HB hg;replace HB:=spB HB hb;clear hb hbox hg)|((with_reducible refine gT 3 rfl ?_);refine bX 3 ?_;intro gb102 hg w49 hbox hb;have BK102:=mA hbox;have GW102:=gbpS HB hg;have GE102:=gbpS HB hg;replace HB:=spS HB hb;have NB101_102:=mA (lN (blk_lt (pK BK101.out)) hg);have hN101_102:=NB101_102.out;have NB102_101:=nS NB101_102;have hN102_101:=NB102_101.out;replace BK101:=bK BK101 hb;clear hb hbox hg;have hcz51_0:=fun i_=>blk_cell BK101.out i_;have hfz51_0:=fun i_=>blk_frozen BK101.out i_;have hcz52_0:=fun i_=>blk_cell BK102.out i_;have hfz52_0:=fun i_=>blk_frozen BK102.out i_))
     go_ret
     exact rZ (pS HB.out)
   ·rw [if_neg c5] at H;have c5b0:(a0_2 == a1_2)=false:=beq_eq_false_iff_ne.mpr c5;have c5b1:(a0_2 != a1_2)=true:=bne_iff_ne.mpr c5;obtain rfl:=Option.some.inj H
    go_enter Try.func80,Try.ntmps80
    go_wp2_with (first|((with_reducible refine gLg rfl (by assumption) ?_);refine ldV ?_)|((with_reducible refine gSt rfl (by assumption) ?_);refine stV ?_)|((with_reducible refine gT 2 rfl ?_);refine bX 2 ?_;intro gb101 hg w53 hbox hb;have BK101:=mA hbox;have GW101:=gbpB HB hg;have GE101:=gbpB HB hg;replace HB:=spB HB hb;clear hb hbox hg)|((with_reducible refine gT 3 rfl ?_);refine bX 3 ?_;intro gb102 hg w54 hbox hb;have BK102:=mA hbox;have GW102:=gbpS HB hg;have GE102:=gbpS HB hg;replace HB:=spS HB hb;have NB101_102:=mA (lN (blk_lt (pK BK101.out)) hg);have hN101_102:=NB101_102.out;have NB102_101:=nS NB101_102;have hN102_101:=NB102_101.out;replace BK101:=bK BK101 hb;clear hb hbox hg;have hcz56_0:=fun i_=>blk_cell BK101.out i_;have hfz56_0:=fun i_=>blk_frozen BK101.out i_;have hcz57_0:=fun i_=>blk_cell BK102.out i_;have hfz57_0:=fun i_=>blk_frozen BK102.out i_))
    go_ret
    exact rZ (pS HB.out)
  ·rw [if_neg c4] at H;have c4b0:(a0_1 == a1_1)=false:=beq_eq_false_iff_ne.mpr c4;have c4b1:(a0_1 != a1_1)=true:=bne_iff_ne.mpr c4;obtain rfl:=Option.some.inj H
   go_enter Try.func80,Try.ntmps80
   go_wp2_with (first|((with_reducible refine gLg rfl (by assumption) ?_);refine ldV ?_)|((with_reducible refine gSt rfl (by assumption) ?_);refine stV ?_)|((with_reducible refine gT 2 rfl ?_);refine bX 2 ?_;intro gb101 hg w58 hbox hb;have BK101:=mA hbox;have GW101:=gbpB HB hg;have GE101:=gbpB HB hg;replace HB:=spB HB hb;clear hb hbox hg)|((with_reducible refine gT 3 rfl ?_);refine bX 3 ?_;intro gb102 hg w59 hbox hb;have BK102:=mA hbox;have GW102:=gbpS HB hg;have GE102:=gbpS HB hg;replace HB:=spS HB hb;have NB101_102:=mA (lN (blk_lt (pK BK101.out)) hg);have hN101_102:=NB101_102.out;have NB102_101:=nS NB101_102;have hN102_101:=NB102_101.out;replace BK101:=bK BK101 hb;clear hb hbox hg;have hcz61_0:=fun i_=>blk_cell BK101.out i_;have hfz61_0:=fun i_=>blk_frozen BK101.out i_;have hcz62_0:=fun i_=>blk_cell BK102.out i_;have hfz62_0:=fun i_=>blk_frozen BK102.out i_))
   go_ret
   exact rZ (pS HB.out)
 ·rw [if_neg c3] at H;have c3b0:(a0_0 == a1_0)=false:=beq_eq_false_iff_ne.mpr c3;have c3b1:(a0_0 != a1_0)=true:=bne_iff_ne.mpr c3;obtain rfl:=Option.some.inj H
  go_enter Try.func80,Try.ntmps80
  go_wp2_with (first|((with_reducible refine gLg rfl (by assumption) ?_);refine ldV ?_)|((with_reducible refine gSt rfl (by assumption) ?_);refine stV ?_)|((with_reducible refine gT 2 rfl ?_);refine bX 2 ?_;intro gb101 hg w63 hbox hb;have BK101:=mA hbox;have GW101:=gbpB HB hg;have GE101:=gbpB HB hg;replace HB:=spB HB hb;clear hb hbox hg)|((with_reducible refine gT 3 rfl ?_);refine bX 3 ?_;intro gb102 hg w64 hbox hb;have BK102:=mA hbox;have GW102:=gbpS HB hg;have GE102:=gbpS HB hg;replace HB:=spS HB hb;have NB101_102:=mA (lN (blk_lt (pK BK101.out)) hg);have hN101_102:=NB101_102.out;have NB102_101:=nS NB101_102;have hN102_101:=NB102_101.out;replace BK101:=bK BK101 hb;clear hb hbox hg;have hcz66_0:=fun i_=>blk_cell BK101.out i_;have hfz66_0:=fun i_=>blk_frozen BK101.out i_;have hcz67_0:=fun i_=>blk_cell BK102.out i_;have hfz67_0:=fun i_=>blk_frozen BK102.out i_))
  go_ret
  exact rZ (pS HB.out)

/-! ### laws_eqSynPaper: function 95 -/
def laws_eqSynPaper.f (a0_0 a0_1 a0_2 a0_3 a0_4 a0_5 a0_6 a0_7 a0_8 a0_9 a0_10 a0_11 a1_0 a1_1 a1_2 a1_3 a1_4 a1_5 a1_6 a1_7 a1_8 a1_9 a1_10 a1_11 : Int) : Option (Bool) := if a0_0 = a1_0 then (if a0_1 = a1_1 then ((laws_eqCmd.f a0_2 a0_3 a0_4 a0_5 a0_6 a0_7 a0_8 a0_9 a0_10 a0_11 a1_2 a1_3 a1_4 a1_5 a1_6 a1_7 a1_8 a1_9 a1_10 a1_11).bind fun t105 => (if t105 = true then (some true) else (some false))) else (some false)) else (some false)
set_option maxHeartbeats 8000000 in
set_option maxRecDepth 100000 in
theorem laws_eqSynPaper.calls {a0_0 a0_1 a0_2 a0_3 a0_4 a0_5 a0_6 a0_7 a0_8 a0_9 a0_10 a0_11 a1_0 a1_1 a1_2 a1_3 a1_4 a1_5 a1_6 a1_7 a1_8 a1_9 a1_10 a1_11 : Int} {r : Bool} {w : World} (h : laws_eqSynPaper.f a0_0 a0_1 a0_2 a0_3 a0_4 a0_5 a0_6 a0_7 a0_8 a0_9 a0_10 a0_11 a1_0 a1_1 a1_2 a1_3 a1_4 a1_5 a1_6 a1_7 a1_8 a1_9 a1_10 a1_11 = some r) :
  Calls Try.prog 95 #[.agg #[.int .i64 a0_0,.int .i64 a0_1,.int .i64 a0_2,.int .i64 a0_3,.int .i64 a0_4,.int .i64 a0_5,.int .i64 a0_6,.int .i64 a0_7,.int .i64 a0_8,.int .i64 a0_9,.int .i64 a0_10,.int .i64 a0_11],.agg #[.int .i64 a1_0,.int .i64 a1_1,.int .i64 a1_2,.int .i64 a1_3,.int .i64 a1_4,.int .i64 a1_5,.int .i64 a1_6,.int .i64 a1_7,.int .i64 a1_8,.int .i64 a1_9,.int .i64 a1_10,.int .i64 a1_11]] w fun e w'=>e=.returned (.bool r)∧Below w.heap.size w w':=by
 have hu64:=Try.underlying64;have hu24:=Try.underlying24;have HB:=mA (Below.refl w.heap.size w);have H:(if a0_0=a1_0 then (if a0_1=a1_1 then ((laws_eqCmd.f a0_2 a0_3 a0_4 a0_5 a0_6 a0_7 a0_8 a0_9 a0_10 a0_11 a1_2 a1_3 a1_4 a1_5 a1_6 a1_7 a1_8 a1_9 a1_10 a1_11).bind fun t105=>(if t105=true then (some true) else (some false))) else (some false)) else (some false))=some r:=h;clear h
 by_cases c3:a0_0=a1_0
 ·rw [if_pos c3] at H;obtain ⟨c3b0,c3b1⟩:=eqB c3;clear c3
  by_cases c4:a0_1=a1_1
  ·rw [if_pos c4] at H;obtain ⟨c4b0,c4b1⟩:=eqB c4;clear c4;obtain ⟨t105,A5,H⟩:=bI H;(try dsimp only at H)
   by_cases c6:t105=true
   ·subst c6;rw [if_pos rfl] at H;obtain rfl:=Option.some.inj H
    go_enter Try.func95,Try.ntmps95
    go_wp2_with (first|((with_reducible refine gLg rfl (by assumption) ?_);refine ldV ?_)|((with_reducible refine gSt rfl (by assumption) ?_);refine stV ?_)|((with_reducible refine gT 2 rfl ?_);refine bX 2 ?_;intro gb103 hg w7 hbox hb;have BK103:=mA hbox;have GW103:=gbpB HB hg;have GE103:=gbpB HB hg;replace HB:=spB HB hb;clear hb hbox hg)|((with_reducible refine gT 3 rfl ?_);refine bX 3 ?_;intro gb104 hg w8 hbox hb;have BK104:=mA hbox;have GW104:=gbpS HB hg;have GE104:=gbpS HB hg;replace HB:=spS HB hb;have NB103_104:=mA (lN (blk_lt (pK BK103.out)) hg);have hN103_104:=NB103_104.out;have NB104_103:=nS NB103_104;have hN104_103:=NB104_103.out;replace BK103:=bK BK103 hb;clear hb hbox hg;have hcz10_0:=fun i_=>blk_cell BK103.out i_;have hfz10_0:=fun i_=>blk_frozen BK103.out i_;have hcz11_0:=fun i_=>blk_cell BK104.out i_;have hfz11_0:=fun i_=>blk_frozen BK104.out i_)|((with_reducible refine gT 19 rfl ?_);refine gC (some 19) Try.func80 (laws_eqCmd.calls A5.out) ?_;rintro e w12 ⟨rfl,hb⟩;refine ⟨_,rfl,?_⟩;replace BK103:=bK BK103 hb;replace BK104:=bK BK104 hb;replace HB:=spS HB hb;(try clear hb)))
    go_ret
    exact rZ (pS HB.out)
   ·replace c6:=Bool.eq_false_iff.mpr c6;subst c6
    rw [if_neg nFT] at H
    obtain rfl:=Option.some.inj H
    go_enter Try.func95,Try.ntmps95
    go_wp2_with (first|((with_reducible refine gLg rfl (by assumption) ?_);refine ldV ?_)|((with_reducible refine gSt rfl (by assumption) ?_);refine stV ?_)|((with_reducible refine gT 2 rfl ?_);refine bX 2 ?_;intro gb103 hg w13 hbox hb;have BK103:=mA hbox;have GW103:=gbpB HB hg;have GE103:=gbpB HB hg;replace HB:=spB HB hb;clear hb hbox hg)|((with_reducible refine gT 3 rfl ?_);refine bX 3 ?_;intro gb104 hg w14 hbox hb;have BK104:=mA hbox;have GW104:=gbpS HB hg;have GE104:=gbpS HB hg;replace HB:=spS HB hb;have NB103_104:=mA (lN (blk_lt (pK BK103.out)) hg);have hN103_104:=NB103_104.out;have NB104_103:=nS NB103_104;have hN104_103:=NB104_103.out;replace BK103:=bK BK103 hb;clear hb hbox hg;have hcz16_0:=fun i_=>blk_cell BK103.out i_;have hfz16_0:=fun i_=>blk_frozen BK103.out i_;have hcz17_0:=fun i_=>blk_cell BK104.out i_;have hfz17_0:=fun i_=>blk_frozen BK104.out i_)|((with_reducible refine gT 19 rfl ?_);refine gC (some 19) Try.func80 (laws_eqCmd.calls A5.out) ?_;rintro e w18 ⟨rfl,hb⟩;refine ⟨_,rfl,?_⟩;replace BK103:=bK BK103 hb;replace BK104:=bK BK104 hb;replace HB:=spS HB hb;(try clear hb)))
    go_ret
    exact rZ (pS HB.out)
  ·rw [if_neg c4] at H;have c4b0:(a0_1 == a1_1)=false:=beq_eq_false_iff_ne.mpr c4;have c4b1:(a0_1 != a1_1)=true:=bne_iff_ne.mpr c4;obtain rfl:=Option.some.inj H
   go_enter Try.func95,Try.ntmps95
   go_wp2_with (first|((with_reducible refine gLg rfl (by assumption) ?_);refine ldV ?_)|((with_reducible refine gSt rfl (by assumption) ?_);refine stV ?_)|((with_reducible refine gT 2 rfl ?_);refine bX 2 ?_;intro gb103 hg w19 hbox hb;have BK103:=mA hbox;have GW103:=gbpB HB hg;have GE103:=gbpB HB hg;replace HB:=spB HB hb;clear hb hbox hg)|((with_reducible refine gT 3 rfl ?_);refine bX 3 ?_;intro gb104 hg w20 hbox hb;have BK104:=mA hbox;have GW104:=gbpS HB hg;have GE104:=gbpS HB hg;replace HB:=spS HB hb;have NB103_104:=mA (lN (blk_lt (pK BK103.out)) hg);have hN103_104:=NB103_104.out;have NB104_103:=nS NB103_104;have hN104_103:=NB104_103.out;replace BK103:=bK BK103 hb;clear hb hbox hg;have hcz22_0:=fun i_=>blk_cell BK103.out i_;have hfz22_0:=fun i_=>blk_frozen BK103.out i_;have hcz23_0:=fun i_=>blk_cell BK104.out i_;have hfz23_0:=fun i_=>blk_frozen BK104.out i_))
   go_ret
   exact rZ (pS HB.out)
 ·rw [if_neg c3] at H;have c3b0:(a0_0 == a1_0)=false:=beq_eq_false_iff_ne.mpr c3;have c3b1:(a0_0 != a1_0)=true:=bne_iff_ne.mpr c3;obtain rfl:=Option.some.inj H
  go_enter Try.func95,Try.ntmps95
  go_wp2_with (first|((with_reducible refine gLg rfl (by assumption) ?_);refine ldV ?_)|((with_reducible refine gSt rfl (by assumption) ?_);refine stV ?_)|((with_reducible refine gT 2 rfl ?_);refine bX 2 ?_;intro gb103 hg w24 hbox hb;have BK103:=mA hbox;have GW103:=gbpB HB hg;have GE103:=gbpB HB hg;replace HB:=spB HB hb;clear hb hbox hg)|((with_reducible refine gT 3 rfl ?_);refine bX 3 ?_;intro gb104 hg w25 hbox hb;have BK104:=mA hbox;have GW104:=gbpS HB hg;have GE104:=gbpS HB hg;replace HB:=spS HB hb;have NB103_104:=mA (lN (blk_lt (pK BK103.out)) hg);have hN103_104:=NB103_104.out;have NB104_103:=nS NB103_104;have hN104_103:=NB104_103.out;replace BK103:=bK BK103 hb;clear hb hbox hg;have hcz27_0:=fun i_=>blk_cell BK103.out i_;have hfz27_0:=fun i_=>blk_frozen BK103.out i_;have hcz28_0:=fun i_=>blk_cell BK104.out i_;have hfz28_0:=fun i_=>blk_frozen BK104.out i_))
  go_ret
  exact rZ (pS HB.out)

/-! ### laws_eqIntS: function 96 -/
def laws_eqIntS.l0 : Nat → List Int → List Int → Int → Option (Bool)
 | 0,_,_,_=>none
 | k+1,x0,x1,x5=>if x5<(x0.length:Int) then (if 0≤x5 then (if x5<(x1.length:Int) then (if (rd x0 x5)=(rd x1 x5) then (laws_eqIntS.l0 k x0 x1 (wrap64 (x5+1))) else (some false)) else (none)) else (none)) else (some true)
def laws_eqIntS.f (k : Nat) (l0 : List Int) (l1 : List Int) : Option (Bool) := if (l0.length : Int) = (l1.length : Int) then (laws_eqIntS.l0 k l0 l1 0) else (some false)
theorem laws_eqIntS.mono_l : ∀ k, (∀ y0 y1 y2, LeO (laws_eqIntS.l0 k y0 y1 y2) (laws_eqIntS.l0 (k + 1) y0 y1 y2))
 | 0=>fun _ _ _ r h=>by simp [laws_eqIntS.l0] at h
 | k+1=>by
  have ih0:=laws_eqIntS.mono_l k
  ·intros
   unfold laws_eqIntS.l0
   repeat' first
   | (with_reducible first|apply ih0|exact LeO.refl _|exact LeO.none _|refine LeO.ite ?_ ?_|refine LeO.bind ?_ (fun _=>?_))|exact LeO.none _|refine LeO.ite ?_ ?_|refine LeO.bind ?_ (fun _=>?_)
theorem laws_eqIntS.mono : ∀ a0 a1 k, LeO (laws_eqIntS.f k a0 a1) (laws_eqIntS.f (k + 1) a0 a1) := by
 intro a0 a1 k;have ih0:=laws_eqIntS.mono_l k
 unfold laws_eqIntS.f
 repeat' first
   | (with_reducible first|apply ih0|exact LeO.refl _|exact LeO.none _|refine LeO.ite ?_ ?_|refine LeO.bind ?_ (fun _=>?_))|exact LeO.none _|refine LeO.ite ?_ ?_|refine LeO.bind ?_ (fun _=>?_)
set_option maxHeartbeats 8000000 in
set_option maxRecDepth 100000 in
theorem laws_eqIntS.calls {k : Nat} {A0 : Option Addr} {c0 : Nat} {l0 : List Int} {A1 : Option Addr} {c1 : Nat} {l1 : List Int} {r : Bool} {w : World} (hr0 : Kd.C (Kd.int .i64) w A0 l0.length l0) (hc0 : l0.length ≤ c0) (hr1 : Kd.C (Kd.int .i64) w A1 l1.length l1) (hc1 : l1.length ≤ c1) (h : laws_eqIntS.f k l0 l1 = some r) :
  Calls Try.prog 96 #[.slice A0 l0.length c0,.slice A1 l1.length c1] w fun e w'=>e=.returned (.bool r)∧Drawn0 w w':=by
 have HR0:=mA hr0;have HC0:=mA hc0;clear hr0 hc0;have HR1:=mA hr1;have HC1:=mA hc1;clear hr1 hc1;have H:(if (l0.length:Int)=(l1.length:Int) then (laws_eqIntS.l0 k l0 l1 0) else (some false))=some r:=h;clear h
 by_cases c3:(l0.length:Int)=(l1.length:Int)
 ·rw [if_pos c3] at H;have c3b0:((l0.length:Int) == (l1.length:Int))=true:=beq_iff_eq.mpr c3;have c3b1:((l0.length:Int) != (l1.length:Int))=false:=bne_eq_false_iff_eq.mpr c3
  have c3b2:(l0.length == l1.length)=true:=by first|simpa using c3|(simp at c3 ⊢;omega)
  clear c3;have H':=mA H;clear H
  go_enter Try.func96,Try.ntmps96
  go_wp2
  repeat (go_quiet (fail);try go_wp2)
  go_loopg [5] k (fun kq v5 w'=>∃ (x5_1:Int),v5=.int .i64 x5_1∧Aside0 (laws_eqIntS.l0 kq l0 l1 x5_1=some r)∧Aside0 (kq≤k)∧Drawn0 w w')
  case atStart=>exact ⟨(0),bZ,H',⟨Nat.le_refl _⟩,by repeat (first|exact Drawn0.refl _|apply Drawn0.step)⟩
  case round =>
   clear H'
   (try clear c3);(try clear c3b0);(try clear c3b1);(try clear c3b2)
   obtain ⟨x5_1,rfl,HA,HK1,⟨m1,rfl⟩⟩:=hrel
   cases gk with
   | zero=>exact absurd HA.out (by simp [laws_eqIntS.l0])
   | succ k1 =>
    have H:=HA.out;clear HA;simp only [laws_eqIntS.l0] at H
    by_cases c4:x5_1<(l0.length:Int)
    ·rw [if_pos c4] at H;have c4b0:decide (x5_1<(l0.length:Int))=true:=decide_eq_true c4;clear c4
     by_cases c5:0≤x5_1
     ·rw [if_pos c5] at H;have c5b0:decide (0≤x5_1)=true:=decide_eq_true c5;clear c5
      by_cases c6:x5_1<(l1.length:Int)
      ·rw [if_pos c6] at H;have c6b0:decide (x5_1<(l1.length:Int))=true:=decide_eq_true c6;clear c6
       by_cases c7:(rd l0 x5_1)=(rd l1 x5_1)
       ·rw [if_pos c7] at H;obtain ⟨c7b0,c7b1⟩:=eqB c7;clear c7;have H':=mA H;clear H;have p106:0≤(x5_1:Int):=of_decide_eq_true bA;have q106:x5_1<(l0.length:Int):=of_decide_eq_true bA;obtain ⟨ad106,e106,hx106_0⟩:=Kd.at_int HR0.out x5_1 p106 q106;cases e106;replace p106:=eq_true p106;replace q106:=eq_true q106;have p107:0≤(x5_1:Int):=of_decide_eq_true bA;have q107:x5_1<(l1.length:Int):=of_decide_eq_true bA;obtain ⟨ad107,e107,hx107_0⟩:=Kd.at_int HR1.out x5_1 p107 q107;cases e107;replace p107:=eq_true p107;replace q107:=eq_true q107
        go_wp2
        repeat (go_quiet (fail);try go_wp2)
        go_roundg k1
        case measure=>have:=HK1.out;omega
        case rel=>exact ⟨(wrap64 (x5_1+1)),bZ,H',⟨by have:=HK1.out;omega⟩,by repeat (first|exact Drawn0.refl _|apply Drawn0.step)⟩
       ·rw [if_neg c7] at H;have c7b0:((rd l0 x5_1) == (rd l1 x5_1))=false:=beq_eq_false_iff_ne.mpr c7;have c7b1:((rd l0 x5_1) != (rd l1 x5_1))=true:=bne_iff_ne.mpr c7;obtain rfl:=Option.some.inj H;have p106:0≤(x5_1:Int):=of_decide_eq_true bA;have q106:x5_1<(l0.length:Int):=of_decide_eq_true bA;obtain ⟨ad106,e106,hx106_0⟩:=Kd.at_int HR0.out x5_1 p106 q106;cases e106;replace p106:=eq_true p106;replace q106:=eq_true q106;have p107:0≤(x5_1:Int):=of_decide_eq_true bA;have q107:x5_1<(l1.length:Int):=of_decide_eq_true bA;obtain ⟨ad107,e107,hx107_0⟩:=Kd.at_int HR1.out x5_1 p107 q107;cases e107;replace p107:=eq_true p107;replace q107:=eq_true q107
        go_wp2
        repeat (go_quiet (fail);try go_wp2)
        go_ret
        exact ⟨by first|rfl|(simp;done)|(simp [*];done),by repeat (first|exact Drawn0.refl _|apply Drawn0.step)⟩
      ·rw [if_neg c6] at H
       exact absurd H (by simp)
     ·rw [if_neg c5] at H
      exact absurd H (by simp)
    ·rw [if_neg c4] at H;have c4b0:decide (x5_1<(l0.length:Int))=false:=decide_eq_false c4;clear c4;obtain rfl:=Option.some.inj H
     go_wp2
     repeat (go_quiet (fail);try go_wp2)
     go_ret
     exact ⟨by first|rfl|(simp;done)|(simp [*];done),by repeat (first|exact Drawn0.refl _|apply Drawn0.step)⟩
 ·rw [if_neg c3] at H;have c3b0:((l0.length:Int) == (l1.length:Int))=false:=beq_eq_false_iff_ne.mpr c3;have c3b1:((l0.length:Int) != (l1.length:Int))=true:=bne_iff_ne.mpr c3
  have c3b2:(l0.length == l1.length)=false:=by first|simpa using c3|(simp at c3 ⊢;omega)
  obtain rfl:=Option.some.inj H
  go_enter Try.func96,Try.ntmps96
  go_wp2
  repeat (go_quiet (fail);try go_wp2)
  go_ret
  exact ⟨by first|rfl|(simp;done)|(simp [*];done),by repeat (first|exact Drawn0.refl _|apply Drawn0.step)⟩

end Go.Proofs.Ytoieojmfkkidnaa.P
