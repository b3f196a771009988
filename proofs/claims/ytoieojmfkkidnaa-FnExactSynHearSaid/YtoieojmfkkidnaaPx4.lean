-- printed by pprint.py (this session's program over the kit's printer) out of the translation. Lean checks it.
import Derived.Test.YtoieojmfkkidnaaPx0
namespace Go.Proofs.Ytoieojmfkkidnaa.P
open Go.RowKit Go.Proofs.YtoieojmfkkidnaaX Go.Proofs.YtoieojmfkkidnaaW.PrintWords Go.Proofs.YtoieojmfkkidnaaW.PrintLast Go.Proofs.YtoieojmfkkidnaaW.PrintMore
attribute [local go_sem] max2_int min2_int max_two min_two max_three min_three max_four min_four   -- for this text's walks alone
set_option linter.unusedVariables false
set_option linter.unusedSimpArgs false
/-! ### laws_eqCmd: function 80 -/
def laws_eqCmd.f (a0_0 a0_1 a0_2 a0_3 a0_4 a0_5 a0_6 a0_7 a0_8 a0_9 a1_0 a1_1 a1_2 a1_3 a1_4 a1_5 a1_6 a1_7 a1_8 a1_9 : Int) : Option (Bool) := if a0_0 = a1_0 then (if a0_1 = a1_1 then (if a0_2 = a1_2 then (if a0_3 = a1_3 then (if a0_4 = a1_4 then (if a0_5 = a1_5 then (if a0_6 = a1_6 then (if a0_7 = a1_7 then (if a0_8 = a1_8 then (if a0_9 = a1_9 then (some true) else (some false)) else (some false)) else (some false)) else (some false)) else (some false)) else (some false)) else (some false)) else (some false)) else (some false)) else (some false)
set_option maxHeartbeats 8000000 in
set_option maxRecDepth 100000 in
theorem laws_eqCmd.calls {a0_0 a0_1 a0_2 a0_3 a0_4 a0_5 a0_6 a0_7 a0_8 a0_9 a1_0 a1_1 a1_2 a1_3 a1_4 a1_5 a1_6 a1_7 a1_8 a1_9 : Int} {r : Bool} {w : World} (h : laws_eqCmd.f a0_0 a0_1 a0_2 a0_3 a0_4 a0_5 a0_6 a0_7 a0_8 a0_9 a1_0 a1_1 a1_2 a1_3 a1_4 a1_5 a1_6 a1_7 a1_8 a1_9 = some r) :
  Calls Try.prog 80 #[.agg #[.int .i64 a0_0,.int .i64 a0_1,.int .i64 a0_2,.int .i64 a0_3,.int .i64 a0_4,.int .i64 a0_5,.int .i64 a0_6,.int .i64 a0_7,.int .i64 a0_8,.int .i64 a0_9],.agg #[.int .i64 a1_0,.int .i64 a1_1,.int .i64 a1_2,.int .i64 a1_3,.int .i64 a1_4,.int .i64 a1_5,.int .i64 a1_6,.int .i64 a1_7,.int .i64 a1_8,.int .i64 a1_9]] w fun e w'=>e=.returned (.bool r)∧Below w.heap.size w w':=by
 have hu24:=Try.underlying24;have HB:=mA (Below.refl w.heap.size w);have H:(if a0_0=a1_0 then (if a0_1=a1_1 then (if a0_2=a1_2 then (if a0_3=a1_3 then (if a0_4=a1_4 then (if a0_5=a1_5 then (if a0_6=a1_6 then (if a0_7=a1_7 then (if a0_8=a1_8 then (if a0_9=a1_9 then (some true) else (some false)) else (some false)) else (some false)) else (some false)) else (some false)) else (some false)) else (some false)) else (some false)) else (some false)) else (some false))=some r:=h;clear h
 by_cases c3:a0_0=a1_0
 ·rw [if_pos c3] at H;obtain ⟨c3b0,c3b1⟩:=eqB c3;clear c3
  by_cases c4:a0_1=a1_1
  ·rw [if_pos c4] at H;obtain ⟨c4b0,c4b1⟩:=eqB c4;clear c4
   by_cases c5:a0_2=a1_2
   ·rw [if_pos c5] at H;obtain ⟨c5b0,c5b1⟩:=eqB c5;clear c5
    by_cases c6:a0_3=a1_3
    ·rw [if_pos c6] at H;obtain ⟨c6b0,c6b1⟩:=eqB c6;clear c6
     by_cases c7:a0_4=a1_4
     ·rw [if_pos c7] at H;obtain ⟨c7b0,c7b1⟩:=eqB c7;clear c7
      by_cases c8:a0_5=a1_5
      ·rw [if_pos c8] at H;obtain ⟨c8b0,c8b1⟩:=eqB c8;clear c8
       by_cases c9:a0_6=a1_6
       ·rw [if_pos c9] at H;obtain ⟨c9b0,c9b1⟩:=eqB c9;clear c9
        by_cases c10:a0_7=a1_7
        ·rw [if_pos c10] at H;obtain ⟨c10b0,c10b1⟩:=eqB c10;clear c10
         by_cases c11:a0_8=a1_8
         ·rw [if_pos c11] at H;obtain ⟨c11b0,c11b1⟩:=eqB c11;clear c11
          by_cases c12:a0_9=a1_9
          ·rw [if_pos c12] at H;obtain ⟨c12b0,c12b1⟩:=eqB c12;clear c12;obtain rfl:=Option.some.inj H
           go_enter Try.func80,Try.ntmps80
           go_wp2_with (first|((with_reducible refine gLg rfl (by assumption) ?_);refine ldV ?_)|((with_reducible refine gSt rfl (by assumption) ?_);refine stV ?_)|((with_reducible refine gT 2 rfl ?_);refine bX 2 ?_;intro gb148 hg w13 hbox hb;have BK148:=mA hbox;have GW148:=gbpB HB hg;have GE148:=gbpB HB hg;replace HB:=spB HB hb;clear hb hbox hg)|((with_reducible refine gT 3 rfl ?_);refine bX 3 ?_;intro gb149 hg w14 hbox hb;have BK149:=mA hbox;have GW149:=gbpS HB hg;have GE149:=gbpS HB hg;replace HB:=spS HB hb;have NB148_149:=mA (lN (blk_lt (pK BK148.out)) hg);have hN148_149:=NB148_149.out;have NB149_148:=nS NB148_149;have hN149_148:=NB149_148.out;replace BK148:=bK BK148 hb;clear hb hbox hg;have hcz16_0:=fun i_=>blk_cell BK148.out i_;have hfz16_0:=fun i_=>blk_frozen BK148.out i_;have hcz17_0:=fun i_=>blk_cell BK149.out i_;have hfz17_0:=fun i_=>blk_frozen BK149.out i_))
           go_ret
           exact rZ (pS HB.out)
          ·rw [if_neg c12] at H;have c12b0:(a0_9 == a1_9)=false:=beq_eq_false_iff_ne.mpr c12;have c12b1:(a0_9 != a1_9)=true:=bne_iff_ne.mpr c12;obtain rfl:=Option.some.inj H
           go_enter Try.func80,Try.ntmps80
           go_wp2_with (first|((with_reducible refine gLg rfl (by assumption) ?_);refine ldV ?_)|((with_reducible refine gSt rfl (by assumption) ?_);refine stV ?_)|((with_reducible refine gT 2 rfl ?_);refine bX 2 ?_;intro gb148 hg w18 hbox hb;have BK148:=mA hbox;have GW148:=gbpB HB hg;have GE148:=gbpB HB hg;replace HB:=spB HB hb;clear hb hbox hg)|((with_reducible refine gT 3 rfl ?_);refine bX 3 ?_;intro gb149 hg w19 hbox hb;have BK149:=mA hbox;have GW149:=gbpS HB hg;have GE149:=gbpS HB hg;replace HB:=spS HB hb;have NB148_149:=mA (lN (blk_lt (pK BK148.out)) hg);have hN148_149:=NB148_149.out;have NB149_148:=nS NB148_149;have hN149_148:=NB149_148.out;replace BK148:=bK BK148 hb;clear hb hbox hg;have hcz21_0:=fun i_=>blk_cell BK148.out i_;have hfz21_0:=fun i_=>blk_frozen BK148.out i_;have hcz22_0:=fun i_=>blk_cell BK149.out i_;have hfz22_0:=fun i_=>blk_frozen BK149.out i_))
           go_ret
           exact rZ (pS HB.out)
         ·rw [if_neg c11] at H;have c11b0:(a0_8 == a1_8)=false:=beq_eq_false_iff_ne.mpr c11;have c11b1:(a0_8 != a1_8)=true:=bne_iff_ne.mpr c11;obtain rfl:=Option.some.inj H
          go_enter Try.func80,Try.ntmps80
          go_wp2_with (first|((with_reducible refine gLg rfl (by assumption) ?_);refine ldV ?_)|((with_reducible refine gSt rfl (by assumption) ?_);refine stV ?_)|((with_reducible refine gT 2 rfl ?_);refine bX 2 ?_;intro gb148 hg w23 hbox hb;have BK148:=mA hbox;have GW148:=gbpB HB hg;have GE148:=gbpB HB hg;replace HB:=spB HB hb;clear hb hbox hg)|((with_reducible refine gT 3 rfl ?_);refine bX 3 ?_;intro gb149 hg w24 hbox hb;have BK149:=mA hbox;have GW149:=gbpS HB hg;have GE149:=gbpS HB hg;replace HB:=spS HB hb;have NB148_149:=mA (lN (blk_lt (pK BK148.out)) hg);have hN148_149:=NB148_149.out;have NB149_148:=nS NB148_149;have hN149_148:=NB149_148.out;replace BK148:=bK BK148 hb;clear hb hbox hg;have hcz26_0:=fun i_=>blk_cell BK148.out i_;have hfz26_0:=fun i_=>blk_frozen BK148.out i_;have hcz27_0:=fun i_=>blk_cell BK149.out i_;have hfz27_0:=fun i_=>blk_frozen BK149.out i_))
          go_ret
          exact rZ (pS HB.out)
        ·rw [if_neg c10] at H;have c10b0:(a0_7 == a1_7)=false:=beq_eq_false_iff_ne.mpr c10;have c10b1:(a0_7 != a1_7)=true:=bne_iff_ne.mpr c10;obtain rfl:=Option.some.inj H
         go_enter Try.func80,Try.ntmps80
         go_wp2_with (first|((with_reducible refine gLg rfl (by assumption) ?_);refine ldV ?_)|((with_reducible refine gSt rfl (by assumption) ?_);refine stV ?_)|((with_reducible refine gT 2 rfl ?_);refine bX 2 ?_;intro gb148 hg w28 hbox hb;have BK148:=mA hbox;have GW148:=gbpB HB hg;have GE148:=gbpB HB hg;replace HB:=spB HB hb;clear hb hbox hg)|((with_reducible refine gT 3 rfl ?_);refine bX 3 ?_;intro gb149 hg w29 hbox hb;have BK149:=mA hbox;have GW149:=gbpS HB hg;have GE149:=gbpS HB hg;replace HB:=spS HB hb;have NB148_149:=mA (lN (blk_lt (pK BK148.out)) hg);have hN148_149:=NB148_149.out;have NB149_148:=nS NB148_149;have hN149_148:=NB149_148.out;replace BK148:=bK BK148 hb;clear hb hbox hg;have hcz31_0:=fun i_=>blk_cell BK148.out i_;have hfz31_0:=fun i_=>blk_frozen BK148.out i_;have hcz32_0:=fun i_=>blk_cell BK149.out i_;have hfz32_0:=fun i_=>blk_frozen BK149.out i_))
         go_ret
         exact rZ (pS HB.out)
       ·rw [if_neg c9] at H;have c9b0:(a0_6 == a1_6)=false:=beq_eq_false_iff_ne.mpr c9;have c9b1:(a0_6 != a1_6)=true:=bne_iff_ne.mpr c9;obtain rfl:=Option.some.inj H
        go_enter Try.func80,Try.ntmps80
        go_wp2_with (first|((with_reducible refine gLg rfl (by assumption) ?_);refine ldV ?_)|((with_reducible refine gSt rfl (by assumption) ?_);refine stV ?_)|((with_reducible refine gT 2 rfl ?_);refine bX 2 ?_;intro gb148 hg w33 hbox hb;have BK148:=mA hbox;have GW148:=gbpB HB hg;have GE148:=gbpB HB hg;replace HB:=spB HB hb;clear hb hbox hg)|((with_reducible refine gT 3 rfl ?_);refine bX 3 ?_;intro gb149 hg w34 hbox hb;have BK149:=mA hbox;have GW149:=gbpS HB hg;have GE149:=gbpS HB hg;replace HB:=spS HB hb;have NB148_149:=mA (lN (blk_lt (pK BK148.out)) hg);have hN148_149:=NB148_149.out;have NB149_148:=nS NB148_149;have hN149_148:=NB149_148.out;replace BK148:=bK BK148 hb;clear hb hbox hg;have hcz36_0:=fun i_=>blk_cell BK148.out i_;have hfz36_0:=fun i_=>blk_frozen BK148.out i_;have hcz37_0:=fun i_=>blk_cell BK149.out i_;have hfz37_0:=fun i_=>blk_frozen BK149.out i_))
        go_ret
        exact rZ (pS HB.out)
      ·rw [if_neg c8] at H;have c8b0:(a0_5 == a1_5)=false:=beq_eq_false_iff_ne.mpr c8;have c8b1:(a0_5 != a1_5)=true:=bne_iff_ne.mpr c8;obtain rfl:=Option.some.inj H
       go_enter Try.func80,Try.ntmps80
       go_wp2_with (first|((with_reducible refine gLg rfl (by assumption) ?_);refine ldV ?_)|((with_reducible refine gSt rfl (by assumption) ?_);refine stV ?_)|((with_reducible refine gT 2 rfl ?_);refine bX 2 ?_;intro gb148 hg w38 hbox hb;have BK148:=mA hbox;have GW148:=gbpB HB hg;have GE148:=gbpB HB hg;replace HB:=spB HB hb;clear hb hbox hg)|((with_reducible refine gT 3 rfl ?_);refine bX 3 ?_;intro gb149 hg w39 hbox hb;have BK149:=mA hbox;have GW149:=gbpS HB hg;have GE149:=gbpS HB hg;replace HB:=spS HB hb;have NB148_149:=mA (lN (blk_lt (pK BK148.out)) hg);have hN148_149:=NB148_149.out;have NB149_148:=nS NB148_149;have hN149_148:=NB149_148.out;replace BK148:=bK BK148 hb;clear hb hbox hg;have hcz41_0:=fun i_=>blk_cell BK148.out i_;have hfz41_0:=fun i_=>blk_frozen BK148.out i_;have hcz42_0:=fun i_=>blk_cell BK149.out i_;have hfz42_0:=fun i_=>blk_frozen BK149.out i_))
       go_ret
       exact rZ (pS HB.out)
     ·rw [if_neg c7] at H;have c7b0:(a0_4 == a1_4)=false:=beq_eq_false_iff_ne.mpr c7;have c7b1:(a0_4 != a1_4)=true:=bne_iff_ne.mpr c7;obtain rfl:=Option.some.inj H
      go_enter Try.func80,Try.ntmps80
      go_wp2_with (first|((with_reducible refine gLg rfl (by assumption) ?_);refine ldV ?_)|((with_reducible refine gSt rfl (by assumption) ?_);refine stV ?_)|((with_reducible refine gT 2 rfl ?_);refine bX 2 ?_;intro gb148 hg w43 hbox hb;have BK148:=mA hbox;have GW148:=gbpB HB hg;have GE148:=gbpB HB hg;replace HB:=spB HB hb;clear hb hbox hg)|((with_reducible refine gT 3 rfl ?_);refine bX 3 ?_;intro gb149 hg w44 hbox hb;have BK149:=mA hbox;have GW149:=gbpS HB hg;have GE149:=gbpS HB hg;replace HB:=spS HB hb;have NB148_149:=mA (lN (blk_lt (pK BK148.out)) hg);have hN148_149:=NB148_149.out;have NB149_148:=nS NB148_149;have hN149_148:=NB149_148.out;replace BK148:=bK BK148 hb;clear hb hbox hg;have hcz46_0:=fun i_=>blk_cell BK148.out i_;have hfz46_0:=fun i_=>blk_frozen BK148.out i_;have hcz47_0:=fun i_=>blk_cell BK149.out i_;have hfz47_0:=fun i_=>blk_frozen BK149.out i_))
      go_ret
      exact rZ (pS HB.out)
    ·rw [if_neg c6] at H;have c6b0:(a0_3 == a1_3)=false:=beq_eq_false_iff_ne.mpr c6;have c6b1:(a0_3 != a1_3)=true:=bne_iff_ne.mpr c6;obtain rfl:=Option.some.inj H
     go_enter Try.func80,Try.ntmps80
     go_wp2_with (first|((with_reducible refine gLg rfl (by assumption) ?_);refine ldV ?_)|((with_reducible refine gSt rfl (by assumption) ?_);refine stV ?_)|((with_reducible refine gT 2 rfl ?_);refine bX 2 ?_;intro gb148 hg w48 hbox hb;have BK148:=mA hbox;have GW148:=gbpB HB hg;have GE148:=gbpB HB hg;replace HB:=spB HB hb;clear hb hbox hg)|((with_reducible refine gT 3 rfl ?_);refine bX 3 ?_;intro gb149 hg w49 hbox hb;have BK149:=mA hbox;have GW149:=gbpS HB hg;have GE149:=gbpS HB hg;replace HB:=spS HB hb;have NB148_149:=mA (lN (blk_lt (pK BK148.out)) hg);have hN148_149:=NB148_149.out;have NB149_148:=nS NB148_149;have hN149_148:=NB149_148.out;replace BK148:=bK BK148 hb;clear hb hbox hg;have hcz51_0:=fun i_=>blk_cell BK148.out i_;have hfz51_0:=fun i_=>blk_frozen BK148.out i_;have hcz52_0:=fun i_=>blk_cell BK149.out i_;have hfz52_0:=fun i_=>blk_frozen BK149.out i_))
     go_ret
     exact rZ (pS HB.out)
   ·rw [if_neg c5] at H;have c5b0:(a0_2 == a1_2)=false:=beq_eq_false_iff_ne.mpr c5;have c5b1:(a0_2 != a1_2)=true:=bne_iff_ne.mpr c5;obtain rfl:=Option.some.inj H
    go_enter Try.func80,Try.ntmps80
    go_wp2_with (first|((with_reducible refine gLg rfl (by assumption) ?_);refine ldV ?_)|((with_reducible refine gSt rfl (by assumption) ?_);refine stV ?_)|((with_reducible refine gT 2 rfl ?_);refine bX 2 ?_;intro gb148 hg w53 hbox hb;have BK148:=mA hbox;have GW148:=gbpB HB hg;have GE148:=gbpB HB hg;replace HB:=spB HB hb;clear hb hbox hg)|((with_reducible refine gT 3 rfl ?_);refine bX 3 ?_;intro gb149 hg w54 hbox hb;have BK149:=mA hbox;have GW149:=gbpS HB hg;have GE149:=gbpS HB hg;replace HB:=spS HB hb;have NB148_149:=mA (lN (blk_lt (pK BK148.out)) hg);have hN148_149:=NB148_149.out;have NB149_148:=nS NB148_149;have hN149_148:=NB149_148.out;replace BK148:=bK BK148 hb;clear hb hbox hg;have hcz56_0:=fun i_=>blk_cell BK148.out i_;have hfz56_0:=fun i_=>blk_frozen BK148.out i_;have hcz57_0:=fun i_=>blk_cell BK149.out i_;have hfz57_0:=fun i_=>blk_frozen BK149.out i_))
    go_ret
    exact rZ (pS HB.out)
  ·rw [if_neg c4] at H;have c4b0:(a0_1 == a1_1)=false:=beq_eq_false_iff_ne.mpr c4;have c4b1:(a0_1 != a1_1)=true:=bne_iff_ne.mpr c4;obtain rfl:=Option.some.inj H
   go_enter Try.func80,Try.ntmps80
   go_wp2_with (first|((with_reducible refine gLg rfl (by assumption) ?_);refine ldV ?_)|((with_reducible refine gSt rfl (by assumption) ?_);refine stV ?_)|((with_reducible refine gT 2 rfl ?_);refine bX 2 ?_;intro gb148 hg w58 hbox hb;have BK148:=mA hbox;have GW148:=gbpB HB hg;have GE148:=gbpB HB hg;replace HB:=spB HB hb;clear hb hbox hg)|((with_reducible refine gT 3 rfl ?_);refine bX 3 ?_;intro gb149 hg w59 hbox hb;have BK149:=mA hbox;have GW149:=gbpS HB hg;have GE149:=gbpS HB hg;replace HB:=spS HB hb;have NB148_149:=mA (lN (blk_lt (pK BK148.out)) hg);have hN148_149:=NB148_149.out;have NB149_148:=nS NB148_149;have hN149_148:=NB149_148.out;replace BK148:=bK BK148 hb;clear hb hbox hg;have hcz61_0:=fun i_=>blk_cell BK148.out i_;have hfz61_0:=fun i_=>blk_frozen BK148.out i_;have hcz62_0:=fun i_=>blk_cell BK149.out i_;have hfz62_0:=fun i_=>blk_frozen BK149.out i_))
   go_ret
   exact rZ (pS HB.out)
 ·rw [if_neg c3] at H;have c3b0:(a0_0 == a1_0)=false:=beq_eq_false_iff_ne.mpr c3;have c3b1:(a0_0 != a1_0)=true:=bne_iff_ne.mpr c3;obtain rfl:=Option.some.inj H
  go_enter Try.func80,Try.ntmps80
  go_wp2_with (first|((with_reducible refine gLg rfl (by assumption) ?_);refine ldV ?_)|((with_reducible refine gSt rfl (by assumption) ?_);refine stV ?_)|((with_reducible refine gT 2 rfl ?_);refine bX 2 ?_;intro gb148 hg w63 hbox hb;have BK148:=mA hbox;have GW148:=gbpB HB hg;have GE148:=gbpB HB hg;replace HB:=spB HB hb;clear hb hbox hg)|((with_reducible refine gT 3 rfl ?_);refine bX 3 ?_;intro gb149 hg w64 hbox hb;have BK149:=mA hbox;have GW149:=gbpS HB hg;have GE149:=gbpS HB hg;replace HB:=spS HB hb;have NB148_149:=mA (lN (blk_lt (pK BK148.out)) hg);have hN148_149:=NB148_149.out;have NB149_148:=nS NB148_149;have hN149_148:=NB149_148.out;replace BK148:=bK BK148 hb;clear hb hbox hg;have hcz66_0:=fun i_=>blk_cell BK148.out i_;have hfz66_0:=fun i_=>blk_frozen BK148.out i_;have hcz67_0:=fun i_=>blk_cell BK149.out i_;have hfz67_0:=fun i_=>blk_frozen BK149.out i_))
  go_ret
  exact rZ (pS HB.out)
/-! ### laws_eqBlkPiece: function 134 -/
def laws_eqBlkPiece.f (a0_0 a0_1 a0_2 a0_3 a1_0 a1_1 a1_2 a1_3 : Int) : Option (Bool) := if a0_0 = a1_0 then (if a0_1 = a1_1 then (if a0_2 = a1_2 then (if a0_3 = a1_3 then (some true) else (some false)) else (some false)) else (some false)) else (some false)
set_option maxHeartbeats 8000000 in
set_option maxRecDepth 100000 in
theorem laws_eqBlkPiece.calls {a0_0 a0_1 a0_2 a0_3 a1_0 a1_1 a1_2 a1_3 : Int} {r : Bool} {w : World} (h : laws_eqBlkPiece.f a0_0 a0_1 a0_2 a0_3 a1_0 a1_1 a1_2 a1_3 = some r) :
  Calls Try.prog 134 #[.agg #[.int .i64 a0_0,.int .i64 a0_1,.int .i64 a0_2,.int .i64 a0_3],.agg #[.int .i64 a1_0,.int .i64 a1_1,.int .i64 a1_2,.int .i64 a1_3]] w fun e w'=>e=.returned (.bool r)∧Below w.heap.size w w':=by
 have hu138:=Try.underlying138;have HB:=mA (Below.refl w.heap.size w);have H:(if a0_0=a1_0 then (if a0_1=a1_1 then (if a0_2=a1_2 then (if a0_3=a1_3 then (some true) else (some false)) else (some false)) else (some false)) else (some false))=some r:=h;clear h
 by_cases c3:a0_0=a1_0
 ·rw [if_pos c3] at H;obtain ⟨c3b0,c3b1⟩:=eqB c3;clear c3
  by_cases c4:a0_1=a1_1
  ·rw [if_pos c4] at H;obtain ⟨c4b0,c4b1⟩:=eqB c4;clear c4
   by_cases c5:a0_2=a1_2
   ·rw [if_pos c5] at H;obtain ⟨c5b0,c5b1⟩:=eqB c5;clear c5
    by_cases c6:a0_3=a1_3
    ·rw [if_pos c6] at H;obtain ⟨c6b0,c6b1⟩:=eqB c6;clear c6;obtain rfl:=Option.some.inj H
     go_enter Try.func134,Try.ntmps134
     go_wp2_with (first|((with_reducible refine gT 2 rfl ?_);refine bX 2 ?_;intro gb150 hg w7 hbox hb;have BK150:=mA hbox;have GW150:=gbpB HB hg;have GE150:=gbpB HB hg;replace HB:=spB HB hb;clear hb hbox hg)|((with_reducible refine gT 3 rfl ?_);refine bX 3 ?_;intro gb151 hg w8 hbox hb;have BK151:=mA hbox;have GW151:=gbpS HB hg;have GE151:=gbpS HB hg;replace HB:=spS HB hb;have NB150_151:=mA (lN (blk_lt (pK BK150.out)) hg);have hN150_151:=NB150_151.out;have NB151_150:=nS NB150_151;have hN151_150:=NB151_150.out;replace BK150:=bK BK150 hb;clear hb hbox hg;obtain ⟨hcz10_0,hcz10_1,hcz10_2,hcz10_3,hfz10_0,hfz10_1,hfz10_2,hfz10_3⟩:=box4 BK150.out;obtain ⟨hcz11_0,hcz11_1,hcz11_2,hcz11_3,hfz11_0,hfz11_1,hfz11_2,hfz11_3⟩:=box4 BK151.out))
     go_ret
     exact rZ (pS HB.out)
    ·rw [if_neg c6] at H;have c6b0:(a0_3 == a1_3)=false:=beq_eq_false_iff_ne.mpr c6;have c6b1:(a0_3 != a1_3)=true:=bne_iff_ne.mpr c6;obtain rfl:=Option.some.inj H
     go_enter Try.func134,Try.ntmps134
     go_wp2_with (first|((with_reducible refine gT 2 rfl ?_);refine bX 2 ?_;intro gb150 hg w12 hbox hb;have BK150:=mA hbox;have GW150:=gbpB HB hg;have GE150:=gbpB HB hg;replace HB:=spB HB hb;clear hb hbox hg)|((with_reducible refine gT 3 rfl ?_);refine bX 3 ?_;intro gb151 hg w13 hbox hb;have BK151:=mA hbox;have GW151:=gbpS HB hg;have GE151:=gbpS HB hg;replace HB:=spS HB hb;have NB150_151:=mA (lN (blk_lt (pK BK150.out)) hg);have hN150_151:=NB150_151.out;have NB151_150:=nS NB150_151;have hN151_150:=NB151_150.out;replace BK150:=bK BK150 hb;clear hb hbox hg;obtain ⟨hcz15_0,hcz15_1,hcz15_2,hcz15_3,hfz15_0,hfz15_1,hfz15_2,hfz15_3⟩:=box4 BK150.out;obtain ⟨hcz16_0,hcz16_1,hcz16_2,hcz16_3,hfz16_0,hfz16_1,hfz16_2,hfz16_3⟩:=box4 BK151.out))
     go_ret
     exact rZ (pS HB.out)
   ·rw [if_neg c5] at H;have c5b0:(a0_2 == a1_2)=false:=beq_eq_false_iff_ne.mpr c5;have c5b1:(a0_2 != a1_2)=true:=bne_iff_ne.mpr c5;obtain rfl:=Option.some.inj H
    go_enter Try.func134,Try.ntmps134
    go_wp2_with (first|((with_reducible refine gT 2 rfl ?_);refine bX 2 ?_;intro gb150 hg w17 hbox hb;have BK150:=mA hbox;have GW150:=gbpB HB hg;have GE150:=gbpB HB hg;replace HB:=spB HB hb;clear hb hbox hg)|((with_reducible refine gT 3 rfl ?_);refine bX 3 ?_;intro gb151 hg w18 hbox hb;have BK151:=mA hbox;have GW151:=gbpS HB hg;have GE151:=gbpS HB hg;replace HB:=spS HB hb;have NB150_151:=mA (lN (blk_lt (pK BK150.out)) hg);have hN150_151:=NB150_151.out;have NB151_150:=nS NB150_151;have hN151_150:=NB151_150.out;replace BK150:=bK BK150 hb;clear hb hbox hg;obtain ⟨hcz20_0,hcz20_1,hcz20_2,hcz20_3,hfz20_0,hfz20_1,hfz20_2,hfz20_3⟩:=box4 BK150.out;obtain ⟨hcz21_0,hcz21_1,hcz21_2,hcz21_3,hfz21_0,hfz21_1,hfz21_2,hfz21_3⟩:=box4 BK151.out))
    go_ret
    exact rZ (pS HB.out)
  ·rw [if_neg c4] at H;have c4b0:(a0_1 == a1_1)=false:=beq_eq_false_iff_ne.mpr c4;have c4b1:(a0_1 != a1_1)=true:=bne_iff_ne.mpr c4;obtain rfl:=Option.some.inj H
   go_enter Try.func134,Try.ntmps134
   go_wp2_with (first|((with_reducible refine gT 2 rfl ?_);refine bX 2 ?_;intro gb150 hg w22 hbox hb;have BK150:=mA hbox;have GW150:=gbpB HB hg;have GE150:=gbpB HB hg;replace HB:=spB HB hb;clear hb hbox hg)|((with_reducible refine gT 3 rfl ?_);refine bX 3 ?_;intro gb151 hg w23 hbox hb;have BK151:=mA hbox;have GW151:=gbpS HB hg;have GE151:=gbpS HB hg;replace HB:=spS HB hb;have NB150_151:=mA (lN (blk_lt (pK BK150.out)) hg);have hN150_151:=NB150_151.out;have NB151_150:=nS NB150_151;have hN151_150:=NB151_150.out;replace BK150:=bK BK150 hb;clear hb hbox hg;obtain ⟨hcz25_0,hcz25_1,hcz25_2,hcz25_3,hfz25_0,hfz25_1,hfz25_2,hfz25_3⟩:=box4 BK150.out;obtain ⟨hcz26_0,hcz26_1,hcz26_2,hcz26_3,hfz26_0,hfz26_1,hfz26_2,hfz26_3⟩:=box4 BK151.out))
   go_ret
   exact rZ (pS HB.out)
 ·rw [if_neg c3] at H;have c3b0:(a0_0 == a1_0)=false:=beq_eq_false_iff_ne.mpr c3;have c3b1:(a0_0 != a1_0)=true:=bne_iff_ne.mpr c3;obtain rfl:=Option.some.inj H
  go_enter Try.func134,Try.ntmps134
  go_wp2_with (first|((with_reducible refine gT 2 rfl ?_);refine bX 2 ?_;intro gb150 hg w27 hbox hb;have BK150:=mA hbox;have GW150:=gbpB HB hg;have GE150:=gbpB HB hg;replace HB:=spB HB hb;clear hb hbox hg)|((with_reducible refine gT 3 rfl ?_);refine bX 3 ?_;intro gb151 hg w28 hbox hb;have BK151:=mA hbox;have GW151:=gbpS HB hg;have GE151:=gbpS HB hg;replace HB:=spS HB hb;have NB150_151:=mA (lN (blk_lt (pK BK150.out)) hg);have hN150_151:=NB150_151.out;have NB151_150:=nS NB150_151;have hN151_150:=NB151_150.out;replace BK150:=bK BK150 hb;clear hb hbox hg;obtain ⟨hcz30_0,hcz30_1,hcz30_2,hcz30_3,hfz30_0,hfz30_1,hfz30_2,hfz30_3⟩:=box4 BK150.out;obtain ⟨hcz31_0,hcz31_1,hcz31_2,hcz31_3,hfz31_0,hfz31_1,hfz31_2,hfz31_3⟩:=box4 BK151.out))
  go_ret
  exact rZ (pS HB.out)
/-! ### laws_eqBlkPieceS: function 81 -/
def laws_eqBlkPieceS.l0 : Nat → List (S138) → List (S138) → Int → Option (Bool)
 | 0,_,_,_=>none
 | k+1,x0,x1,x5=>if x5<(x0.length:Int) then (if 0≤x5 then (if x5<(x1.length:Int) then ((laws_eqBlkPiece.f ((rd_T138 x0 x5).f0) ((rd_T138 x0 x5).f1) ((rd_T138 x0 x5).f2) ((rd_T138 x0 x5).f3) ((rd_T138 x1 x5).f0) ((rd_T138 x1 x5).f1) ((rd_T138 x1 x5).f2) ((rd_T138 x1 x5).f3)).bind fun t154=>(if t154=true then (laws_eqBlkPieceS.l0 k x0 x1 (wrap64 (x5+1))) else (some false))) else (none)) else (none)) else (some true)
def laws_eqBlkPieceS.f (k : Nat) (l0 : List (S138)) (l1 : List (S138)) : Option (Bool) := if (l0.length : Int) = (l1.length : Int) then (laws_eqBlkPieceS.l0 k l0 l1 0) else (some false)
def laws_eqBlkPieceS.T6 : Bool × List (List Nat × List Nat) := (true, [([], []), ([], []), ([0, 1], [0, 1]), ([2], [2]), ([], []), ([], []), ([4, 5], [4, 5]), ([6], [6]), ([3, 7], [3, 7]), ([8], [8])])
def laws_eqBlkPieceS.B6 : List Nat := [0, 0, 3, 7, 0, 0, 48, 112, 255, 511]
theorem laws_eqBlkPieceS.tab6 : rtab .any (opsOf Try.f81 6) = laws_eqBlkPieceS.T6 := by kernel_rfl
theorem laws_eqBlkPieceS.bits6 : waitsOk laws_eqBlkPieceS.T6.2 laws_eqBlkPieceS.B6 = true := by kernel_rfl
set_option maxHeartbeats 8000000 in
set_option maxRecDepth 100000 in
theorem laws_eqBlkPieceS.calls {k : Nat} {A0 : Option Addr} {c0 : Nat} {l0 : List (S138)} {A1 : Option Addr} {c1 : Nat} {l1 : List (S138)} {r : Bool} {w : World} (hr0 : Kd.C k138 w A0 l0.length l0) (hc0 : l0.length ≤ c0) (hr1 : Kd.C k138 w A1 l1.length l1) (hc1 : l1.length ≤ c1) (h : laws_eqBlkPieceS.f k l0 l1 = some r) :
  Calls Try.prog 81 #[.slice A0 l0.length c0,.slice A1 l1.length c1] w fun e w'=>e=.returned (.bool r)∧Below w.heap.size w w':=by
 have hu138:=Try.underlying138;have HR0:=mA hr0;have HC0:=mA hc0;clear hr0 hc0;have HR1:=mA hr1;have HC1:=mA hc1;clear hr1 hc1;have HB:=mA (Below.refl w.heap.size w);have H:(if (l0.length:Int)=(l1.length:Int) then (laws_eqBlkPieceS.l0 k l0 l1 0) else (some false))=some r:=h;clear h
 by_cases c3:(l0.length:Int)=(l1.length:Int)
 ·rw [if_pos c3] at H;have c3b0:((l0.length:Int) == (l1.length:Int))=true:=beq_iff_eq.mpr c3;have c3b1:((l0.length:Int) != (l1.length:Int))=false:=bne_eq_false_iff_eq.mpr c3
  have c3b2:(l0.length == l1.length)=true:=by first|simpa using c3|(simp at c3 ⊢;omega)
  clear c3;have H':=mA H;clear H
  go_enter Try.func81,Try.ntmps81
  go_wp2
  go_loopg [5] k (fun kq v5 w'=>∃ (x5_1:Int),v5=.int .i64 x5_1∧Aside0 (laws_eqBlkPieceS.l0 kq l0 l1 x5_1=some r)∧Aside0 (kq≤k)∧Aside0 (Below w.heap.size w w'))
  case atStart=>exact ⟨(0),bZ,H',⟨Nat.le_refl _⟩,⟨pB HB.out⟩⟩
  case round =>
   clear H'
   (try clear c3);(try clear c3b0);(try clear c3b1);(try clear c3b2)
   obtain ⟨x5_1,rfl,HA,HK1,HB⟩:=hrel
   cases gk with
   | zero=>exact absurd HA.out (by simp [laws_eqBlkPieceS.l0])
   | succ k1 =>
    have H:=HA.out;clear HA;simp only [laws_eqBlkPieceS.l0] at H
    by_cases c4:x5_1<(l0.length:Int)
    ·rw [if_pos c4] at H;have c4b0:decide (x5_1<(l0.length:Int))=true:=decide_eq_true c4;clear c4
     by_cases c5:0≤x5_1
     ·rw [if_pos c5] at H;have c5b0:decide (0≤x5_1)=true:=decide_eq_true c5;clear c5
      by_cases c6:x5_1<(l1.length:Int)
      ·rw [if_pos c6] at H;have c6b0:decide (x5_1<(l1.length:Int))=true:=decide_eq_true c6;clear c6;obtain ⟨t154,A7,H⟩:=bI H;(try dsimp only at H)
       have H0_:=mA H;clear H
       try go_wp2
       replace HB:=mA (below_drew1 HB.out);have p152:0≤(x5_1:Int):=of_decide_eq_true bA;have q152:x5_1<(l0.length:Int):=of_decide_eq_true bA;obtain ⟨ad152,e152,hs152⟩:=at_R138 HR0.out x5_1 p152 q152;cases e152;replace p152:=eq_true p152;replace q152:=eq_true q152;have p153:0≤(x5_1:Int):=of_decide_eq_true bA;have q153:x5_1<(l1.length:Int):=of_decide_eq_true bA;obtain ⟨ad153,e153,hs153⟩:=at_R138 HR1.out x5_1 p153 q153;cases e153;replace p153:=eq_true p153;replace q153:=eq_true q153
       refine start_ (n:=10) (S:=fun w'=>RS w' (ad152.add ((x5_1).toNat * 4)) (d138 (rd_T138 l0 x5_1))∧RS w' (ad153.add ((x5_1).toNat * 4)) (d138 (rd_T138 l1 x5_1))) (ds:=[]) _ aK rfl rfl ⟨rS HB hs152,rS HB hs153⟩ (fun hHeld=>?_);refine with_tabW laws_eqBlkPieceS.tab6 laws_eqBlkPieceS.bits6 (fun HT_ HW_=>?_)
       generalize wr.drew=w9 at HB hHeld ⊢
       refine qu 0 ?_;refine qu 1 ?_;refine qu 2 ?_;refine qu 4 ?_;refine qu 5 ?_;refine qu 6 ?_;refine qt 3 ?_;refine qt 7 ?_
       refine qo 8 ?_;intro K hK
       refine gD Try.func134 (laws_eqBlkPiece.calls A7.out) ?_
       rintro e w10 ⟨rfl,hb⟩;refine ⟨_,rfl,?_⟩;replace HB:=spB HB hb
       (try clear hb)
       refine hK.out _ _ ⟨rS HB hs152,rS HB hs153⟩ (fun hHeld=>?_);clear hK K;refine no_ (some 25) ?_;refine qu 9 ?_;refine qe ?_
       have H:=H0_.out;clear H0_
       by_cases c8:t154=true
       ·subst c8;rw [if_pos rfl] at H;have H':=mA H;clear H
        try go_wp2
        go_roundg k1
        case measure=>have:=HK1.out;omega
        case rel=>exact ⟨(wrap64 (x5_1+1)),bZ,H',⟨by have:=HK1.out;omega⟩,⟨pB HB.out⟩⟩
       ·replace c8:=Bool.eq_false_iff.mpr c8;subst c8
        rw [if_neg nFT] at H
        obtain rfl:=Option.some.inj H
        try go_wp2
        go_ret
        exact rZ (pB HB.out)
      ·rw [if_neg c6] at H
       exact absurd H (by simp)
     ·rw [if_neg c5] at H
      exact absurd H (by simp)
    ·rw [if_neg c4] at H;have c4b0:decide (x5_1<(l0.length:Int))=false:=decide_eq_false c4;clear c4;obtain rfl:=Option.some.inj H
     go_wp2
     go_ret
     exact rZ (pB HB.out)
 ·rw [if_neg c3] at H;have c3b0:((l0.length:Int) == (l1.length:Int))=false:=beq_eq_false_iff_ne.mpr c3;have c3b1:((l0.length:Int) != (l1.length:Int))=true:=bne_iff_ne.mpr c3
  have c3b2:(l0.length == l1.length)=false:=by first|simpa using c3|(simp at c3 ⊢;omega)
  obtain rfl:=Option.some.inj H
  go_enter Try.func81,Try.ntmps81
  go_wp2
  go_ret
  exact rZ (pB HB.out)
/-! ### laws_eqBlkLast: function 135 -/
def laws_eqBlkLast.f (a0_0 a0_1 a1_0 a1_1 : Int) : Option (Bool) := if a0_0 = a1_0 then (if a0_1 = a1_1 then (some true) else (some false)) else (some false)
set_option maxHeartbeats 8000000 in
set_option maxRecDepth 100000 in
theorem laws_eqBlkLast.calls {a0_0 a0_1 a1_0 a1_1 : Int} {r : Bool} {w : World} (h : laws_eqBlkLast.f a0_0 a0_1 a1_0 a1_1 = some r) :
  Calls Try.prog 135 #[.agg #[.int .i64 a0_0,.int .i64 a0_1],.agg #[.int .i64 a1_0,.int .i64 a1_1]] w fun e w'=>e=.returned (.bool r)∧Below w.heap.size w w':=by
 have hu140:=Try.underlying140;have HB:=mA (Below.refl w.heap.size w);have H:(if a0_0=a1_0 then (if a0_1=a1_1 then (some true) else (some false)) else (some false))=some r:=h;clear h
 by_cases c3:a0_0=a1_0
 ·rw [if_pos c3] at H;obtain ⟨c3b0,c3b1⟩:=eqB c3;clear c3
  by_cases c4:a0_1=a1_1
  ·rw [if_pos c4] at H;obtain ⟨c4b0,c4b1⟩:=eqB c4;clear c4;obtain rfl:=Option.some.inj H
   go_enter Try.func135,Try.ntmps135
   go_wp2_with (first|((with_reducible refine gT 2 rfl ?_);refine bE 2 #[.int .i64 a0_0,.int .i64 a0_1] 140 ?_;intro gb155 hg w5 hbox hb;have BK155:=mA hbox;have GW155:=gbpB HB hg;have GE155:=gbpB HB hg;replace HB:=spB HB hb;clear hb hbox hg)|((with_reducible refine gT 3 rfl ?_);refine bE 3 #[.int .i64 a1_0,.int .i64 a1_1] 140 ?_;intro gb156 hg w6 hbox hb;have BK156:=mA hbox;have GW156:=gbpS HB hg;have GE156:=gbpS HB hg;replace HB:=spS HB hb;have NB155_156:=mA (lN (blk_lt (pK BK155.out)) hg);have hN155_156:=NB155_156.out;have NB156_155:=nS NB155_156;have hN156_155:=NB156_155.out;replace BK155:=bK BK155 hb;clear hb hbox hg;obtain ⟨hcz8_0,hcz8_1,hfz8_0,hfz8_1⟩:=box2 BK155.out;obtain ⟨hcz9_0,hcz9_1,hfz9_0,hfz9_1⟩:=box2 BK156.out))
   go_ret
   exact rZ (pS HB.out)
  ·rw [if_neg c4] at H;have c4b0:(a0_1 == a1_1)=false:=beq_eq_false_iff_ne.mpr c4;have c4b1:(a0_1 != a1_1)=true:=bne_iff_ne.mpr c4;obtain rfl:=Option.some.inj H
   go_enter Try.func135,Try.ntmps135
   go_wp2_with (first|((with_reducible refine gT 2 rfl ?_);refine bE 2 #[.int .i64 a0_0,.int .i64 a0_1] 140 ?_;intro gb155 hg w10 hbox hb;have BK155:=mA hbox;have GW155:=gbpB HB hg;have GE155:=gbpB HB hg;replace HB:=spB HB hb;clear hb hbox hg)|((with_reducible refine gT 3 rfl ?_);refine bE 3 #[.int .i64 a1_0,.int .i64 a1_1] 140 ?_;intro gb156 hg w11 hbox hb;have BK156:=mA hbox;have GW156:=gbpS HB hg;have GE156:=gbpS HB hg;replace HB:=spS HB hb;have NB155_156:=mA (lN (blk_lt (pK BK155.out)) hg);have hN155_156:=NB155_156.out;have NB156_155:=nS NB155_156;have hN156_155:=NB156_155.out;replace BK155:=bK BK155 hb;clear hb hbox hg;obtain ⟨hcz13_0,hcz13_1,hfz13_0,hfz13_1⟩:=box2 BK155.out;obtain ⟨hcz14_0,hcz14_1,hfz14_0,hfz14_1⟩:=box2 BK156.out))
   go_ret
   exact rZ (pS HB.out)
 ·rw [if_neg c3] at H;have c3b0:(a0_0 == a1_0)=false:=beq_eq_false_iff_ne.mpr c3;have c3b1:(a0_0 != a1_0)=true:=bne_iff_ne.mpr c3;obtain rfl:=Option.some.inj H
  go_enter Try.func135,Try.ntmps135
  go_wp2_with (first|((with_reducible refine gT 2 rfl ?_);refine bE 2 #[.int .i64 a0_0,.int .i64 a0_1] 140 ?_;intro gb155 hg w15 hbox hb;have BK155:=mA hbox;have GW155:=gbpB HB hg;have GE155:=gbpB HB hg;replace HB:=spB HB hb;clear hb hbox hg)|((with_reducible refine gT 3 rfl ?_);refine bE 3 #[.int .i64 a1_0,.int .i64 a1_1] 140 ?_;intro gb156 hg w16 hbox hb;have BK156:=mA hbox;have GW156:=gbpS HB hg;have GE156:=gbpS HB hg;replace HB:=spS HB hb;have NB155_156:=mA (lN (blk_lt (pK BK155.out)) hg);have hN155_156:=NB155_156.out;have NB156_155:=nS NB155_156;have hN156_155:=NB156_155.out;replace BK155:=bK BK155 hb;clear hb hbox hg;obtain ⟨hcz18_0,hcz18_1,hfz18_0,hfz18_1⟩:=box2 BK155.out;obtain ⟨hcz19_0,hcz19_1,hfz19_0,hfz19_1⟩:=box2 BK156.out))
  go_ret
  exact rZ (pS HB.out)
/-! ### laws_eqBlkLastS: function 82 -/
def laws_eqBlkLastS.l0 : Nat → List (S140) → List (S140) → Int → Option (Bool)
 | 0,_,_,_=>none
 | k+1,x0,x1,x5=>if x5<(x0.length:Int) then (if 0≤x5 then (if x5<(x1.length:Int) then ((laws_eqBlkLast.f ((rd_T140 x0 x5).f0) ((rd_T140 x0 x5).f1) ((rd_T140 x1 x5).f0) ((rd_T140 x1 x5).f1)).bind fun t159=>(if t159=true then (laws_eqBlkLastS.l0 k x0 x1 (wrap64 (x5+1))) else (some false))) else (none)) else (none)) else (some true)
def laws_eqBlkLastS.f (k : Nat) (l0 : List (S140)) (l1 : List (S140)) : Option (Bool) := if (l0.length : Int) = (l1.length : Int) then (laws_eqBlkLastS.l0 k l0 l1 0) else (some false)
def laws_eqBlkLastS.T6 : Bool × List (List Nat × List Nat) := (true, [([], []), ([], []), ([0, 1], [0, 1]), ([2], [2]), ([], []), ([], []), ([4, 5], [4, 5]), ([6], [6]), ([3, 7], [3, 7]), ([8], [8])])
def laws_eqBlkLastS.B6 : List Nat := [0, 0, 3, 7, 0, 0, 48, 112, 255, 511]
theorem laws_eqBlkLastS.tab6 : rtab .any (opsOf Try.f82 6) = laws_eqBlkLastS.T6 := by kernel_rfl
theorem laws_eqBlkLastS.bits6 : waitsOk laws_eqBlkLastS.T6.2 laws_eqBlkLastS.B6 = true := by kernel_rfl
set_option maxHeartbeats 8000000 in
set_option maxRecDepth 100000 in
theorem laws_eqBlkLastS.calls {k : Nat} {A0 : Option Addr} {c0 : Nat} {l0 : List (S140)} {A1 : Option Addr} {c1 : Nat} {l1 : List (S140)} {r : Bool} {w : World} (hr0 : Kd.C k140 w A0 l0.length l0) (hc0 : l0.length ≤ c0) (hr1 : Kd.C k140 w A1 l1.length l1) (hc1 : l1.length ≤ c1) (h : laws_eqBlkLastS.f k l0 l1 = some r) :
  Calls Try.prog 82 #[.slice A0 l0.length c0,.slice A1 l1.length c1] w fun e w'=>e=.returned (.bool r)∧Below w.heap.size w w':=by
 have hu140:=Try.underlying140;have HR0:=mA hr0;have HC0:=mA hc0;clear hr0 hc0;have HR1:=mA hr1;have HC1:=mA hc1;clear hr1 hc1;have HB:=mA (Below.refl w.heap.size w);have H:(if (l0.length:Int)=(l1.length:Int) then (laws_eqBlkLastS.l0 k l0 l1 0) else (some false))=some r:=h;clear h
 by_cases c3:(l0.length:Int)=(l1.length:Int)
 ·rw [if_pos c3] at H;have c3b0:((l0.length:Int) == (l1.length:Int))=true:=beq_iff_eq.mpr c3;have c3b1:((l0.length:Int) != (l1.length:Int))=false:=bne_eq_false_iff_eq.mpr c3
  have c3b2:(l0.length == l1.length)=true:=by first|simpa using c3|(simp at c3 ⊢;omega)
  clear c3;have H':=mA H;clear H
  go_enter Try.func82,Try.ntmps82
  go_wp2
  go_loopg [5] k (fun kq v5 w'=>∃ (x5_1:Int),v5=.int .i64 x5_1∧Aside0 (laws_eqBlkLastS.l0 kq l0 l1 x5_1=some r)∧Aside0 (kq≤k)∧Aside0 (Below w.heap.size w w'))
  case atStart=>exact ⟨(0),bZ,H',⟨Nat.le_refl _⟩,⟨pB HB.out⟩⟩
  case round =>
   clear H'
   (try clear c3);(try clear c3b0);(try clear c3b1);(try clear c3b2)
   obtain ⟨x5_1,rfl,HA,HK1,HB⟩:=hrel
   cases gk with
   | zero=>exact absurd HA.out (by simp [laws_eqBlkLastS.l0])
   | succ k1 =>
    have H:=HA.out;clear HA;simp only [laws_eqBlkLastS.l0] at H
    by_cases c4:x5_1<(l0.length:Int)
    ·rw [if_pos c4] at H;have c4b0:decide (x5_1<(l0.length:Int))=true:=decide_eq_true c4;clear c4
     by_cases c5:0≤x5_1
     ·rw [if_pos c5] at H;have c5b0:decide (0≤x5_1)=true:=decide_eq_true c5;clear c5
      by_cases c6:x5_1<(l1.length:Int)
      ·rw [if_pos c6] at H;have c6b0:decide (x5_1<(l1.length:Int))=true:=decide_eq_true c6;clear c6;obtain ⟨t159,A7,H⟩:=bI H;(try dsimp only at H)
       have H0_:=mA H;clear H
       try go_wp2
       replace HB:=mA (below_drew1 HB.out);have p157:0≤(x5_1:Int):=of_decide_eq_true bA;have q157:x5_1<(l0.length:Int):=of_decide_eq_true bA;obtain ⟨ad157,e157,hs157⟩:=at_R140 HR0.out x5_1 p157 q157;cases e157;replace p157:=eq_true p157;replace q157:=eq_true q157;have p158:0≤(x5_1:Int):=of_decide_eq_true bA;have q158:x5_1<(l1.length:Int):=of_decide_eq_true bA;obtain ⟨ad158,e158,hs158⟩:=at_R140 HR1.out x5_1 p158 q158;cases e158;replace p158:=eq_true p158;replace q158:=eq_true q158
       refine start_ (n:=10) (S:=fun w'=>RS w' (ad157.add ((x5_1).toNat * 2)) (d140 (rd_T140 l0 x5_1))∧RS w' (ad158.add ((x5_1).toNat * 2)) (d140 (rd_T140 l1 x5_1))) (ds:=[]) _ aK rfl rfl ⟨rS HB hs157,rS HB hs158⟩ (fun hHeld=>?_);refine with_tabW laws_eqBlkLastS.tab6 laws_eqBlkLastS.bits6 (fun HT_ HW_=>?_)
       generalize wr.drew=w9 at HB hHeld ⊢
       refine qu 0 ?_;refine qu 1 ?_;refine qu 2 ?_;refine qu 4 ?_;refine qu 5 ?_;refine qu 6 ?_;refine qt 3 ?_;refine qt 7 ?_
       refine qo 8 ?_;intro K hK
       refine gD Try.func135 (laws_eqBlkLast.calls A7.out) ?_
       rintro e w10 ⟨rfl,hb⟩;refine ⟨_,rfl,?_⟩;replace HB:=spB HB hb
       (try clear hb)
       refine hK.out _ _ ⟨rS HB hs157,rS HB hs158⟩ (fun hHeld=>?_);clear hK K;refine no_ (some 25) ?_;refine qu 9 ?_;refine qe ?_
       have H:=H0_.out;clear H0_
       by_cases c8:t159=true
       ·subst c8;rw [if_pos rfl] at H;have H':=mA H;clear H
        try go_wp2
        go_roundg k1
        case measure=>have:=HK1.out;omega
        case rel=>exact ⟨(wrap64 (x5_1+1)),bZ,H',⟨by have:=HK1.out;omega⟩,⟨pB HB.out⟩⟩
       ·replace c8:=Bool.eq_false_iff.mpr c8;subst c8
        rw [if_neg nFT] at H
        obtain rfl:=Option.some.inj H
        try go_wp2
        go_ret
        exact rZ (pB HB.out)
      ·rw [if_neg c6] at H
       exact absurd H (by simp)
     ·rw [if_neg c5] at H
      exact absurd H (by simp)
    ·rw [if_neg c4] at H;have c4b0:decide (x5_1<(l0.length:Int))=false:=decide_eq_false c4;clear c4;obtain rfl:=Option.some.inj H
     go_wp2
     go_ret
     exact rZ (pB HB.out)
 ·rw [if_neg c3] at H;have c3b0:((l0.length:Int) == (l1.length:Int))=false:=beq_eq_false_iff_ne.mpr c3;have c3b1:((l0.length:Int) != (l1.length:Int))=true:=bne_iff_ne.mpr c3
  have c3b2:(l0.length == l1.length)=false:=by first|simpa using c3|(simp at c3 ⊢;omega)
  obtain rfl:=Option.some.inj H
  go_enter Try.func82,Try.ntmps82
  go_wp2
  go_ret
  exact rZ (pB HB.out)
end Go.Proofs.Ytoieojmfkkidnaa.P
