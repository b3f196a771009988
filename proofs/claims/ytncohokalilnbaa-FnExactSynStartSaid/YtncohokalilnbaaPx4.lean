-- printed by pprint.py (this session's program over the kit's printer) out of the translation. Lean checks it.
import Derived.Test.YtncohokalilnbaaPx0
import Derived.Test.YtncohokalilnbaaPx3
namespace Go.Proofs.Ytncohokalilnbaa.P
open Go.RowKit Go.Proofs.YtncohokalilnbaaX Go.Proofs.YtncohokalilnbaaW.PrintWords Go.Proofs.YtncohokalilnbaaW.PrintLast Go.Proofs.YtncohokalilnbaaW.PrintMore
attribute [local go_sem] max2_int min2_int max_two min_two max_three min_three max_four min_four   -- for this text's walks alone
set_option linter.unusedVariables false
set_option linter.unusedSimpArgs false

/-! ### laws_eqSynPaper: function 89 -/
def laws_eqSynPaper.f (a0_0 a0_1 a0_2 a0_3 a0_4 a0_5 a0_6 a0_7 a0_8 a0_9 a0_10 a0_11 a1_0 a1_1 a1_2 a1_3 a1_4 a1_5 a1_6 a1_7 a1_8 a1_9 a1_10 a1_11 : Int) : Option (Bool) := if a0_0 = a1_0 then (if a0_1 = a1_1 then ((laws_eqCmd.f a0_2 a0_3 a0_4 a0_5 a0_6 a0_7 a0_8 a0_9 a0_10 a0_11 a1_2 a1_3 a1_4 a1_5 a1_6 a1_7 a1_8 a1_9 a1_10 a1_11).bind fun t125 => (if t125 = true then (some true) else (some false))) else (some false)) else (some false)
set_option maxHeartbeats 8000000 in
set_option maxRecDepth 100000 in
theorem laws_eqSynPaper.calls {a0_0 a0_1 a0_2 a0_3 a0_4 a0_5 a0_6 a0_7 a0_8 a0_9 a0_10 a0_11 a1_0 a1_1 a1_2 a1_3 a1_4 a1_5 a1_6 a1_7 a1_8 a1_9 a1_10 a1_11 : Int} {r : Bool} {w : World} (h : laws_eqSynPaper.f a0_0 a0_1 a0_2 a0_3 a0_4 a0_5 a0_6 a0_7 a0_8 a0_9 a0_10 a0_11 a1_0 a1_1 a1_2 a1_3 a1_4 a1_5 a1_6 a1_7 a1_8 a1_9 a1_10 a1_11 = some r) :
  Calls Try.prog 89 #[.agg #[.int .i64 a0_0,.int .i64 a0_1,.int .i64 a0_2,.int .i64 a0_3,.int .i64 a0_4,.int .i64 a0_5,.int .i64 a0_6,.int .i64 a0_7,.int .i64 a0_8,.int .i64 a0_9,.int .i64 a0_10,.int .i64 a0_11],.agg #[.int .i64 a1_0,.int .i64 a1_1,.int .i64 a1_2,.int .i64 a1_3,.int .i64 a1_4,.int .i64 a1_5,.int .i64 a1_6,.int .i64 a1_7,.int .i64 a1_8,.int .i64 a1_9,.int .i64 a1_10,.int .i64 a1_11]] w fun e w'=>e=.returned (.bool r)∧Below w.heap.size w w':=by
 have hu53:=Try.underlying53;have hu44:=Try.underlying44;have HB:=mA (Below.refl w.heap.size w);have H:(if a0_0=a1_0 then (if a0_1=a1_1 then ((laws_eqCmd.f a0_2 a0_3 a0_4 a0_5 a0_6 a0_7 a0_8 a0_9 a0_10 a0_11 a1_2 a1_3 a1_4 a1_5 a1_6 a1_7 a1_8 a1_9 a1_10 a1_11).bind fun t125=>(if t125=true then (some true) else (some false))) else (some false)) else (some false))=some r:=h;clear h
 by_cases c3:a0_0=a1_0
 ·rw [if_pos c3] at H;obtain ⟨c3b0,c3b1⟩:=eqB c3;clear c3
  by_cases c4:a0_1=a1_1
  ·rw [if_pos c4] at H;obtain ⟨c4b0,c4b1⟩:=eqB c4;clear c4;obtain ⟨t125,A5,H⟩:=bI H;(try dsimp only at H)
   by_cases c6:t125=true
   ·subst c6;rw [if_pos rfl] at H;obtain rfl:=Option.some.inj H
    go_enter Try.func89,Try.ntmps89
    go_wp2_with (first|((with_reducible refine gLg rfl (by assumption) ?_);refine ldV ?_)|((with_reducible refine gSt rfl (by assumption) ?_);refine stV ?_)|((with_reducible refine gT 2 rfl ?_);refine bX 2 ?_;intro gb123 hg w7 hbox hb;have BK123:=mA hbox;have GW123:=gbpB HB hg;have GE123:=gbpB HB hg;replace HB:=spB HB hb;clear hb hbox hg)|((with_reducible refine gT 3 rfl ?_);refine bX 3 ?_;intro gb124 hg w8 hbox hb;have BK124:=mA hbox;have GW124:=gbpS HB hg;have GE124:=gbpS HB hg;replace HB:=spS HB hb;have NB123_124:=mA (lN (blk_lt (pK BK123.out)) hg);have hN123_124:=NB123_124.out;have NB124_123:=nS NB123_124;have hN124_123:=NB124_123.out;replace BK123:=bK BK123 hb;clear hb hbox hg;have hcz10_0:=fun i_=>blk_cell BK123.out i_;have hfz10_0:=fun i_=>blk_frozen BK123.out i_;have hcz11_0:=fun i_=>blk_cell BK124.out i_;have hfz11_0:=fun i_=>blk_frozen BK124.out i_)|((with_reducible refine gT 19 rfl ?_);refine gC (some 19) Try.func21 (laws_eqCmd.calls A5.out) ?_;rintro e w12 ⟨rfl,hb⟩;refine ⟨_,rfl,?_⟩;replace BK123:=bK BK123 hb;replace BK124:=bK BK124 hb;replace HB:=spS HB hb;(try clear hb)))
    go_ret
    exact rZ (pS HB.out)
   ·replace c6:=Bool.eq_false_iff.mpr c6;subst c6
    rw [if_neg nFT] at H
    obtain rfl:=Option.some.inj H
    go_enter Try.func89,Try.ntmps89
    go_wp2_with (first|((with_reducible refine gLg rfl (by assumption) ?_);refine ldV ?_)|((with_reducible refine gSt rfl (by assumption) ?_);refine stV ?_)|((with_reducible refine gT 2 rfl ?_);refine bX 2 ?_;intro gb123 hg w13 hbox hb;have BK123:=mA hbox;have GW123:=gbpB HB hg;have GE123:=gbpB HB hg;replace HB:=spB HB hb;clear hb hbox hg)|((with_reducible refine gT 3 rfl ?_);refine bX 3 ?_;intro gb124 hg w14 hbox hb;have BK124:=mA hbox;have GW124:=gbpS HB hg;have GE124:=gbpS HB hg;replace HB:=spS HB hb;have NB123_124:=mA (lN (blk_lt (pK BK123.out)) hg);have hN123_124:=NB123_124.out;have NB124_123:=nS NB123_124;have hN124_123:=NB124_123.out;replace BK123:=bK BK123 hb;clear hb hbox hg;have hcz16_0:=fun i_=>blk_cell BK123.out i_;have hfz16_0:=fun i_=>blk_frozen BK123.out i_;have hcz17_0:=fun i_=>blk_cell BK124.out i_;have hfz17_0:=fun i_=>blk_frozen BK124.out i_)|((with_reducible refine gT 19 rfl ?_);refine gC (some 19) Try.func21 (laws_eqCmd.calls A5.out) ?_;rintro e w18 ⟨rfl,hb⟩;refine ⟨_,rfl,?_⟩;replace BK123:=bK BK123 hb;replace BK124:=bK BK124 hb;replace HB:=spS HB hb;(try clear hb)))
    go_ret
    exact rZ (pS HB.out)
  ·rw [if_neg c4] at H;have c4b0:(a0_1 == a1_1)=false:=beq_eq_false_iff_ne.mpr c4;have c4b1:(a0_1 != a1_1)=true:=bne_iff_ne.mpr c4;obtain rfl:=Option.some.inj H
   go_enter Try.func89,Try.ntmps89
   go_wp2_with (first|((with_reducible refine gLg rfl (by assumption) ?_);refine ldV ?_)|((with_reducible refine gSt rfl (by assumption) ?_);refine stV ?_)|((with_reducible refine gT 2 rfl ?_);refine bX 2 ?_;intro gb123 hg w19 hbox hb;have BK123:=mA hbox;have GW123:=gbpB HB hg;have GE123:=gbpB HB hg;replace HB:=spB HB hb;clear hb hbox hg)|((with_reducible refine gT 3 rfl ?_);refine bX 3 ?_;intro gb124 hg w20 hbox hb;have BK124:=mA hbox;have GW124:=gbpS HB hg;have GE124:=gbpS HB hg;replace HB:=spS HB hb;have NB123_124:=mA (lN (blk_lt (pK BK123.out)) hg);have hN123_124:=NB123_124.out;have NB124_123:=nS NB123_124;have hN124_123:=NB124_123.out;replace BK123:=bK BK123 hb;clear hb hbox hg;have hcz22_0:=fun i_=>blk_cell BK123.out i_;have hfz22_0:=fun i_=>blk_frozen BK123.out i_;have hcz23_0:=fun i_=>blk_cell BK124.out i_;have hfz23_0:=fun i_=>blk_frozen BK124.out i_))
   go_ret
   exact rZ (pS HB.out)
 ·rw [if_neg c3] at H;have c3b0:(a0_0 == a1_0)=false:=beq_eq_false_iff_ne.mpr c3;have c3b1:(a0_0 != a1_0)=true:=bne_iff_ne.mpr c3;obtain rfl:=Option.some.inj H
  go_enter Try.func89,Try.ntmps89
  go_wp2_with (first|((with_reducible refine gLg rfl (by assumption) ?_);refine ldV ?_)|((with_reducible refine gSt rfl (by assumption) ?_);refine stV ?_)|((with_reducible refine gT 2 rfl ?_);refine bX 2 ?_;intro gb123 hg w24 hbox hb;have BK123:=mA hbox;have GW123:=gbpB HB hg;have GE123:=gbpB HB hg;replace HB:=spB HB hb;clear hb hbox hg)|((with_reducible refine gT 3 rfl ?_);refine bX 3 ?_;intro gb124 hg w25 hbox hb;have BK124:=mA hbox;have GW124:=gbpS HB hg;have GE124:=gbpS HB hg;replace HB:=spS HB hb;have NB123_124:=mA (lN (blk_lt (pK BK123.out)) hg);have hN123_124:=NB123_124.out;have NB124_123:=nS NB123_124;have hN124_123:=NB124_123.out;replace BK123:=bK BK123 hb;clear hb hbox hg;have hcz27_0:=fun i_=>blk_cell BK123.out i_;have hfz27_0:=fun i_=>blk_frozen BK123.out i_;have hcz28_0:=fun i_=>blk_cell BK124.out i_;have hfz28_0:=fun i_=>blk_frozen BK124.out i_))
  go_ret
  exact rZ (pS HB.out)

end Go.Proofs.Ytncohokalilnbaa.P
