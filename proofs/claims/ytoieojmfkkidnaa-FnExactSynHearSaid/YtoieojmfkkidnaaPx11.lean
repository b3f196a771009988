-- printed by pprint.py (this session's program over the kit's printer) out of the translation. Lean checks it.
import Derived.Test.YtoieojmfkkidnaaPx0
import Derived.Test.YtoieojmfkkidnaaPx10
namespace Go.Proofs.Ytoieojmfkkidnaa.P
open Go.RowKit Go.Proofs.YtoieojmfkkidnaaX Go.Proofs.YtoieojmfkkidnaaW.PrintWords Go.Proofs.YtoieojmfkkidnaaW.PrintLast Go.Proofs.YtoieojmfkkidnaaW.PrintMore
attribute [local go_sem] max2_int min2_int max_two min_two max_three min_three max_four min_four   -- for this text's walks alone
set_option linter.unusedVariables false
set_option linter.unusedSimpArgs false
/-! ### spec_l11CmdOk: function 69 -/
def spec_l11CmdOk.f (a0_0 a0_1 a0_2 a0_3 a0_4 a0_5 a0_6 a0_7 a0_8 a0_9 : Int) : Option (Bool) := (spec_l6In.f a0_0 0 7).bind fun t317 => (if t317 = true then ((spec_l11Num.f a0_1).bind fun t318 => (if t318 = true then ((spec_l11Num.f a0_2).bind fun t319 => (if t319 = true then ((spec_l11Num.f a0_3).bind fun t320 => (if t320 = true then ((spec_l11Num.f a0_4).bind fun t321 => (if t321 = true then ((spec_l11Num.f a0_5).bind fun t322 => (if t322 = true then ((spec_l11Num.f a0_6).bind fun t323 => (if t323 = true then ((spec_l11Num.f a0_7).bind fun t324 => (if t324 = true then ((spec_l11Num.f a0_8).bind fun t325 => (if t325 = true then ((spec_l11Num.f a0_9).bind fun t326 => (some t326)) else (some false))) else (some false))) else (some false))) else (some false))) else (some false))) else (some false))) else (some false))) else (some false))) else (some false))
set_option maxHeartbeats 8000000 in
set_option maxRecDepth 100000 in
theorem spec_l11CmdOk.calls {a0_0 a0_1 a0_2 a0_3 a0_4 a0_5 a0_6 a0_7 a0_8 a0_9 : Int} {r : Bool} {w : World} (h : spec_l11CmdOk.f a0_0 a0_1 a0_2 a0_3 a0_4 a0_5 a0_6 a0_7 a0_8 a0_9 = some r) :
  Calls Try.prog 69 #[.agg #[.int .i64 a0_0,.int .i64 a0_1,.int .i64 a0_2,.int .i64 a0_3,.int .i64 a0_4,.int .i64 a0_5,.int .i64 a0_6,.int .i64 a0_7,.int .i64 a0_8,.int .i64 a0_9]] w fun e w'=>e=.returned (.bool r)∧Below w.heap.size w w':=by
 have hu24:=Try.underlying24;have HB:=mA (Below.refl w.heap.size w);have H:((spec_l6In.f a0_0 0 7).bind fun t317=>(if t317=true then ((spec_l11Num.f a0_1).bind fun t318=>(if t318=true then ((spec_l11Num.f a0_2).bind fun t319=>(if t319=true then ((spec_l11Num.f a0_3).bind fun t320=>(if t320=true then ((spec_l11Num.f a0_4).bind fun t321=>(if t321=true then ((spec_l11Num.f a0_5).bind fun t322=>(if t322=true then ((spec_l11Num.f a0_6).bind fun t323=>(if t323=true then ((spec_l11Num.f a0_7).bind fun t324=>(if t324=true then ((spec_l11Num.f a0_8).bind fun t325=>(if t325=true then ((spec_l11Num.f a0_9).bind fun t326=>(some t326)) else (some false))) else (some false))) else (some false))) else (some false))) else (some false))) else (some false))) else (some false))) else (some false))) else (some false)))=some r:=h;clear h;obtain ⟨t317,A2,H⟩:=bI H;(try dsimp only at H)
 by_cases c3:t317=true
 ·subst c3;rw [if_pos rfl] at H;obtain ⟨t318,A4,H⟩:=bI H;(try dsimp only at H)
  by_cases c5:t318=true
  ·subst c5;rw [if_pos rfl] at H;obtain ⟨t319,A6,H⟩:=bI H;(try dsimp only at H)
   by_cases c7:t319=true
   ·subst c7;rw [if_pos rfl] at H;obtain ⟨t320,A8,H⟩:=bI H;(try dsimp only at H)
    by_cases c9:t320=true
    ·subst c9;rw [if_pos rfl] at H;obtain ⟨t321,A10,H⟩:=bI H;(try dsimp only at H)
     by_cases c11:t321=true
     ·subst c11;rw [if_pos rfl] at H;obtain ⟨t322,A12,H⟩:=bI H;(try dsimp only at H)
      by_cases c13:t322=true
      ·subst c13;rw [if_pos rfl] at H;obtain ⟨t323,A14,H⟩:=bI H;(try dsimp only at H)
       by_cases c15:t323=true
       ·subst c15;rw [if_pos rfl] at H;obtain ⟨t324,A16,H⟩:=bI H;(try dsimp only at H)
        by_cases c17:t324=true
        ·subst c17;rw [if_pos rfl] at H;obtain ⟨t325,A18,H⟩:=bI H;(try dsimp only at H)
         by_cases c19:t325=true
         ·subst c19;rw [if_pos rfl] at H;obtain ⟨t326,A20,H⟩:=bI H;(try dsimp only at H);obtain rfl:=Option.some.inj H
          go_enter Try.func69,Try.ntmps69
          go_wp2_with (first|((with_reducible refine gLg rfl (by assumption) ?_);refine ldV ?_)|((with_reducible refine gSt rfl (by assumption) ?_);refine stV ?_)|((with_reducible refine gT 1 rfl ?_);refine bX 1 ?_;intro gb316 hg w21 hbox hb;have BK316:=mA hbox;have GW316:=gbpB HB hg;have GE316:=gbpB HB hg;replace HB:=spB HB hb;clear hb hbox hg;have hcz22_0:=fun i_=>blk_cell BK316.out i_;have hfz22_0:=fun i_=>blk_frozen BK316.out i_)|((with_reducible refine gT 5 rfl ?_);refine gC (some 5) Try.func67 (spec_l6In.calls A2.out) ?_;rintro e w' ⟨rfl,⟨nd,rfl⟩⟩;refine ⟨_,rfl,?_⟩)|(go_at_call 66;(with_reducible refine (spec_l11Num.calls A4.out).mono ?_);rintro e w' ⟨rfl,⟨nd,rfl⟩⟩)|(go_at_call 66;(with_reducible refine (spec_l11Num.calls A6.out).mono ?_);rintro e w' ⟨rfl,⟨nd,rfl⟩⟩)|(go_at_call 66;(with_reducible refine (spec_l11Num.calls A8.out).mono ?_);rintro e w' ⟨rfl,⟨nd,rfl⟩⟩)|(go_at_call 66;(with_reducible refine (spec_l11Num.calls A10.out).mono ?_);rintro e w' ⟨rfl,⟨nd,rfl⟩⟩)|(go_at_call 66;(with_reducible refine (spec_l11Num.calls A12.out).mono ?_);rintro e w' ⟨rfl,⟨nd,rfl⟩⟩)|(go_at_call 66;(with_reducible refine (spec_l11Num.calls A14.out).mono ?_);rintro e w' ⟨rfl,⟨nd,rfl⟩⟩)|(go_at_call 66;(with_reducible refine (spec_l11Num.calls A16.out).mono ?_);rintro e w' ⟨rfl,⟨nd,rfl⟩⟩)|(go_at_call 66;(with_reducible refine (spec_l11Num.calls A18.out).mono ?_);rintro e w' ⟨rfl,⟨nd,rfl⟩⟩)|(go_at_call 66;(with_reducible refine (spec_l11Num.calls A20.out).mono ?_);rintro e w' ⟨rfl,⟨nd,rfl⟩⟩))
          go_ret
          exact rZ (pS HB.out)
         ·replace c19:=Bool.eq_false_iff.mpr c19;subst c19
          rw [if_neg nFT] at H
          obtain rfl:=Option.some.inj H
          go_enter Try.func69,Try.ntmps69
          go_wp2_with (first|((with_reducible refine gLg rfl (by assumption) ?_);refine ldV ?_)|((with_reducible refine gSt rfl (by assumption) ?_);refine stV ?_)|((with_reducible refine gT 1 rfl ?_);refine bX 1 ?_;intro gb316 hg w23 hbox hb;have BK316:=mA hbox;have GW316:=gbpB HB hg;have GE316:=gbpB HB hg;replace HB:=spB HB hb;clear hb hbox hg;have hcz24_0:=fun i_=>blk_cell BK316.out i_;have hfz24_0:=fun i_=>blk_frozen BK316.out i_)|((with_reducible refine gT 5 rfl ?_);refine gC (some 5) Try.func67 (spec_l6In.calls A2.out) ?_;rintro e w' ⟨rfl,⟨nd,rfl⟩⟩;refine ⟨_,rfl,?_⟩)|(go_at_call 66;(with_reducible refine (spec_l11Num.calls A4.out).mono ?_);rintro e w' ⟨rfl,⟨nd,rfl⟩⟩)|(go_at_call 66;(with_reducible refine (spec_l11Num.calls A6.out).mono ?_);rintro e w' ⟨rfl,⟨nd,rfl⟩⟩)|(go_at_call 66;(with_reducible refine (spec_l11Num.calls A8.out).mono ?_);rintro e w' ⟨rfl,⟨nd,rfl⟩⟩)|(go_at_call 66;(with_reducible refine (spec_l11Num.calls A10.out).mono ?_);rintro e w' ⟨rfl,⟨nd,rfl⟩⟩)|(go_at_call 66;(with_reducible refine (spec_l11Num.calls A12.out).mono ?_);rintro e w' ⟨rfl,⟨nd,rfl⟩⟩)|(go_at_call 66;(with_reducible refine (spec_l11Num.calls A14.out).mono ?_);rintro e w' ⟨rfl,⟨nd,rfl⟩⟩)|(go_at_call 66;(with_reducible refine (spec_l11Num.calls A16.out).mono ?_);rintro e w' ⟨rfl,⟨nd,rfl⟩⟩)|(go_at_call 66;(with_reducible refine (spec_l11Num.calls A18.out).mono ?_);rintro e w' ⟨rfl,⟨nd,rfl⟩⟩))
          go_ret
          exact rZ (pS HB.out)
        ·replace c17:=Bool.eq_false_iff.mpr c17;subst c17
         rw [if_neg nFT] at H
         obtain rfl:=Option.some.inj H
         go_enter Try.func69,Try.ntmps69
         go_wp2_with (first|((with_reducible refine gLg rfl (by assumption) ?_);refine ldV ?_)|((with_reducible refine gSt rfl (by assumption) ?_);refine stV ?_)|((with_reducible refine gT 1 rfl ?_);refine bX 1 ?_;intro gb316 hg w25 hbox hb;have BK316:=mA hbox;have GW316:=gbpB HB hg;have GE316:=gbpB HB hg;replace HB:=spB HB hb;clear hb hbox hg;have hcz26_0:=fun i_=>blk_cell BK316.out i_;have hfz26_0:=fun i_=>blk_frozen BK316.out i_)|((with_reducible refine gT 5 rfl ?_);refine gC (some 5) Try.func67 (spec_l6In.calls A2.out) ?_;rintro e w' ⟨rfl,⟨nd,rfl⟩⟩;refine ⟨_,rfl,?_⟩)|(go_at_call 66;(with_reducible refine (spec_l11Num.calls A4.out).mono ?_);rintro e w' ⟨rfl,⟨nd,rfl⟩⟩)|(go_at_call 66;(with_reducible refine (spec_l11Num.calls A6.out).mono ?_);rintro e w' ⟨rfl,⟨nd,rfl⟩⟩)|(go_at_call 66;(with_reducible refine (spec_l11Num.calls A8.out).mono ?_);rintro e w' ⟨rfl,⟨nd,rfl⟩⟩)|(go_at_call 66;(with_reducible refine (spec_l11Num.calls A10.out).mono ?_);rintro e w' ⟨rfl,⟨nd,rfl⟩⟩)|(go_at_call 66;(with_reducible refine (spec_l11Num.calls A12.out).mono ?_);rintro e w' ⟨rfl,⟨nd,rfl⟩⟩)|(go_at_call 66;(with_reducible refine (spec_l11Num.calls A14.out).mono ?_);rintro e w' ⟨rfl,⟨nd,rfl⟩⟩)|(go_at_call 66;(with_reducible refine (spec_l11Num.calls A16.out).mono ?_);rintro e w' ⟨rfl,⟨nd,rfl⟩⟩))
         go_ret
         exact rZ (pS HB.out)
       ·replace c15:=Bool.eq_false_iff.mpr c15;subst c15
        rw [if_neg nFT] at H
        obtain rfl:=Option.some.inj H
        go_enter Try.func69,Try.ntmps69
        go_wp2_with (first|((with_reducible refine gLg rfl (by assumption) ?_);refine ldV ?_)|((with_reducible refine gSt rfl (by assumption) ?_);refine stV ?_)|((with_reducible refine gT 1 rfl ?_);refine bX 1 ?_;intro gb316 hg w27 hbox hb;have BK316:=mA hbox;have GW316:=gbpB HB hg;have GE316:=gbpB HB hg;replace HB:=spB HB hb;clear hb hbox hg;have hcz28_0:=fun i_=>blk_cell BK316.out i_;have hfz28_0:=fun i_=>blk_frozen BK316.out i_)|((with_reducible refine gT 5 rfl ?_);refine gC (some 5) Try.func67 (spec_l6In.calls A2.out) ?_;rintro e w' ⟨rfl,⟨nd,rfl⟩⟩;refine ⟨_,rfl,?_⟩)|(go_at_call 66;(with_reducible refine (spec_l11Num.calls A4.out).mono ?_);rintro e w' ⟨rfl,⟨nd,rfl⟩⟩)|(go_at_call 66;(with_reducible refine (spec_l11Num.calls A6.out).mono ?_);rintro e w' ⟨rfl,⟨nd,rfl⟩⟩)|(go_at_call 66;(with_reducible refine (spec_l11Num.calls A8.out).mono ?_);rintro e w' ⟨rfl,⟨nd,rfl⟩⟩)|(go_at_call 66;(with_reducible refine (spec_l11Num.calls A10.out).mono ?_);rintro e w' ⟨rfl,⟨nd,rfl⟩⟩)|(go_at_call 66;(with_reducible refine (spec_l11Num.calls A12.out).mono ?_);rintro e w' ⟨rfl,⟨nd,rfl⟩⟩)|(go_at_call 66;(with_reducible refine (spec_l11Num.calls A14.out).mono ?_);rintro e w' ⟨rfl,⟨nd,rfl⟩⟩))
        go_ret
        exact rZ (pS HB.out)
      ·replace c13:=Bool.eq_false_iff.mpr c13;subst c13
       rw [if_neg nFT] at H
       obtain rfl:=Option.some.inj H
       go_enter Try.func69,Try.ntmps69
       go_wp2_with (first|((with_reducible refine gLg rfl (by assumption) ?_);refine ldV ?_)|((with_reducible refine gSt rfl (by assumption) ?_);refine stV ?_)|((with_reducible refine gT 1 rfl ?_);refine bX 1 ?_;intro gb316 hg w29 hbox hb;have BK316:=mA hbox;have GW316:=gbpB HB hg;have GE316:=gbpB HB hg;replace HB:=spB HB hb;clear hb hbox hg;have hcz30_0:=fun i_=>blk_cell BK316.out i_;have hfz30_0:=fun i_=>blk_frozen BK316.out i_)|((with_reducible refine gT 5 rfl ?_);refine gC (some 5) Try.func67 (spec_l6In.calls A2.out) ?_;rintro e w' ⟨rfl,⟨nd,rfl⟩⟩;refine ⟨_,rfl,?_⟩)|(go_at_call 66;(with_reducible refine (spec_l11Num.calls A4.out).mono ?_);rintro e w' ⟨rfl,⟨nd,rfl⟩⟩)|(go_at_call 66;(with_reducible refine (spec_l11Num.calls A6.out).mono ?_);rintro e w' ⟨rfl,⟨nd,rfl⟩⟩)|(go_at_call 66;(with_reducible refine (spec_l11Num.calls A8.out).mono ?_);rintro e w' ⟨rfl,⟨nd,rfl⟩⟩)|(go_at_call 66;(with_reducible refine (spec_l11Num.calls A10.out).mono ?_);rintro e w' ⟨rfl,⟨nd,rfl⟩⟩)|(go_at_call 66;(with_reducible refine (spec_l11Num.calls A12.out).mono ?_);rintro e w' ⟨rfl,⟨nd,rfl⟩⟩))
       go_ret
       exact rZ (pS HB.out)
     ·replace c11:=Bool.eq_false_iff.mpr c11;subst c11
      rw [if_neg nFT] at H
      obtain rfl:=Option.some.inj H
      go_enter Try.func69,Try.ntmps69
      go_wp2_with (first|((with_reducible refine gLg rfl (by assumption) ?_);refine ldV ?_)|((with_reducible refine gSt rfl (by assumption) ?_);refine stV ?_)|((with_reducible refine gT 1 rfl ?_);refine bX 1 ?_;intro gb316 hg w31 hbox hb;have BK316:=mA hbox;have GW316:=gbpB HB hg;have GE316:=gbpB HB hg;replace HB:=spB HB hb;clear hb hbox hg;have hcz32_0:=fun i_=>blk_cell BK316.out i_;have hfz32_0:=fun i_=>blk_frozen BK316.out i_)|((with_reducible refine gT 5 rfl ?_);refine gC (some 5) Try.func67 (spec_l6In.calls A2.out) ?_;rintro e w' ⟨rfl,⟨nd,rfl⟩⟩;refine ⟨_,rfl,?_⟩)|(go_at_call 66;(with_reducible refine (spec_l11Num.calls A4.out).mono ?_);rintro e w' ⟨rfl,⟨nd,rfl⟩⟩)|(go_at_call 66;(with_reducible refine (spec_l11Num.calls A6.out).mono ?_);rintro e w' ⟨rfl,⟨nd,rfl⟩⟩)|(go_at_call 66;(with_reducible refine (spec_l11Num.calls A8.out).mono ?_);rintro e w' ⟨rfl,⟨nd,rfl⟩⟩)|(go_at_call 66;(with_reducible refine (spec_l11Num.calls A10.out).mono ?_);rintro e w' ⟨rfl,⟨nd,rfl⟩⟩))
      go_ret
      exact rZ (pS HB.out)
    ·replace c9:=Bool.eq_false_iff.mpr c9;subst c9
     rw [if_neg nFT] at H
     obtain rfl:=Option.some.inj H
     go_enter Try.func69,Try.ntmps69
     go_wp2_with (first|((with_reducible refine gLg rfl (by assumption) ?_);refine ldV ?_)|((with_reducible refine gSt rfl (by assumption) ?_);refine stV ?_)|((with_reducible refine gT 1 rfl ?_);refine bX 1 ?_;intro gb316 hg w33 hbox hb;have BK316:=mA hbox;have GW316:=gbpB HB hg;have GE316:=gbpB HB hg;replace HB:=spB HB hb;clear hb hbox hg;have hcz34_0:=fun i_=>blk_cell BK316.out i_;have hfz34_0:=fun i_=>blk_frozen BK316.out i_)|((with_reducible refine gT 5 rfl ?_);refine gC (some 5) Try.func67 (spec_l6In.calls A2.out) ?_;rintro e w' ⟨rfl,⟨nd,rfl⟩⟩;refine ⟨_,rfl,?_⟩)|(go_at_call 66;(with_reducible refine (spec_l11Num.calls A4.out).mono ?_);rintro e w' ⟨rfl,⟨nd,rfl⟩⟩)|(go_at_call 66;(with_reducible refine (spec_l11Num.calls A6.out).mono ?_);rintro e w' ⟨rfl,⟨nd,rfl⟩⟩)|(go_at_call 66;(with_reducible refine (spec_l11Num.calls A8.out).mono ?_);rintro e w' ⟨rfl,⟨nd,rfl⟩⟩))
     go_ret
     exact rZ (pS HB.out)
   ·replace c7:=Bool.eq_false_iff.mpr c7;subst c7
    rw [if_neg nFT] at H
    obtain rfl:=Option.some.inj H
    go_enter Try.func69,Try.ntmps69
    go_wp2_with (first|((with_reducible refine gLg rfl (by assumption) ?_);refine ldV ?_)|((with_reducible refine gSt rfl (by assumption) ?_);refine stV ?_)|((with_reducible refine gT 1 rfl ?_);refine bX 1 ?_;intro gb316 hg w35 hbox hb;have BK316:=mA hbox;have GW316:=gbpB HB hg;have GE316:=gbpB HB hg;replace HB:=spB HB hb;clear hb hbox hg;have hcz36_0:=fun i_=>blk_cell BK316.out i_;have hfz36_0:=fun i_=>blk_frozen BK316.out i_)|((with_reducible refine gT 5 rfl ?_);refine gC (some 5) Try.func67 (spec_l6In.calls A2.out) ?_;rintro e w' ⟨rfl,⟨nd,rfl⟩⟩;refine ⟨_,rfl,?_⟩)|(go_at_call 66;(with_reducible refine (spec_l11Num.calls A4.out).mono ?_);rintro e w' ⟨rfl,⟨nd,rfl⟩⟩)|(go_at_call 66;(with_reducible refine (spec_l11Num.calls A6.out).mono ?_);rintro e w' ⟨rfl,⟨nd,rfl⟩⟩))
    go_ret
    exact rZ (pS HB.out)
  ·replace c5:=Bool.eq_false_iff.mpr c5;subst c5
   rw [if_neg nFT] at H
   obtain rfl:=Option.some.inj H
   go_enter Try.func69,Try.ntmps69
   go_wp2_with (first|((with_reducible refine gLg rfl (by assumption) ?_);refine ldV ?_)|((with_reducible refine gSt rfl (by assumption) ?_);refine stV ?_)|((with_reducible refine gT 1 rfl ?_);refine bX 1 ?_;intro gb316 hg w37 hbox hb;have BK316:=mA hbox;have GW316:=gbpB HB hg;have GE316:=gbpB HB hg;replace HB:=spB HB hb;clear hb hbox hg;have hcz38_0:=fun i_=>blk_cell BK316.out i_;have hfz38_0:=fun i_=>blk_frozen BK316.out i_)|((with_reducible refine gT 5 rfl ?_);refine gC (some 5) Try.func67 (spec_l6In.calls A2.out) ?_;rintro e w' ⟨rfl,⟨nd,rfl⟩⟩;refine ⟨_,rfl,?_⟩)|(go_at_call 66;(with_reducible refine (spec_l11Num.calls A4.out).mono ?_);rintro e w' ⟨rfl,⟨nd,rfl⟩⟩))
   go_ret
   exact rZ (pS HB.out)
 ·replace c3:=Bool.eq_false_iff.mpr c3;subst c3
  rw [if_neg nFT] at H
  obtain rfl:=Option.some.inj H
  go_enter Try.func69,Try.ntmps69
  go_wp2_with (first|((with_reducible refine gLg rfl (by assumption) ?_);refine ldV ?_)|((with_reducible refine gSt rfl (by assumption) ?_);refine stV ?_)|((with_reducible refine gT 1 rfl ?_);refine bX 1 ?_;intro gb316 hg w39 hbox hb;have BK316:=mA hbox;have GW316:=gbpB HB hg;have GE316:=gbpB HB hg;replace HB:=spB HB hb;clear hb hbox hg;have hcz40_0:=fun i_=>blk_cell BK316.out i_;have hfz40_0:=fun i_=>blk_frozen BK316.out i_)|((with_reducible refine gT 5 rfl ?_);refine gC (some 5) Try.func67 (spec_l6In.calls A2.out) ?_;rintro e w' ⟨rfl,⟨nd,rfl⟩⟩;refine ⟨_,rfl,?_⟩))
  go_ret
  exact rZ (pS HB.out)
/-! ### spec_l3Before: function 129 -/
def spec_l3Before.f (a0_0 a0_1 a0_2 a0_3 a1 a2 a3 : Int) : Option (Bool) := if a0_0 = a1 then (if a0_1 = a2 then (some (decide (a0_2 < a3))) else (some (decide (a0_1 < a2)))) else (some (decide (a0_0 < a1)))
set_option maxHeartbeats 8000000 in
set_option maxRecDepth 100000 in
theorem spec_l3Before.calls {a0_0 a0_1 a0_2 a0_3 a1 a2 a3 : Int} {r : Bool} {w : World} (h : spec_l3Before.f a0_0 a0_1 a0_2 a0_3 a1 a2 a3 = some r) :
  Calls Try.prog 129 #[.agg #[.int .i64 a0_0,.int .i64 a0_1,.int .i64 a0_2,.int .i64 a0_3],.int .i64 a1,.int .i64 a2,.int .i64 a3] w fun e w'=>e=.returned (.bool r)∧Below w.heap.size w w':=by
 have hu138:=Try.underlying138;have HB:=mA (Below.refl w.heap.size w);have H:(if a0_0=a1 then (if a0_1=a2 then (some (decide (a0_2<a3))) else (some (decide (a0_1<a2)))) else (some (decide (a0_0<a1))))=some r:=h;clear h
 by_cases c5:a0_0=a1
 ·rw [if_pos c5] at H;obtain ⟨c5b0,c5b1⟩:=eqB c5;clear c5
  by_cases c6:a0_1=a2
  ·rw [if_pos c6] at H;obtain ⟨c6b0,c6b1⟩:=eqB c6;clear c6;obtain rfl:=Option.some.inj H
   go_enter Try.func129,Try.ntmps129
   go_wp2_with (first|((with_reducible refine gT 4 rfl ?_);refine bX 4 ?_;intro gb327 hg w7 hbox hb;have BK327:=mA hbox;have GW327:=gbpB HB hg;have GE327:=gbpB HB hg;replace HB:=spB HB hb;clear hb hbox hg;obtain ⟨hcz8_0,hcz8_1,hcz8_2,hcz8_3,hfz8_0,hfz8_1,hfz8_2,hfz8_3⟩:=box4 BK327.out))
   go_ret
   exact rZ (pS HB.out)
  ·rw [if_neg c6] at H;have c6b0:(a0_1 == a2)=false:=beq_eq_false_iff_ne.mpr c6;have c6b1:(a0_1 != a2)=true:=bne_iff_ne.mpr c6;obtain rfl:=Option.some.inj H
   go_enter Try.func129,Try.ntmps129
   go_wp2_with (first|((with_reducible refine gT 4 rfl ?_);refine bX 4 ?_;intro gb327 hg w9 hbox hb;have BK327:=mA hbox;have GW327:=gbpB HB hg;have GE327:=gbpB HB hg;replace HB:=spB HB hb;clear hb hbox hg;obtain ⟨hcz10_0,hcz10_1,hcz10_2,hcz10_3,hfz10_0,hfz10_1,hfz10_2,hfz10_3⟩:=box4 BK327.out))
   go_ret
   exact rZ (pS HB.out)
 ·rw [if_neg c5] at H;have c5b0:(a0_0 == a1)=false:=beq_eq_false_iff_ne.mpr c5;have c5b1:(a0_0 != a1)=true:=bne_iff_ne.mpr c5;obtain rfl:=Option.some.inj H
  go_enter Try.func129,Try.ntmps129
  go_wp2_with (first|((with_reducible refine gT 4 rfl ?_);refine bX 4 ?_;intro gb327 hg w11 hbox hb;have BK327:=mA hbox;have GW327:=gbpB HB hg;have GE327:=gbpB HB hg;replace HB:=spB HB hb;clear hb hbox hg;obtain ⟨hcz12_0,hcz12_1,hcz12_2,hcz12_3,hfz12_0,hfz12_1,hfz12_2,hfz12_3⟩:=box4 BK327.out))
  go_ret
  exact rZ (pS HB.out)
/-! ### spec_BlkOk: function 70 -/
mutual
def spec_BlkOk.l0 : Nat → List (S138) → Int → Option (Bool)
 | 0,_,_=>none
 | k+1,x0,x3=>if x3<(x0.length:Int) then (if 0≤x3 then ((spec_l6In.f ((rd_T138 x0 x3).f0) 1 99999).bind fun t330=>(if t330=true then ((spec_l6In.f ((rd_T138 x0 x3).f1) 0 99999).bind fun t331=>(if t331=true then ((spec_l6In.f ((rd_T138 x0 x3).f2) 1 99999).bind fun t332=>(if t332=true then ((spec_l6In.f ((rd_T138 x0 x3).f3) 0 99999).bind fun t333=>(spec_BlkOk.j1 k x0 x3 (!t333) ((rd_T138 x0 x3).f0) ((rd_T138 x0 x3).f1) ((rd_T138 x0 x3).f2) ((rd_T138 x0 x3).f3))) else (spec_BlkOk.j1 k x0 x3 true ((rd_T138 x0 x3).f0) ((rd_T138 x0 x3).f1) ((rd_T138 x0 x3).f2) ((rd_T138 x0 x3).f3)))) else (spec_BlkOk.j1 k x0 x3 true ((rd_T138 x0 x3).f0) ((rd_T138 x0 x3).f1) ((rd_T138 x0 x3).f2) ((rd_T138 x0 x3).f3)))) else (spec_BlkOk.j1 k x0 x3 true ((rd_T138 x0 x3).f0) ((rd_T138 x0 x3).f1) ((rd_T138 x0 x3).f2) ((rd_T138 x0 x3).f3)))) else (none)) else (some true)
def spec_BlkOk.j1 : Nat → List (S138) → Int → Bool → Int → Int → Int → Int → Option (Bool)
 | 0,_,_,_,_,_,_,_=>none
 | k+1,x0,x3,x39,x330000,x330001,x330002,x330003=>if x39=true then (some false) else (if x3 > 0 then (if 0≤(wrap64 (x3 - 1)) then (if (wrap64 (x3 - 1))<(x0.length:Int) then ((spec_l3Before.f ((rd_T138 x0 (wrap64 (x3 - 1))).f0) ((rd_T138 x0 (wrap64 (x3 - 1))).f1) ((rd_T138 x0 (wrap64 (x3 - 1))).f2) ((rd_T138 x0 (wrap64 (x3 - 1))).f3) x330000 x330001 x330002).bind fun t335=>(if t335=true then (spec_BlkOk.l0 k x0 (wrap64 (x3+1))) else (some false))) else (none)) else (none)) else (spec_BlkOk.l0 k x0 (wrap64 (x3+1))))
end
def spec_BlkOk.f (k : Nat) (l0 : List (S138)) : Option (Bool) := if (l0.length : Int) > 60 then (some false) else (spec_BlkOk.l0 k l0 0)
def spec_BlkOk.T9 : Bool × List (List Nat × List Nat) := (true, [([], []), ([0], [0]), ([1], [1]), ([2], [2]), ([2], [2]), ([4, 2], [2, 4]), ([3, 5, 2], [2, 3, 5]), ([6, 2], [2, 6]), ([2], [2]), ([8, 2], [2, 8]), ([2], [2]), ([10, 2], [2, 10]), ([2], [2]), ([12, 2], [2, 12]), ([7, 9, 11, 13, 2, 2], [2, 7, 9, 11, 13]), ([14, 2], [2, 14]), ([2, 15], [2, 15])])
def spec_BlkOk.B9 : List Nat := [0, 1, 3, 7, 7, 23, 63, 127, 7, 263, 7, 1031, 7, 4103, 16383, 32767, 65535]
theorem spec_BlkOk.tab9 : rtab .any (opsOf Try.f70 9) = spec_BlkOk.T9 := by kernel_rfl
theorem spec_BlkOk.bits9 : waitsOk spec_BlkOk.T9.2 spec_BlkOk.B9 = true := by kernel_rfl
set_option maxHeartbeats 8000000 in
set_option maxRecDepth 100000 in
theorem spec_BlkOk.calls {k : Nat} {A0 : Option Addr} {c0 : Nat} {l0 : List (S138)} {r : Bool} {w : World} (hr0 : Kd.C k138 w A0 l0.length l0) (hc0 : l0.length ≤ c0) (h : spec_BlkOk.f k l0 = some r) :
  Calls Try.prog 70 #[.slice A0 l0.length c0] w fun e w'=>e=.returned (.bool r)∧Below w.heap.size w w':=by
 have hu138:=Try.underlying138;have HR0:=mA hr0;have HC0:=mA hc0;clear hr0 hc0;have HB:=mA (Below.refl w.heap.size w);have H:(if (l0.length:Int) > 60 then (some false) else (spec_BlkOk.l0 k l0 0))=some r:=h;clear h
 by_cases c2:(l0.length:Int) > 60
 ·rw [if_pos c2] at H;have c2b0:decide (60<(l0.length:Int))=true:=decide_eq_true c2
  have c2b1:decide (60<l0.length)=true:=decide_eq_true (by omega)
  clear c2;obtain rfl:=Option.some.inj H
  go_enter Try.func70,Try.ntmps70
  go_wp2
  go_ret
  exact rZ (pB HB.out)
 ·rw [if_neg c2] at H;have c2b0:decide (60<(l0.length:Int))=false:=decide_eq_false c2
  have c2b1:decide (60<l0.length)=false:=decide_eq_false (by omega)
  clear c2;have H':=mA H;clear H
  go_enter Try.func70,Try.ntmps70
  go_wp2
  go_loopg [3] k (fun kq v3 w'=>∃ (x3_1:Int),v3=.int .i64 x3_1∧Aside0 (spec_BlkOk.l0 kq l0 x3_1=some r)∧Aside0 (kq≤k)∧Aside0 (Below w.heap.size w w'))
  case atStart=>exact ⟨(0),bZ,H',⟨Nat.le_refl _⟩,⟨pB HB.out⟩⟩
  case round =>
   clear H'
   (try clear c2);(try clear c2b0);(try clear c2b1)
   obtain ⟨x3_1,rfl,HA,HK1,HB⟩:=hrel
   cases gk with
   | zero=>exact absurd HA.out (by simp [spec_BlkOk.l0])
   | succ k1 =>
    have H:=HA.out;clear HA;simp only [spec_BlkOk.l0] at H
    by_cases c3:x3_1<(l0.length:Int)
    ·rw [if_pos c3] at H;have c3b0:decide (x3_1<(l0.length:Int))=true:=decide_eq_true c3;clear c3
     by_cases c4:0≤x3_1
     ·rw [if_pos c4] at H;have c4b0:decide (0≤x3_1)=true:=decide_eq_true c4;clear c4;have HC5:=mA H;clear H;have p328:0≤(x3_1:Int):=of_decide_eq_true bA;have q328:x3_1<(l0.length:Int):=of_decide_eq_true bA;obtain ⟨ad328,e328,hx328_0,hx328_1,hx328_2,hx328_3⟩:=at_T138 HR0.out x3_1 p328 q328;cases e328;replace hx328_0:=hC HB hx328_0;replace hx328_1:=hC HB hx328_1;replace hx328_2:=hC HB hx328_2;replace hx328_3:=hC HB hx328_3;replace p328:=eq_true p328;replace q328:=eq_true q328
      go_upto_region 7 with (first|((with_reducible refine gT 4 rfl ?_);refine bJ 4 y138 ?_;intro gb329 hg w6 hbox hb;have BK329:=mA hbox;have GW329:=gbpB HB hg;have GE329:=gbpB HB hg;replace HB:=spB HB hb;clear hb hbox hg;obtain ⟨hcz7_0,hcz7_1,hcz7_2,hcz7_3,hfz7_0,hfz7_1,hfz7_2,hfz7_3⟩:=box4 BK329.out))
      (try simp only [Act.put,List.setIfInBounds_toArray,List.set_cons_zero,List.set_cons_succ])
      go_cut [39] (fun v39 wc=>∃ (kq:Nat) (x39_4:Bool),v39=.bool x39_4∧Aside0 (spec_BlkOk.j1 kq l0 x3_1 x39_4 ((rd_T138 l0 x3_1).f0) ((rd_T138 l0 x3_1).f1) ((rd_T138 l0 x3_1).f2) ((rd_T138 l0 x3_1).f3)=some r)∧Aside0 (kq≤k1)∧Aside0 (wc.heap[gb329]?=some (.cells #[.int .i64 ((rd_T138 l0 x3_1).f0),.int .i64 ((rd_T138 l0 x3_1).f1),.int .i64 ((rd_T138 l0 x3_1).f2),.int .i64 ((rd_T138 l0 x3_1).f3)] 138 (0,0)))∧Aside0 (Below w.heap.size w wc))
      case first =>
       have H:=HC5.out;clear HC5;obtain ⟨t330,A8,H⟩:=bI H;(try dsimp only at H)
       by_cases c9:t330=true
       ·subst c9;rw [if_pos rfl] at H;obtain ⟨t331,A10,H⟩:=bI H;(try dsimp only at H)
        by_cases c11:t331=true
        ·subst c11;rw [if_pos rfl] at H;obtain ⟨t332,A12,H⟩:=bI H;(try dsimp only at H)
         by_cases c13:t332=true
         ·subst c13;rw [if_pos rfl] at H;obtain ⟨t333,A14,H⟩:=bI H;(try dsimp only at H);have H':=mA H;clear H;obtain ⟨hcz15_0,hcz15_1,hcz15_2,hcz15_3,hfz15_0,hfz15_1,hfz15_2,hfz15_3⟩:=box4 BK329.out
          go_wp2_with (first|((with_reducible refine gT 20 rfl ?_);refine gC (some 20) Try.func67 (spec_l6In.calls A8.out) ?_;rintro e w' ⟨rfl,⟨nd,rfl⟩⟩;refine ⟨_,rfl,?_⟩)|(go_at_call 67;(with_reducible refine (spec_l6In.calls A10.out).mono ?_);rintro e w' ⟨rfl,⟨nd,rfl⟩⟩)|(go_at_call 67;(with_reducible refine (spec_l6In.calls A12.out).mono ?_);rintro e w' ⟨rfl,⟨nd,rfl⟩⟩)|(go_at_call 67;(with_reducible refine (spec_l6In.calls A14.out).mono ?_);rintro e w' ⟨rfl,⟨nd,rfl⟩⟩))
          go_meet
          case rel=>exact ⟨_,(!t333),bZ,H',⟨by have:=HK1.out;first|omega|exact Nat.le_refl _⟩,⟨pP BK329⟩,⟨pS HB.out⟩⟩
         ·replace c13:=Bool.eq_false_iff.mpr c13;subst c13
          rw [if_neg nFT] at H
          have H':=mA H;clear H;obtain ⟨hcz16_0,hcz16_1,hcz16_2,hcz16_3,hfz16_0,hfz16_1,hfz16_2,hfz16_3⟩:=box4 BK329.out
          go_wp2_with (first|((with_reducible refine gT 20 rfl ?_);refine gC (some 20) Try.func67 (spec_l6In.calls A8.out) ?_;rintro e w' ⟨rfl,⟨nd,rfl⟩⟩;refine ⟨_,rfl,?_⟩)|(go_at_call 67;(with_reducible refine (spec_l6In.calls A10.out).mono ?_);rintro e w' ⟨rfl,⟨nd,rfl⟩⟩)|(go_at_call 67;(with_reducible refine (spec_l6In.calls A12.out).mono ?_);rintro e w' ⟨rfl,⟨nd,rfl⟩⟩))
          go_meet
          case rel=>exact ⟨_,(true),bZ,H',⟨by have:=HK1.out;first|omega|exact Nat.le_refl _⟩,⟨pP BK329⟩,⟨pS HB.out⟩⟩
        ·replace c11:=Bool.eq_false_iff.mpr c11;subst c11
         rw [if_neg nFT] at H
         have H':=mA H;clear H;obtain ⟨hcz17_0,hcz17_1,hcz17_2,hcz17_3,hfz17_0,hfz17_1,hfz17_2,hfz17_3⟩:=box4 BK329.out
         go_wp2_with (first|((with_reducible refine gT 20 rfl ?_);refine gC (some 20) Try.func67 (spec_l6In.calls A8.out) ?_;rintro e w' ⟨rfl,⟨nd,rfl⟩⟩;refine ⟨_,rfl,?_⟩)|(go_at_call 67;(with_reducible refine (spec_l6In.calls A10.out).mono ?_);rintro e w' ⟨rfl,⟨nd,rfl⟩⟩))
         go_meet
         case rel=>exact ⟨_,(true),bZ,H',⟨by have:=HK1.out;first|omega|exact Nat.le_refl _⟩,⟨pP BK329⟩,⟨pS HB.out⟩⟩
       ·replace c9:=Bool.eq_false_iff.mpr c9;subst c9
        rw [if_neg nFT] at H
        have H':=mA H;clear H;obtain ⟨hcz18_0,hcz18_1,hcz18_2,hcz18_3,hfz18_0,hfz18_1,hfz18_2,hfz18_3⟩:=box4 BK329.out
        go_wp2_with (first|((with_reducible refine gT 20 rfl ?_);refine gC (some 20) Try.func67 (spec_l6In.calls A8.out) ?_;rintro e w' ⟨rfl,⟨nd,rfl⟩⟩;refine ⟨_,rfl,?_⟩))
        go_meet
        case rel=>exact ⟨_,(true),bZ,H',⟨by have:=HK1.out;first|omega|exact Nat.le_refl _⟩,⟨pP BK329⟩,⟨pS HB.out⟩⟩
      case rest =>
       clear HC5
       (try clear c2);(try clear c2b0);(try clear c2b1);(try clear c3);(try clear c3b0);(try clear c4);(try clear c4b0);(try clear hcz7_0);(try clear hcz7_1);(try clear hcz7_2);(try clear hcz7_3);(try clear hfz7_0);(try clear hfz7_1);(try clear hfz7_2);(try clear hfz7_3);(try clear hx328_0);(try clear hx328_1);(try clear hx328_2);(try clear hx328_3);(try clear p328);(try clear q328)
       obtain ⟨kq,x39_4,rfl,HA,HJ4,BK329,HB⟩:=hcut
       cases kq with
       | zero=>exact absurd HA.out (by simp [spec_BlkOk.j1])
       | succ kj4 =>
        have H:=HA.out;clear HA;simp only [spec_BlkOk.j1] at H
        by_cases c19:x39_4=true
        ·subst c19;rw [if_pos rfl] at H;obtain rfl:=Option.some.inj H
         go_wp2
         go_ret
         exact rZ (pS HB.out)
        ·replace c19:=Bool.eq_false_iff.mpr c19;subst c19
         rw [if_neg nFT] at H
         by_cases c20:x3_1 > 0
         ·rw [if_pos c20] at H;have c20b0:decide (0<x3_1)=true:=decide_eq_true c20;clear c20;obtain ⟨ji21,hji21⟩:∃ j_:Int,(wrap64 (x3_1 - 1))=j_:=⟨_,rfl⟩
          replace H:(if 0≤(ji21) then (if (ji21)<(l0.length:Int) then ((spec_l3Before.f ((rd_T138 l0 (ji21)).f0) ((rd_T138 l0 (ji21)).f1) ((rd_T138 l0 (ji21)).f2) ((rd_T138 l0 (ji21)).f3) ((rd_T138 l0 x3_1).f0) ((rd_T138 l0 x3_1).f1) ((rd_T138 l0 x3_1).f2)).bind fun t335=>(if t335=true then (spec_BlkOk.l0 kj4 l0 (wrap64 (x3_1+1))) else (some false))) else (none)) else (none))=some r:=by first|(rw [hji21] at H;exact H)|(simp only [hji21] at H ⊢;exact H)
          have hji21w:(IntKind.i64.wrap (x3_1 - 1))=ji21:=(i64_w _).trans hji21
          by_cases c22:0≤(ji21)
          ·rw [if_pos c22] at H;have c22b0:decide (0≤(ji21))=true:=decide_eq_true c22;clear c22
           by_cases c23:(ji21)<(l0.length:Int)
           ·rw [if_pos c23] at H;have c23b0:decide ((ji21)<(l0.length:Int))=true:=decide_eq_true c23;clear c23;obtain ⟨t335,A24,H⟩:=bI H;(try dsimp only at H)
            have H0_:=mA H;clear H
            try go_wp2
            replace BK329:=mA (blk_drew BK329.out);replace HB:=mA (below_drew1 HB.out);have p334:0≤((ji21):Int):=of_decide_eq_true bA;have q334:(ji21)<(l0.length:Int):=of_decide_eq_true bA;obtain ⟨ad334,e334,hs334⟩:=at_R138 HR0.out (ji21) p334 q334
            obtain rfl:ad328=ad334:=(by injection e334)
            replace p334:=eq_true p334;replace q334:=eq_true q334
            refine start_ (n:=17) (S:=fun w'=>w'.heap[gb329]?=some (.cells #[.int .i64 ((rd_T138 l0 x3_1).f0),.int .i64 ((rd_T138 l0 x3_1).f1),.int .i64 ((rd_T138 l0 x3_1).f2),.int .i64 ((rd_T138 l0 x3_1).f3)] 138 (0,0))∧RS w' (ad328.add (((ji21)).toNat * 4)) (d138 (rd_T138 l0 (ji21)))) (ds:=[]) _ aK rfl rfl ⟨BK329.out,rS HB hs334⟩ (fun hHeld=>?_);refine with_tabW spec_BlkOk.tab9 spec_BlkOk.bits9 (fun HT_ HW_=>?_)
            generalize wc.drew=w26 at BK329 HB hHeld ⊢
            refine qu 0 ?_;refine qu 1 ?_;refine qu 2 ?_;refine qu 3 ?_;refine qu 4 ?_;refine qu 5 ?_;refine qu 6 ?_;refine qu 8 ?_;refine qu 10 ?_;refine qu 12 ?_;refine qt 7 ?_;refine qt 9 ?_;refine qt 11 ?_;refine qt 13 ?_
            refine qo 14 ?_;intro K hK
            refine goes_ Try.func129 aK rfl #[.agg #[.int .i64 ((rd_T138 l0 (ji21)).f0),.int .i64 ((rd_T138 l0 (ji21)).f1),.int .i64 ((rd_T138 l0 (ji21)).f2),.int .i64 ((rd_T138 l0 (ji21)).f3)],.int .i64 ((rd_T138 l0 x3_1).f0),.int .i64 ((rd_T138 l0 x3_1).f1),.int .i64 ((rd_T138 l0 x3_1).f2)] (by rfl) rfl rfl (by (try simp only [List.map_toArray,List.map_cons,List.map_nil]);first|done|(simp only [hji21];rfl)|rfl|(simp only [List.length_drop,List.length_take];rfl)) ?_
            with_reducible refine (spec_l3Before.calls A24.out).mono ?_
            rintro e w27 ⟨rfl,hb⟩;refine ⟨_,rfl,?_⟩;replace BK329:=bK BK329 hb;replace HB:=spS HB hb
            (try clear hb)
            refine hK.out _ _ ⟨BK329.out,rS HB hs334⟩ (fun hHeld=>?_);clear hK K;refine no_ (some 54) ?_;refine qu 15 ?_;refine qu 16 ?_;refine qe ?_
            have H:=H0_.out;clear H0_
            by_cases c25:t335=true
            ·subst c25;rw [if_pos rfl] at H;have H':=mA H;clear H
             try go_wp2
             go_roundg kj4
             case measure=>have:=HK1.out;have:=HJ4.out;omega
             case rel=>exact ⟨(wrap64 (x3_1+1)),bZ,H',⟨by have:=HK1.out;have:=HJ4.out;omega⟩,⟨pS HB.out⟩⟩
            ·replace c25:=Bool.eq_false_iff.mpr c25;subst c25
             rw [if_neg nFT] at H
             obtain rfl:=Option.some.inj H
             try go_wp2
             go_ret
             exact ⟨by first|rfl|(simp [errW_none,errW_some]<;>rfl)|(simp only [← hji21];first|rfl|(simp [errW_none,errW_some]<;>rfl))|(simp [*,errW_none,errW_some]<;>rfl),pS HB.out⟩
           ·rw [if_neg c23] at H
            exact absurd H (by simp)
          ·rw [if_neg c22] at H
           exact absurd H (by simp)
         ·rw [if_neg c20] at H;have c20b0:decide (0<x3_1)=false:=decide_eq_false c20;clear c20;have H':=mA H;clear H
          try go_wp2
          replace BK329:=mA (blk_drew BK329.out);replace HB:=mA (below_drew1 HB.out)
          refine start_ (n:=17) (S:=fun w'=>True) (ds:=[]) _ aK rfl rfl trivial (fun hHeld=>?_);refine with_tabW spec_BlkOk.tab9 spec_BlkOk.bits9 (fun HT_ HW_=>?_)
          generalize wc.drew=w30 at BK329 HB hHeld ⊢
          refine qu 0 ?_;refine qu 1 ?_;refine qu 2 ?_;refine qd 3 ?_;refine qd 4 ?_;refine qd 5 ?_;refine qd 6 ?_;refine qd 7 ?_;refine qd 8 ?_;refine qd 9 ?_;refine qd 10 ?_;refine qd 11 ?_;refine qd 12 ?_;refine qd 13 ?_;refine qd 14 ?_;refine qd 15 ?_;refine qu 16 ?_;refine qe ?_
          try go_wp2
          go_roundg kj4
          case measure=>have:=HK1.out;have:=HJ4.out;omega
          case rel=>exact ⟨(wrap64 (x3_1+1)),bZ,H',⟨by have:=HK1.out;have:=HJ4.out;omega⟩,⟨pS HB.out⟩⟩
     ·rw [if_neg c4] at H
      exact absurd H (by simp)
    ·rw [if_neg c3] at H;have c3b0:decide (x3_1<(l0.length:Int))=false:=decide_eq_false c3;clear c3;obtain rfl:=Option.some.inj H
     go_wp2
     go_ret
     exact rZ (pB HB.out)
end Go.Proofs.Ytoieojmfkkidnaa.P
