-- printed by pprint.py (this session's program over the kit's printer) out of the translation. Lean checks it.
import Derived.Test.YtoieojmfkkidnaaPx0
namespace Go.Proofs.Ytoieojmfkkidnaa.P
open Go.RowKit Go.Proofs.YtoieojmfkkidnaaX Go.Proofs.YtoieojmfkkidnaaW.PrintWords Go.Proofs.YtoieojmfkkidnaaW.PrintLast Go.Proofs.YtoieojmfkkidnaaW.PrintMore
attribute [local go_sem] max2_int min2_int max_two min_two max_three min_three max_four min_four   -- for this text's walks alone
set_option linter.unusedVariables false
set_option linter.unusedSimpArgs false
/-! ### spec_l6In: function 67 -/
def spec_l6In.f (a0 a1 a2 : Int) : Option (Bool) := if a0 ≥ a1 then (some (decide (a0 ≤ a2))) else (some false)
set_option maxHeartbeats 8000000 in
set_option maxRecDepth 100000 in
theorem spec_l6In.calls {a0 a1 a2 : Int} {r : Bool} {w : World} (h : spec_l6In.f a0 a1 a2 = some r) :
  Calls Try.prog 67 #[.int .i64 a0,.int .i64 a1,.int .i64 a2] w fun e w'=>e=.returned (.bool r)∧Drawn0 w w':=by
 have H:(if a0 ≥ a1 then (some (decide (a0≤a2))) else (some false))=some r:=h;clear h
 by_cases c4:a0 ≥ a1
 ·rw [if_pos c4] at H;have c4b0:decide (a1≤a0)=true:=decide_eq_true c4;clear c4;obtain rfl:=Option.some.inj H
  go_enter Try.func67,Try.ntmps67
  go_wp2
  go_ret
  exact ⟨by first|rfl|(simp;done)|(simp [*];done),by repeat (first|exact Drawn0.refl _|apply Drawn0.step)⟩
 ·rw [if_neg c4] at H;have c4b0:decide (a1≤a0)=false:=decide_eq_false c4;clear c4;obtain rfl:=Option.some.inj H
  go_enter Try.func67,Try.ntmps67
  go_wp2
  go_ret
  exact ⟨by first|rfl|(simp;done)|(simp [*];done),by repeat (first|exact Drawn0.refl _|apply Drawn0.step)⟩
/-! ### spec_l11Num: function 66 -/
def spec_l11Num.f (a0 : Int) : Option (Bool) := (spec_l6In.f a0 (-1) 99999).bind fun t101 => (some t101)
set_option maxHeartbeats 8000000 in
set_option maxRecDepth 100000 in
theorem spec_l11Num.calls {a0 : Int} {r : Bool} {w : World} (h : spec_l11Num.f a0 = some r) :
  Calls Try.prog 66 #[.int .i64 a0] w fun e w'=>e=.returned (.bool r)∧Drawn0 w w':=by
 have H:((spec_l6In.f a0 (-1) 99999).bind fun t101=>(some t101))=some r:=h;clear h;obtain ⟨t101,A2,H⟩:=bI H;(try dsimp only at H);obtain rfl:=Option.some.inj H
 go_enter Try.func66,Try.ntmps66
 go_wp2_with (first|((with_reducible refine gT 4 rfl ?_);refine gC (some 4) Try.func67 (spec_l6In.calls A2.out) ?_;rintro e w' ⟨rfl,⟨nd,rfl⟩⟩;refine ⟨_,rfl,?_⟩))
 go_ret
 exact ⟨by first|rfl|(simp;done)|(simp [*];done),by repeat (first|exact Drawn0.refl _|apply Drawn0.step)⟩
/-! ### spec_l11CmdOk: function 69 -/
def spec_l11CmdOk.f (a0_0 a0_1 a0_2 a0_3 a0_4 a0_5 a0_6 a0_7 a0_8 a0_9 : Int) : Option (Bool) := (spec_l6In.f a0_0 0 7).bind fun t103 => (if t103 = true then ((spec_l11Num.f a0_1).bind fun t104 => (if t104 = true then ((spec_l11Num.f a0_2).bind fun t105 => (if t105 = true then ((spec_l11Num.f a0_3).bind fun t106 => (if t106 = true then ((spec_l11Num.f a0_4).bind fun t107 => (if t107 = true then ((spec_l11Num.f a0_5).bind fun t108 => (if t108 = true then ((spec_l11Num.f a0_6).bind fun t109 => (if t109 = true then ((spec_l11Num.f a0_7).bind fun t110 => (if t110 = true then ((spec_l11Num.f a0_8).bind fun t111 => (if t111 = true then ((spec_l11Num.f a0_9).bind fun t112 => (some t112)) else (some false))) else (some false))) else (some false))) else (some false))) else (some false))) else (some false))) else (some false))) else (some false))) else (some false))
set_option maxHeartbeats 8000000 in
set_option maxRecDepth 100000 in
theorem spec_l11CmdOk.calls {a0_0 a0_1 a0_2 a0_3 a0_4 a0_5 a0_6 a0_7 a0_8 a0_9 : Int} {r : Bool} {w : World} (h : spec_l11CmdOk.f a0_0 a0_1 a0_2 a0_3 a0_4 a0_5 a0_6 a0_7 a0_8 a0_9 = some r) :
  Calls Try.prog 69 #[.agg #[.int .i64 a0_0,.int .i64 a0_1,.int .i64 a0_2,.int .i64 a0_3,.int .i64 a0_4,.int .i64 a0_5,.int .i64 a0_6,.int .i64 a0_7,.int .i64 a0_8,.int .i64 a0_9]] w fun e w'=>e=.returned (.bool r)∧Below w.heap.size w w':=by
 have hu24:=Try.underlying24;have HB:=mA (Below.refl w.heap.size w);have H:((spec_l6In.f a0_0 0 7).bind fun t103=>(if t103=true then ((spec_l11Num.f a0_1).bind fun t104=>(if t104=true then ((spec_l11Num.f a0_2).bind fun t105=>(if t105=true then ((spec_l11Num.f a0_3).bind fun t106=>(if t106=true then ((spec_l11Num.f a0_4).bind fun t107=>(if t107=true then ((spec_l11Num.f a0_5).bind fun t108=>(if t108=true then ((spec_l11Num.f a0_6).bind fun t109=>(if t109=true then ((spec_l11Num.f a0_7).bind fun t110=>(if t110=true then ((spec_l11Num.f a0_8).bind fun t111=>(if t111=true then ((spec_l11Num.f a0_9).bind fun t112=>(some t112)) else (some false))) else (some false))) else (some false))) else (some false))) else (some false))) else (some false))) else (some false))) else (some false))) else (some false)))=some r:=h;clear h;obtain ⟨t103,A2,H⟩:=bI H;(try dsimp only at H)
 by_cases c3:t103=true
 ·subst c3;rw [if_pos rfl] at H;obtain ⟨t104,A4,H⟩:=bI H;(try dsimp only at H)
  by_cases c5:t104=true
  ·subst c5;rw [if_pos rfl] at H;obtain ⟨t105,A6,H⟩:=bI H;(try dsimp only at H)
   by_cases c7:t105=true
   ·subst c7;rw [if_pos rfl] at H;obtain ⟨t106,A8,H⟩:=bI H;(try dsimp only at H)
    by_cases c9:t106=true
    ·subst c9;rw [if_pos rfl] at H;obtain ⟨t107,A10,H⟩:=bI H;(try dsimp only at H)
     by_cases c11:t107=true
     ·subst c11;rw [if_pos rfl] at H;obtain ⟨t108,A12,H⟩:=bI H;(try dsimp only at H)
      by_cases c13:t108=true
      ·subst c13;rw [if_pos rfl] at H;obtain ⟨t109,A14,H⟩:=bI H;(try dsimp only at H)
       by_cases c15:t109=true
       ·subst c15;rw [if_pos rfl] at H;obtain ⟨t110,A16,H⟩:=bI H;(try dsimp only at H)
        by_cases c17:t110=true
        ·subst c17;rw [if_pos rfl] at H;obtain ⟨t111,A18,H⟩:=bI H;(try dsimp only at H)
         by_cases c19:t111=true
         ·subst c19;rw [if_pos rfl] at H;obtain ⟨t112,A20,H⟩:=bI H;(try dsimp only at H);obtain rfl:=Option.some.inj H
          go_enter Try.func69,Try.ntmps69
          go_wp2_with (first|((with_reducible refine gLg rfl (by assumption) ?_);refine ldV ?_)|((with_reducible refine gSt rfl (by assumption) ?_);refine stV ?_)|((with_reducible refine gT 1 rfl ?_);refine bX 1 ?_;intro gb102 hg w21 hbox hb;have BK102:=mA hbox;have GW102:=gbpB HB hg;have GE102:=gbpB HB hg;replace HB:=spB HB hb;clear hb hbox hg;have hcz22_0:=fun i_=>blk_cell BK102.out i_;have hfz22_0:=fun i_=>blk_frozen BK102.out i_)|((with_reducible refine gT 5 rfl ?_);refine gC (some 5) Try.func67 (spec_l6In.calls A2.out) ?_;rintro e w' ⟨rfl,⟨nd,rfl⟩⟩;refine ⟨_,rfl,?_⟩)|(go_at_call 66;(with_reducible refine (spec_l11Num.calls A4.out).mono ?_);rintro e w' ⟨rfl,⟨nd,rfl⟩⟩)|(go_at_call 66;(with_reducible refine (spec_l11Num.calls A6.out).mono ?_);rintro e w' ⟨rfl,⟨nd,rfl⟩⟩)|(go_at_call 66;(with_reducible refine (spec_l11Num.calls A8.out).mono ?_);rintro e w' ⟨rfl,⟨nd,rfl⟩⟩)|(go_at_call 66;(with_reducible refine (spec_l11Num.calls A10.out).mono ?_);rintro e w' ⟨rfl,⟨nd,rfl⟩⟩)|(go_at_call 66;(with_reducible refine (spec_l11Num.calls A12.out).mono ?_);rintro e w' ⟨rfl,⟨nd,rfl⟩⟩)|(go_at_call 66;(with_reducible refine (spec_l11Num.calls A14.out).mono ?_);rintro e w' ⟨rfl,⟨nd,rfl⟩⟩)|(go_at_call 66;(with_reducible refine (spec_l11Num.calls A16.out).mono ?_);rintro e w' ⟨rfl,⟨nd,rfl⟩⟩)|(go_at_call 66;(with_reducible refine (spec_l11Num.calls A18.out).mono ?_);rintro e w' ⟨rfl,⟨nd,rfl⟩⟩)|(go_at_call 66;(with_reducible refine (spec_l11Num.calls A20.out).mono ?_);rintro e w' ⟨rfl,⟨nd,rfl⟩⟩))
          go_ret
          exact rZ (pS HB.out)
         ·replace c19:=Bool.eq_false_iff.mpr c19;subst c19
          rw [if_neg nFT] at H
          obtain rfl:=Option.some.inj H
          go_enter Try.func69,Try.ntmps69
          go_wp2_with (first|((with_reducible refine gLg rfl (by assumption) ?_);refine ldV ?_)|((with_reducible refine gSt rfl (by assumption) ?_);refine stV ?_)|((with_reducible refine gT 1 rfl ?_);refine bX 1 ?_;intro gb102 hg w23 hbox hb;have BK102:=mA hbox;have GW102:=gbpB HB hg;have GE102:=gbpB HB hg;replace HB:=spB HB hb;clear hb hbox hg;have hcz24_0:=fun i_=>blk_cell BK102.out i_;have hfz24_0:=fun i_=>blk_frozen BK102.out i_)|((with_reducible refine gT 5 rfl ?_);refine gC (some 5) Try.func67 (spec_l6In.calls A2.out) ?_;rintro e w' ⟨rfl,⟨nd,rfl⟩⟩;refine ⟨_,rfl,?_⟩)|(go_at_call 66;(with_reducible refine (spec_l11Num.calls A4.out).mono ?_);rintro e w' ⟨rfl,⟨nd,rfl⟩⟩)|(go_at_call 66;(with_reducible refine (spec_l11Num.calls A6.out).mono ?_);rintro e w' ⟨rfl,⟨nd,rfl⟩⟩)|(go_at_call 66;(with_reducible refine (spec_l11Num.calls A8.out).mono ?_);rintro e w' ⟨rfl,⟨nd,rfl⟩⟩)|(go_at_call 66;(with_reducible refine (spec_l11Num.calls A10.out).mono ?_);rintro e w' ⟨rfl,⟨nd,rfl⟩⟩)|(go_at_call 66;(with_reducible refine (spec_l11Num.calls A12.out).mono ?_);rintro e w' ⟨rfl,⟨nd,rfl⟩⟩)|(go_at_call 66;(with_reducible refine (spec_l11Num.calls A14.out).mono ?_);rintro e w' ⟨rfl,⟨nd,rfl⟩⟩)|(go_at_call 66;(with_reducible refine (spec_l11Num.calls A16.out).mono ?_);rintro e w' ⟨rfl,⟨nd,rfl⟩⟩)|(go_at_call 66;(with_reducible refine (spec_l11Num.calls A18.out).mono ?_);rintro e w' ⟨rfl,⟨nd,rfl⟩⟩))
          go_ret
          exact rZ (pS HB.out)
        ·replace c17:=Bool.eq_false_iff.mpr c17;subst c17
         rw [if_neg nFT] at H
         obtain rfl:=Option.some.inj H
         go_enter Try.func69,Try.ntmps69
         go_wp2_with (first|((with_reducible refine gLg rfl (by assumption) ?_);refine ldV ?_)|((with_reducible refine gSt rfl (by assumption) ?_);refine stV ?_)|((with_reducible refine gT 1 rfl ?_);refine bX 1 ?_;intro gb102 hg w25 hbox hb;have BK102:=mA hbox;have GW102:=gbpB HB hg;have GE102:=gbpB HB hg;replace HB:=spB HB hb;clear hb hbox hg;have hcz26_0:=fun i_=>blk_cell BK102.out i_;have hfz26_0:=fun i_=>blk_frozen BK102.out i_)|((with_reducible refine gT 5 rfl ?_);refine gC (some 5) Try.func67 (spec_l6In.calls A2.out) ?_;rintro e w' ⟨rfl,⟨nd,rfl⟩⟩;refine ⟨_,rfl,?_⟩)|(go_at_call 66;(with_reducible refine (spec_l11Num.calls A4.out).mono ?_);rintro e w' ⟨rfl,⟨nd,rfl⟩⟩)|(go_at_call 66;(with_reducible refine (spec_l11Num.calls A6.out).mono ?_);rintro e w' ⟨rfl,⟨nd,rfl⟩⟩)|(go_at_call 66;(with_reducible refine (spec_l11Num.calls A8.out).mono ?_);rintro e w' ⟨rfl,⟨nd,rfl⟩⟩)|(go_at_call 66;(with_reducible refine (spec_l11Num.calls A10.out).mono ?_);rintro e w' ⟨rfl,⟨nd,rfl⟩⟩)|(go_at_call 66;(with_reducible refine (spec_l11Num.calls A12.out).mono ?_);rintro e w' ⟨rfl,⟨nd,rfl⟩⟩)|(go_at_call 66;(with_reducible refine (spec_l11Num.calls A14.out).mono ?_);rintro e w' ⟨rfl,⟨nd,rfl⟩⟩)|(go_at_call 66;(with_reducible refine (spec_l11Num.calls A16.out).mono ?_);rintro e w' ⟨rfl,⟨nd,rfl⟩⟩))
         go_ret
         exact rZ (pS HB.out)
       ·replace c15:=Bool.eq_false_iff.mpr c15;subst c15
        rw [if_neg nFT] at H
        obtain rfl:=Option.some.inj H
        go_enter Try.func69,Try.ntmps69
        go_wp2_with (first|((with_reducible refine gLg rfl (by assumption) ?_);refine ldV ?_)|((with_reducible refine gSt rfl (by assumption) ?_);refine stV ?_)|((with_reducible refine gT 1 rfl ?_);refine bX 1 ?_;intro gb102 hg w27 hbox hb;have BK102:=mA hbox;have GW102:=gbpB HB hg;have GE102:=gbpB HB hg;replace HB:=spB HB hb;clear hb hbox hg;have hcz28_0:=fun i_=>blk_cell BK102.out i_;have hfz28_0:=fun i_=>blk_frozen BK102.out i_)|((with_reducible refine gT 5 rfl ?_);refine gC (some 5) Try.func67 (spec_l6In.calls A2.out) ?_;rintro e w' ⟨rfl,⟨nd,rfl⟩⟩;refine ⟨_,rfl,?_⟩)|(go_at_call 66;(with_reducible refine (spec_l11Num.calls A4.out).mono ?_);rintro e w' ⟨rfl,⟨nd,rfl⟩⟩)|(go_at_call 66;(with_reducible refine (spec_l11Num.calls A6.out).mono ?_);rintro e w' ⟨rfl,⟨nd,rfl⟩⟩)|(go_at_call 66;(with_reducible refine (spec_l11Num.calls A8.out).mono ?_);rintro e w' ⟨rfl,⟨nd,rfl⟩⟩)|(go_at_call 66;(with_reducible refine (spec_l11Num.calls A10.out).mono ?_);rintro e w' ⟨rfl,⟨nd,rfl⟩⟩)|(go_at_call 66;(with_reducible refine (spec_l11Num.calls A12.out).mono ?_);rintro e w' ⟨rfl,⟨nd,rfl⟩⟩)|(go_at_call 66;(with_reducible refine (spec_l11Num.calls A14.out).mono ?_);rintro e w' ⟨rfl,⟨nd,rfl⟩⟩))
        go_ret
        exact rZ (pS HB.out)
      ·replace c13:=Bool.eq_false_iff.mpr c13;subst c13
       rw [if_neg nFT] at H
       obtain rfl:=Option.some.inj H
       go_enter Try.func69,Try.ntmps69
       go_wp2_with (first|((with_reducible refine gLg rfl (by assumption) ?_);refine ldV ?_)|((with_reducible refine gSt rfl (by assumption) ?_);refine stV ?_)|((with_reducible refine gT 1 rfl ?_);refine bX 1 ?_;intro gb102 hg w29 hbox hb;have BK102:=mA hbox;have GW102:=gbpB HB hg;have GE102:=gbpB HB hg;replace HB:=spB HB hb;clear hb hbox hg;have hcz30_0:=fun i_=>blk_cell BK102.out i_;have hfz30_0:=fun i_=>blk_frozen BK102.out i_)|((with_reducible refine gT 5 rfl ?_);refine gC (some 5) Try.func67 (spec_l6In.calls A2.out) ?_;rintro e w' ⟨rfl,⟨nd,rfl⟩⟩;refine ⟨_,rfl,?_⟩)|(go_at_call 66;(with_reducible refine (spec_l11Num.calls A4.out).mono ?_);rintro e w' ⟨rfl,⟨nd,rfl⟩⟩)|(go_at_call 66;(with_reducible refine (spec_l11Num.calls A6.out).mono ?_);rintro e w' ⟨rfl,⟨nd,rfl⟩⟩)|(go_at_call 66;(with_reducible refine (spec_l11Num.calls A8.out).mono ?_);rintro e w' ⟨rfl,⟨nd,rfl⟩⟩)|(go_at_call 66;(with_reducible refine (spec_l11Num.calls A10.out).mono ?_);rintro e w' ⟨rfl,⟨nd,rfl⟩⟩)|(go_at_call 66;(with_reducible refine (spec_l11Num.calls A12.out).mono ?_);rintro e w' ⟨rfl,⟨nd,rfl⟩⟩))
       go_ret
       exact rZ (pS HB.out)
     ·replace c11:=Bool.eq_false_iff.mpr c11;subst c11
      rw [if_neg nFT] at H
      obtain rfl:=Option.some.inj H
      go_enter Try.func69,Try.ntmps69
      go_wp2_with (first|((with_reducible refine gLg rfl (by assumption) ?_);refine ldV ?_)|((with_reducible refine gSt rfl (by assumption) ?_);refine stV ?_)|((with_reducible refine gT 1 rfl ?_);refine bX 1 ?_;intro gb102 hg w31 hbox hb;have BK102:=mA hbox;have GW102:=gbpB HB hg;have GE102:=gbpB HB hg;replace HB:=spB HB hb;clear hb hbox hg;have hcz32_0:=fun i_=>blk_cell BK102.out i_;have hfz32_0:=fun i_=>blk_frozen BK102.out i_)|((with_reducible refine gT 5 rfl ?_);refine gC (some 5) Try.func67 (spec_l6In.calls A2.out) ?_;rintro e w' ⟨rfl,⟨nd,rfl⟩⟩;refine ⟨_,rfl,?_⟩)|(go_at_call 66;(with_reducible refine (spec_l11Num.calls A4.out).mono ?_);rintro e w' ⟨rfl,⟨nd,rfl⟩⟩)|(go_at_call 66;(with_reducible refine (spec_l11Num.calls A6.out).mono ?_);rintro e w' ⟨rfl,⟨nd,rfl⟩⟩)|(go_at_call 66;(with_reducible refine (spec_l11Num.calls A8.out).mono ?_);rintro e w' ⟨rfl,⟨nd,rfl⟩⟩)|(go_at_call 66;(with_reducible refine (spec_l11Num.calls A10.out).mono ?_);rintro e w' ⟨rfl,⟨nd,rfl⟩⟩))
      go_ret
      exact rZ (pS HB.out)
    ·replace c9:=Bool.eq_false_iff.mpr c9;subst c9
     rw [if_neg nFT] at H
     obtain rfl:=Option.some.inj H
     go_enter Try.func69,Try.ntmps69
     go_wp2_with (first|((with_reducible refine gLg rfl (by assumption) ?_);refine ldV ?_)|((with_reducible refine gSt rfl (by assumption) ?_);refine stV ?_)|((with_reducible refine gT 1 rfl ?_);refine bX 1 ?_;intro gb102 hg w33 hbox hb;have BK102:=mA hbox;have GW102:=gbpB HB hg;have GE102:=gbpB HB hg;replace HB:=spB HB hb;clear hb hbox hg;have hcz34_0:=fun i_=>blk_cell BK102.out i_;have hfz34_0:=fun i_=>blk_frozen BK102.out i_)|((with_reducible refine gT 5 rfl ?_);refine gC (some 5) Try.func67 (spec_l6In.calls A2.out) ?_;rintro e w' ⟨rfl,⟨nd,rfl⟩⟩;refine ⟨_,rfl,?_⟩)|(go_at_call 66;(with_reducible refine (spec_l11Num.calls A4.out).mono ?_);rintro e w' ⟨rfl,⟨nd,rfl⟩⟩)|(go_at_call 66;(with_reducible refine (spec_l11Num.calls A6.out).mono ?_);rintro e w' ⟨rfl,⟨nd,rfl⟩⟩)|(go_at_call 66;(with_reducible refine (spec_l11Num.calls A8.out).mono ?_);rintro e w' ⟨rfl,⟨nd,rfl⟩⟩))
     go_ret
     exact rZ (pS HB.out)
   ·replace c7:=Bool.eq_false_iff.mpr c7;subst c7
    rw [if_neg nFT] at H
    obtain rfl:=Option.some.inj H
    go_enter Try.func69,Try.ntmps69
    go_wp2_with (first|((with_reducible refine gLg rfl (by assumption) ?_);refine ldV ?_)|((with_reducible refine gSt rfl (by assumption) ?_);refine stV ?_)|((with_reducible refine gT 1 rfl ?_);refine bX 1 ?_;intro gb102 hg w35 hbox hb;have BK102:=mA hbox;have GW102:=gbpB HB hg;have GE102:=gbpB HB hg;replace HB:=spB HB hb;clear hb hbox hg;have hcz36_0:=fun i_=>blk_cell BK102.out i_;have hfz36_0:=fun i_=>blk_frozen BK102.out i_)|((with_reducible refine gT 5 rfl ?_);refine gC (some 5) Try.func67 (spec_l6In.calls A2.out) ?_;rintro e w' ⟨rfl,⟨nd,rfl⟩⟩;refine ⟨_,rfl,?_⟩)|(go_at_call 66;(with_reducible refine (spec_l11Num.calls A4.out).mono ?_);rintro e w' ⟨rfl,⟨nd,rfl⟩⟩)|(go_at_call 66;(with_reducible refine (spec_l11Num.calls A6.out).mono ?_);rintro e w' ⟨rfl,⟨nd,rfl⟩⟩))
    go_ret
    exact rZ (pS HB.out)
  ·replace c5:=Bool.eq_false_iff.mpr c5;subst c5
   rw [if_neg nFT] at H
   obtain rfl:=Option.some.inj H
   go_enter Try.func69,Try.ntmps69
   go_wp2_with (first|((with_reducible refine gLg rfl (by assumption) ?_);refine ldV ?_)|((with_reducible refine gSt rfl (by assumption) ?_);refine stV ?_)|((with_reducible refine gT 1 rfl ?_);refine bX 1 ?_;intro gb102 hg w37 hbox hb;have BK102:=mA hbox;have GW102:=gbpB HB hg;have GE102:=gbpB HB hg;replace HB:=spB HB hb;clear hb hbox hg;have hcz38_0:=fun i_=>blk_cell BK102.out i_;have hfz38_0:=fun i_=>blk_frozen BK102.out i_)|((with_reducible refine gT 5 rfl ?_);refine gC (some 5) Try.func67 (spec_l6In.calls A2.out) ?_;rintro e w' ⟨rfl,⟨nd,rfl⟩⟩;refine ⟨_,rfl,?_⟩)|(go_at_call 66;(with_reducible refine (spec_l11Num.calls A4.out).mono ?_);rintro e w' ⟨rfl,⟨nd,rfl⟩⟩))
   go_ret
   exact rZ (pS HB.out)
 ·replace c3:=Bool.eq_false_iff.mpr c3;subst c3
  rw [if_neg nFT] at H
  obtain rfl:=Option.some.inj H
  go_enter Try.func69,Try.ntmps69
  go_wp2_with (first|((with_reducible refine gLg rfl (by assumption) ?_);refine ldV ?_)|((with_reducible refine gSt rfl (by assumption) ?_);refine stV ?_)|((with_reducible refine gT 1 rfl ?_);refine bX 1 ?_;intro gb102 hg w39 hbox hb;have BK102:=mA hbox;have GW102:=gbpB HB hg;have GE102:=gbpB HB hg;replace HB:=spB HB hb;clear hb hbox hg;have hcz40_0:=fun i_=>blk_cell BK102.out i_;have hfz40_0:=fun i_=>blk_frozen BK102.out i_)|((with_reducible refine gT 5 rfl ?_);refine gC (some 5) Try.func67 (spec_l6In.calls A2.out) ?_;rintro e w' ⟨rfl,⟨nd,rfl⟩⟩;refine ⟨_,rfl,?_⟩))
  go_ret
  exact rZ (pS HB.out)
/-! ### spec_l21PaperOk: function 86 -/
def spec_l21PaperOk.f (a0_0 a0_1 a0_2 a0_3 a0_4 a0_5 a0_6 a0_7 a0_8 a0_9 a0_10 a0_11 : Int) : Option (Bool) := (spec_l6In.f a0_0 1 60).bind fun t114 => (if t114 = true then ((spec_l6In.f a0_1 1 99999).bind fun t115 => (if t115 = true then ((spec_l11CmdOk.f a0_2 a0_3 a0_4 a0_5 a0_6 a0_7 a0_8 a0_9 a0_10 a0_11).bind fun t116 => (some t116)) else (some false))) else (some false))
set_option maxHeartbeats 8000000 in
set_option maxRecDepth 100000 in
theorem spec_l21PaperOk.calls {a0_0 a0_1 a0_2 a0_3 a0_4 a0_5 a0_6 a0_7 a0_8 a0_9 a0_10 a0_11 : Int} {r : Bool} {w : World} (h : spec_l21PaperOk.f a0_0 a0_1 a0_2 a0_3 a0_4 a0_5 a0_6 a0_7 a0_8 a0_9 a0_10 a0_11 = some r) :
  Calls Try.prog 86 #[.agg #[.int .i64 a0_0,.int .i64 a0_1,.int .i64 a0_2,.int .i64 a0_3,.int .i64 a0_4,.int .i64 a0_5,.int .i64 a0_6,.int .i64 a0_7,.int .i64 a0_8,.int .i64 a0_9,.int .i64 a0_10,.int .i64 a0_11]] w fun e w'=>e=.returned (.bool r)∧Below w.heap.size w w':=by
 have hu64:=Try.underlying64;have hu24:=Try.underlying24;have HB:=mA (Below.refl w.heap.size w);have H:((spec_l6In.f a0_0 1 60).bind fun t114=>(if t114=true then ((spec_l6In.f a0_1 1 99999).bind fun t115=>(if t115=true then ((spec_l11CmdOk.f a0_2 a0_3 a0_4 a0_5 a0_6 a0_7 a0_8 a0_9 a0_10 a0_11).bind fun t116=>(some t116)) else (some false))) else (some false)))=some r:=h;clear h;obtain ⟨t114,A2,H⟩:=bI H;(try dsimp only at H)
 by_cases c3:t114=true
 ·subst c3;rw [if_pos rfl] at H;obtain ⟨t115,A4,H⟩:=bI H;(try dsimp only at H)
  by_cases c5:t115=true
  ·subst c5;rw [if_pos rfl] at H;obtain ⟨t116,A6,H⟩:=bI H;(try dsimp only at H);obtain rfl:=Option.some.inj H
   go_enter Try.func86,Try.ntmps86
   go_wp2_with (first|((with_reducible refine gLg rfl (by assumption) ?_);refine ldV ?_)|((with_reducible refine gSt rfl (by assumption) ?_);refine stV ?_)|((with_reducible refine gT 1 rfl ?_);refine bX 1 ?_;intro gb113 hg w7 hbox hb;have BK113:=mA hbox;have GW113:=gbpB HB hg;have GE113:=gbpB HB hg;replace HB:=spB HB hb;clear hb hbox hg;have hcz8_0:=fun i_=>blk_cell BK113.out i_;have hfz8_0:=fun i_=>blk_frozen BK113.out i_)|((with_reducible refine gT 5 rfl ?_);refine gC (some 5) Try.func67 (spec_l6In.calls A2.out) ?_;rintro e w' ⟨rfl,⟨nd,rfl⟩⟩;refine ⟨_,rfl,?_⟩)|(go_at_call 67;(with_reducible refine (spec_l6In.calls A4.out).mono ?_);rintro e w' ⟨rfl,⟨nd,rfl⟩⟩)|(go_at_call 69;(with_reducible refine (spec_l11CmdOk.calls A6.out).mono ?_);rintro e w9 ⟨rfl,hb⟩;replace BK113:=bK BK113 hb;replace HB:=spS HB hb;(try clear hb)))
   go_ret
   exact rZ (pS HB.out)
  ·replace c5:=Bool.eq_false_iff.mpr c5;subst c5
   rw [if_neg nFT] at H
   obtain rfl:=Option.some.inj H
   go_enter Try.func86,Try.ntmps86
   go_wp2_with (first|((with_reducible refine gLg rfl (by assumption) ?_);refine ldV ?_)|((with_reducible refine gSt rfl (by assumption) ?_);refine stV ?_)|((with_reducible refine gT 1 rfl ?_);refine bX 1 ?_;intro gb113 hg w10 hbox hb;have BK113:=mA hbox;have GW113:=gbpB HB hg;have GE113:=gbpB HB hg;replace HB:=spB HB hb;clear hb hbox hg;have hcz11_0:=fun i_=>blk_cell BK113.out i_;have hfz11_0:=fun i_=>blk_frozen BK113.out i_)|((with_reducible refine gT 5 rfl ?_);refine gC (some 5) Try.func67 (spec_l6In.calls A2.out) ?_;rintro e w' ⟨rfl,⟨nd,rfl⟩⟩;refine ⟨_,rfl,?_⟩)|(go_at_call 67;(with_reducible refine (spec_l6In.calls A4.out).mono ?_);rintro e w' ⟨rfl,⟨nd,rfl⟩⟩))
   go_ret
   exact rZ (pS HB.out)
 ·replace c3:=Bool.eq_false_iff.mpr c3;subst c3
  rw [if_neg nFT] at H
  obtain rfl:=Option.some.inj H
  go_enter Try.func86,Try.ntmps86
  go_wp2_with (first|((with_reducible refine gLg rfl (by assumption) ?_);refine ldV ?_)|((with_reducible refine gSt rfl (by assumption) ?_);refine stV ?_)|((with_reducible refine gT 1 rfl ?_);refine bX 1 ?_;intro gb113 hg w12 hbox hb;have BK113:=mA hbox;have GW113:=gbpB HB hg;have GE113:=gbpB HB hg;replace HB:=spB HB hb;clear hb hbox hg;have hcz13_0:=fun i_=>blk_cell BK113.out i_;have hfz13_0:=fun i_=>blk_frozen BK113.out i_)|((with_reducible refine gT 5 rfl ?_);refine gC (some 5) Try.func67 (spec_l6In.calls A2.out) ?_;rintro e w' ⟨rfl,⟨nd,rfl⟩⟩;refine ⟨_,rfl,?_⟩))
  go_ret
  exact rZ (pS HB.out)
/-! ### spec_SynVoterOk: function 26 -/
mutual
def spec_SynVoterOk.j0 : Nat → Bool → Int → List (S64) → Option (Bool)
 | 0,_,_,_=>none
 | k+1,x13,x118000,x118001=>if x13=true then (some false) else (spec_SynVoterOk.l0 k 0 x118000 x118001)
def spec_SynVoterOk.l0 : Nat → Int → Int → List (S64) → Option (Bool)
 | 0,_,_,_=>none
 | k+1,x3,x118000,x118001=>if x3<(x118001.length:Int) then (if 0≤x3 then ((spec_l21PaperOk.f ((rd_T64 x118001 x3).f0) ((rd_T64 x118001 x3).f1) ((rd_T64 x118001 x3).f2.f0) ((rd_T64 x118001 x3).f2.f1) ((rd_T64 x118001 x3).f2.f2) ((rd_T64 x118001 x3).f2.f3) ((rd_T64 x118001 x3).f2.f4) ((rd_T64 x118001 x3).f2.f5) ((rd_T64 x118001 x3).f2.f6) ((rd_T64 x118001 x3).f2.f7) ((rd_T64 x118001 x3).f2.f8) ((rd_T64 x118001 x3).f2.f9)).bind fun t120=>(if t120=true then (if ((rd_T64 x118001 x3).f1) > x118000 then (some false) else (if x3 > 0 then (if 0≤(wrap64 (x3 - 1)) then (if (wrap64 (x3 - 1))<(x118001.length:Int) then (if ((rd_T64 x118001 (wrap64 (x3 - 1))).f0) ≥ ((rd_T64 x118001 x3).f0) then (some false) else (spec_SynVoterOk.l0 k (wrap64 (x3+1)) x118000 x118001)) else (none)) else (none)) else (spec_SynVoterOk.l0 k (wrap64 (x3+1)) x118000 x118001))) else (some false))) else (none)) else (some true)
end
def spec_SynVoterOk.f (k : Nat) (a0_0 : Int) (l0_1 : List (S64)) : Option (Bool) := (spec_l6In.f a0_0 0 99999).bind fun t118 => (if t118 = true then (spec_SynVoterOk.j0 k (decide ((l0_1.length : Int) > 60)) a0_0 l0_1) else (spec_SynVoterOk.j0 k true a0_0 l0_1))
def spec_SynVoterOk.T6 : Bool × List (List Nat × List Nat) := (true, [([], []), ([0], [0]), ([], []), ([1, 2], [1, 2]), ([3], [3]), ([4], [4]), ([5], [5]), ([6, 5], [6]), ([7], [7]), ([8, 7], [7, 8]), ([7], [7]), ([9, 10, 7], [7, 9, 10]), ([11, 7], [7, 11]), ([12, 7], [7, 12]), ([7], [7]), ([14, 7], [7, 14]), ([13, 15, 7], [7, 13, 15]), ([7, 16], [7, 16]), ([17, 7], [17]), ([18], [18]), ([19, 18], [18, 19]), ([20, 18, 18], [18, 20]), ([21], [21]), ([22, 21], [21, 22]), ([21], [21]), ([24, 21], [21, 24]), ([23, 25, 21], [21, 23, 25]), ([26, 21], [21, 26]), ([27, 21], [21, 27]), ([21], [21]), ([29, 21], [21, 29]), ([21], [21]), ([30, 31, 21], [21, 30, 31]), ([32, 21], [21, 32]), ([33, 21], [21, 33]), ([28, 34, 21], [21, 28, 34]), ([21, 35, 18], [18, 21, 35]), ([18, 36], [18, 36])])
def spec_SynVoterOk.B6 : List Nat := [0, 1, 0, 7, 15, 31, 63, 127, 255, 511, 255, 2047, 4095, 8191, 255, 16639, 65535, 131071, 262143, 524287, 1048575, 2097151, 4194303, 8388607, 4194303, 20971519, 67108863, 134217727, 268435455, 4194303, 541065215, 4194303, 3762290687, 8057257983, 16647192575, 34359738367, 68719476735, 137438953471]
theorem spec_SynVoterOk.tab6 : rtab .any (opsOf Try.f26 6) = spec_SynVoterOk.T6 := by kernel_rfl
theorem spec_SynVoterOk.bits6 : waitsOk spec_SynVoterOk.T6.2 spec_SynVoterOk.B6 = true := by kernel_rfl
set_option maxHeartbeats 8000000 in
set_option maxRecDepth 100000 in
theorem spec_SynVoterOk.calls {k : Nat} {a0_0 : Int} {A0_1 : Option Addr} {c0_1 : Nat} {l0_1 : List (S64)} {r : Bool} {w : World} (hr0_1 : Kd.C k64 w A0_1 l0_1.length l0_1) (hc0_1 : l0_1.length ≤ c0_1) (h : spec_SynVoterOk.f k a0_0 l0_1 = some r) :
  Calls Try.prog 26 #[.agg #[.int .i64 a0_0,.slice A0_1 l0_1.length c0_1]] w fun e w'=>e=.returned (.bool r)∧Below w.heap.size w w':=by
 have hu52:=Try.underlying52;have hu64:=Try.underlying64;have HR0_1:=mA hr0_1;have HC0_1:=mA hc0_1;clear hr0_1 hc0_1;have HB:=mA (Below.refl w.heap.size w);have H:((spec_l6In.f a0_0 0 99999).bind fun t118=>(if t118=true then (spec_SynVoterOk.j0 k (decide ((l0_1.length:Int) > 60)) a0_0 l0_1) else (spec_SynVoterOk.j0 k true a0_0 l0_1)))=some r:=h;clear h;have HC2:=mA H;clear H
 go_enter Try.func26,Try.ntmps26
 go_upto_region 1 with (first|((with_reducible refine gT 1 rfl ?_);(try (refine gate_guard (by rfl) ?_;dsimp only));refine bE 1 #[.int .i64 a0_0,.slice A0_1 l0_1.length c0_1] 52 ?_;intro gb117 hg w3 hbox hb;have BK117:=mA hbox;have GW117:=gbpB HB hg;have GE117:=gbpB HB hg;replace HB:=spB HB hb;clear hb hbox hg))
 (try simp only [Act.put,List.setIfInBounds_toArray,List.set_cons_zero,List.set_cons_succ])
 go_cut [13] (fun v13 wc=>∃ (kq:Nat) (x13_1:Bool),v13=.bool x13_1∧Aside0 (spec_SynVoterOk.j0 kq x13_1 a0_0 l0_1=some r)∧Aside0 (kq≤k)∧Aside0 (wc.heap[gb117]?=some (.cells #[.int .i64 a0_0,(.slice A0_1 l0_1.length c0_1)] 52 (0,0)))∧Aside0 (Below w.heap.size w wc))
 case first =>
  have H:=HC2.out;clear HC2;obtain ⟨t118,A4,H⟩:=bI H;(try dsimp only at H)
  by_cases c5:t118=true
  ·subst c5;rw [if_pos rfl] at H;have H':=mA H;clear H;obtain ⟨hcz6_0,hcz6_1,hfz6_0,hfz6_1⟩:=box2 BK117.out
   go_wp2_with (first|((with_reducible refine gT 6 rfl ?_);refine gC (some 6) Try.func67 (spec_l6In.calls A4.out) ?_;rintro e w' ⟨rfl,⟨nd,rfl⟩⟩;refine ⟨_,rfl,?_⟩))
   go_meet
   case rel=>exact ⟨_,(decide ((l0_1.length:Int) > 60)),bZ,H',⟨by first|omega|exact Nat.le_refl _⟩,⟨pK BK117.out⟩,⟨pS HB.out⟩⟩
  ·replace c5:=Bool.eq_false_iff.mpr c5;subst c5
   rw [if_neg nFT] at H
   have H':=mA H;clear H;obtain ⟨hcz7_0,hcz7_1,hfz7_0,hfz7_1⟩:=box2 BK117.out
   go_wp2_with (first|((with_reducible refine gT 6 rfl ?_);refine gC (some 6) Try.func67 (spec_l6In.calls A4.out) ?_;rintro e w' ⟨rfl,⟨nd,rfl⟩⟩;refine ⟨_,rfl,?_⟩))
   go_meet
   case rel=>exact ⟨_,(true),bZ,H',⟨by first|omega|exact Nat.le_refl _⟩,⟨pK BK117.out⟩,⟨pS HB.out⟩⟩
 case rest =>
  clear HC2
  obtain ⟨kq,x13_1,rfl,HA,HJ1,BK117,HB⟩:=hcut
  cases kq with
  | zero=>exact absurd HA.out (by simp [spec_SynVoterOk.j0])
  | succ kj1 =>
   have H:=HA.out;clear HA;simp only [spec_SynVoterOk.j0] at H
   by_cases c8:x13_1=true
   ·subst c8;rw [if_pos rfl] at H;obtain rfl:=Option.some.inj H
    go_wp2
    go_ret
    exact rZ (pS HB.out)
   ·replace c8:=Bool.eq_false_iff.mpr c8;subst c8
    rw [if_neg nFT] at H
    have H':=mA H;clear H
    go_wp2
    go_loopg [3] kj1 (fun kq v3 w'=>∃ (x3_2:Int),v3=.int .i64 x3_2∧Aside0 (spec_SynVoterOk.l0 kq x3_2 a0_0 l0_1=some r)∧Aside0 (kq≤kj1)∧Aside0 (w'.heap[gb117]?=some (.cells #[.int .i64 a0_0,(.slice A0_1 l0_1.length c0_1)] 52 (0,0)))∧Aside0 (Below w.heap.size w w'))
    case atStart=>exact ⟨(0),bZ,H',⟨Nat.le_refl _⟩,⟨pK BK117.out⟩,⟨pS HB.out⟩⟩
    case round =>
     clear H'
     (try clear c8)
     obtain ⟨x3_2,rfl,HA,HK2,BK117,HB⟩:=hrel
     cases gk with
     | zero=>exact absurd HA.out (by simp [spec_SynVoterOk.l0])
     | succ k2 =>
      have H:=HA.out;clear HA;simp only [spec_SynVoterOk.l0] at H
      by_cases c9:x3_2<(l0_1.length:Int)
      ·rw [if_pos c9] at H;have c9b0:decide (x3_2<(l0_1.length:Int))=true:=decide_eq_true c9;clear c9
       by_cases c10:0≤x3_2
       ·rw [if_pos c10] at H;have c10b0:decide (0≤x3_2)=true:=decide_eq_true c10;clear c10;obtain ⟨t120,A11,H⟩:=bI H;(try dsimp only at H)
        by_cases c12:t120=true
        ·subst c12;rw [if_pos rfl] at H
         by_cases c13:((rd_T64 l0_1 x3_2).f1) > a0_0
         ·rw [if_pos c13] at H;have c13b0:decide (a0_0<((rd_T64 l0_1 x3_2).f1))=true:=decide_eq_true c13;clear c13;obtain rfl:=Option.some.inj H;obtain ⟨hcz14_0,hcz14_1,hfz14_0,hfz14_1⟩:=box2 BK117.out
          try go_wp2
          replace BK117:=mA (blk_drew BK117.out);replace HB:=mA (below_drew1 HB.out);have p119:0≤(x3_2:Int):=of_decide_eq_true bA;have q119:x3_2<(l0_1.length:Int):=of_decide_eq_true bA;obtain ⟨ad119,e119,hs119⟩:=at_R64 HR0_1.out x3_2 p119 q119;cases e119;replace p119:=eq_true p119;replace q119:=eq_true q119;have p121:0≤(x3_2:Int):=of_decide_eq_true bA;have q121:x3_2<(l0_1.length:Int):=of_decide_eq_true bA;obtain ⟨ad121,e121,hs121⟩:=at_R64 HR0_1.out x3_2 p121 q121
          obtain rfl:ad119=ad121:=(by injection e121)
          replace p121:=eq_true p121;replace q121:=eq_true q121
          refine start_ (n:=38) (S:=fun w'=>w'.cell? ⟨gb117,0,none⟩=some (.int .i64 a0_0)∧w'.cell? ⟨gb117,1,none⟩=some (.slice (some ad119) l0_1.length c0_1)∧RS w' (ad119.add ((x3_2).toNat * 12)) (d64 (rd_T64 l0_1 x3_2))∧RS w' (ad119.add ((x3_2).toNat * 12)) (d64 (rd_T64 l0_1 x3_2))) (ds:=[]) _ aK rfl rfl ⟨eC BK117 0,eC BK117 1,rS HB hs119,rS HB hs121⟩ (fun hHeld=>?_);refine with_tabW spec_SynVoterOk.tab6 spec_SynVoterOk.bits6 (fun HT_ HW_=>?_)
          generalize wr.drew=w15 at BK117 HB hHeld ⊢
          refine qu 0 ?_;refine qu 2 ?_;refine qt 1 ?_;refine qu 3 ?_;refine qt 4 ?_
          refine qo 5 ?_;intro K hK
          refine gD Try.func86 (spec_l21PaperOk.calls A11.out) ?_
          rintro e w16 ⟨rfl,hb⟩;refine ⟨_,rfl,?_⟩;replace BK117:=bK BK117 hb;replace HB:=spS HB hb
          (try clear hb)
          refine hK.out _ _ ⟨eC BK117 0,eC BK117 1,rS HB hs119,rS HB hs121⟩ (fun hHeld=>?_);clear hK K;refine no_ (some 26) ?_;refine qu 6 ?_;refine qu 7 ?_;refine qu 8 ?_;refine qu 10 ?_;refine qu 14 ?_;refine qt 9 ?_;refine qu 11 ?_;refine qu 12 ?_;refine qt 13 ?_;refine qt 15 ?_;refine qu 16 ?_;refine qu 17 ?_;refine qu 18 ?_;refine qd 19 ?_;refine qd 20 ?_;refine qd 21 ?_;refine qd 22 ?_;refine qd 23 ?_;refine qd 24 ?_;refine qd 25 ?_;refine qd 26 ?_;refine qd 27 ?_;refine qd 28 ?_;refine qd 29 ?_;refine qd 30 ?_;refine qd 31 ?_;refine qd 32 ?_;refine qd 33 ?_;refine qd 34 ?_;refine qd 35 ?_;refine qd 36 ?_;refine qu 37 ?_;refine qe ?_
          try go_wp2
          go_ret
          exact rZ (pS HB.out)
         ·rw [if_neg c13] at H;have c13b0:decide (a0_0<((rd_T64 l0_1 x3_2).f1))=false:=decide_eq_false c13;clear c13
          by_cases c17:x3_2 > 0
          ·rw [if_pos c17] at H;have c17b0:decide (0<x3_2)=true:=decide_eq_true c17;clear c17;obtain ⟨ji18,hji18⟩:∃ j_:Int,(wrap64 (x3_2 - 1))=j_:=⟨_,rfl⟩
           replace H:(if 0≤(ji18) then (if (ji18)<(l0_1.length:Int) then (if ((rd_T64 l0_1 (ji18)).f0) ≥ ((rd_T64 l0_1 x3_2).f0) then (some false) else (spec_SynVoterOk.l0 k2 (wrap64 (x3_2+1)) a0_0 l0_1)) else (none)) else (none))=some r:=by first|(rw [hji18] at H;exact H)|(simp only [hji18] at H ⊢;exact H)
           (try rw [hji18] at A11)
           have hji18w:(IntKind.i64.wrap (x3_2 - 1))=ji18:=(i64_w _).trans hji18
           by_cases c19:0≤(ji18)
           ·rw [if_pos c19] at H;have c19b0:decide (0≤(ji18))=true:=decide_eq_true c19;clear c19
            by_cases c20:(ji18)<(l0_1.length:Int)
            ·rw [if_pos c20] at H;have c20b0:decide ((ji18)<(l0_1.length:Int))=true:=decide_eq_true c20;clear c20
             by_cases c21:((rd_T64 l0_1 (ji18)).f0) ≥ ((rd_T64 l0_1 x3_2).f0)
             ·rw [if_pos c21] at H;have c21b0:decide (((rd_T64 l0_1 x3_2).f0)≤((rd_T64 l0_1 (ji18)).f0))=true:=decide_eq_true c21;clear c21;obtain rfl:=Option.some.inj H;obtain ⟨hcz22_0,hcz22_1,hfz22_0,hfz22_1⟩:=box2 BK117.out
              try go_wp2
              replace BK117:=mA (blk_drew BK117.out);replace HB:=mA (below_drew1 HB.out);have p119:0≤(x3_2:Int):=of_decide_eq_true bA;have q119:x3_2<(l0_1.length:Int):=of_decide_eq_true bA;obtain ⟨ad119,e119,hs119⟩:=at_R64 HR0_1.out x3_2 p119 q119;cases e119;replace p119:=eq_true p119;replace q119:=eq_true q119;have p121:0≤(x3_2:Int):=of_decide_eq_true bA;have q121:x3_2<(l0_1.length:Int):=of_decide_eq_true bA;obtain ⟨ad121,e121,hs121⟩:=at_R64 HR0_1.out x3_2 p121 q121
              obtain rfl:ad119=ad121:=(by injection e121)
              replace p121:=eq_true p121;replace q121:=eq_true q121;have p122:0≤((ji18):Int):=of_decide_eq_true bA;have q122:(ji18)<(l0_1.length:Int):=of_decide_eq_true bA;obtain ⟨ad122,e122,hs122⟩:=at_R64 HR0_1.out (ji18) p122 q122
              obtain rfl:ad119=ad122:=(by injection e122)
              replace p122:=eq_true p122;replace q122:=eq_true q122;have p123:0≤(x3_2:Int):=of_decide_eq_true bA;have q123:x3_2<(l0_1.length:Int):=of_decide_eq_true bA;obtain ⟨ad123,e123,hs123⟩:=at_R64 HR0_1.out x3_2 p123 q123
              obtain rfl:ad119=ad123:=(by injection e123)
              replace p123:=eq_true p123;replace q123:=eq_true q123
              refine start_ (n:=38) (S:=fun w'=>w'.cell? ⟨gb117,0,none⟩=some (.int .i64 a0_0)∧w'.cell? ⟨gb117,1,none⟩=some (.slice (some ad119) l0_1.length c0_1)∧RS w' (ad119.add ((x3_2).toNat * 12)) (d64 (rd_T64 l0_1 x3_2))∧RS w' (ad119.add ((x3_2).toNat * 12)) (d64 (rd_T64 l0_1 x3_2))∧RS w' (ad119.add (((ji18)).toNat * 12)) (d64 (rd_T64 l0_1 (ji18)))∧RS w' (ad119.add ((x3_2).toNat * 12)) (d64 (rd_T64 l0_1 x3_2))) (ds:=[]) _ aK rfl rfl ⟨eC BK117 0,eC BK117 1,rS HB hs119,rS HB hs121,rS HB hs122,rS HB hs123⟩ (fun hHeld=>?_);refine with_tabW spec_SynVoterOk.tab6 spec_SynVoterOk.bits6 (fun HT_ HW_=>?_)
              generalize wr.drew=w23 at BK117 HB hHeld ⊢
              refine qu 0 ?_;refine qu 2 ?_;refine qt 1 ?_;refine qu 3 ?_;refine qt 4 ?_
              refine qo 5 ?_;intro K hK
              refine gD Try.func86 (spec_l21PaperOk.calls A11.out) ?_
              rintro e w24 ⟨rfl,hb⟩;refine ⟨_,rfl,?_⟩;replace BK117:=bK BK117 hb;replace HB:=spS HB hb
              (try clear hb)
              refine hK.out _ _ ⟨eC BK117 0,eC BK117 1,rS HB hs119,rS HB hs121,rS HB hs122,rS HB hs123⟩ (fun hHeld=>?_);clear hK K;refine no_ (some 26) ?_;refine qu 6 ?_;refine qu 7 ?_;refine qu 8 ?_;refine qu 10 ?_;refine qu 14 ?_;refine qt 9 ?_;refine qu 11 ?_;refine qu 12 ?_;refine qt 13 ?_;refine qt 15 ?_;refine qu 16 ?_;refine qu 17 ?_;refine qu 18 ?_;refine qu 19 ?_;refine qu 20 ?_;refine qu 21 ?_;refine qu 22 ?_;refine qu 24 ?_;refine qu 25 ?_;refine qu 29 ?_;refine qu 31 ?_;refine qt 23 ?_;refine qu 26 ?_;refine qu 27 ?_;refine qt 28 ?_;refine qt 30 ?_;refine qu 32 ?_;refine qu 33 ?_;refine qt 34 ?_;refine qu 35 ?_;refine qu 36 ?_;refine qu 37 ?_;refine qe ?_
              try go_wp2
              go_ret
              exact ⟨by first|rfl|(simp [errW_none,errW_some]<;>rfl)|(simp only [← hji18];first|rfl|(simp [errW_none,errW_some]<;>rfl))|(simp [*,errW_none,errW_some]<;>rfl),pS HB.out⟩
             ·rw [if_neg c21] at H;have c21b0:decide (((rd_T64 l0_1 x3_2).f0)≤((rd_T64 l0_1 (ji18)).f0))=false:=decide_eq_false c21;clear c21;have H':=mA H;clear H;obtain ⟨hcz25_0,hcz25_1,hfz25_0,hfz25_1⟩:=box2 BK117.out
              try go_wp2
              replace BK117:=mA (blk_drew BK117.out);replace HB:=mA (below_drew1 HB.out);have p119:0≤(x3_2:Int):=of_decide_eq_true bA;have q119:x3_2<(l0_1.length:Int):=of_decide_eq_true bA;obtain ⟨ad119,e119,hs119⟩:=at_R64 HR0_1.out x3_2 p119 q119;cases e119;replace p119:=eq_true p119;replace q119:=eq_true q119;have p121:0≤(x3_2:Int):=of_decide_eq_true bA;have q121:x3_2<(l0_1.length:Int):=of_decide_eq_true bA;obtain ⟨ad121,e121,hs121⟩:=at_R64 HR0_1.out x3_2 p121 q121
              obtain rfl:ad119=ad121:=(by injection e121)
              replace p121:=eq_true p121;replace q121:=eq_true q121;have p122:0≤((ji18):Int):=of_decide_eq_true bA;have q122:(ji18)<(l0_1.length:Int):=of_decide_eq_true bA;obtain ⟨ad122,e122,hs122⟩:=at_R64 HR0_1.out (ji18) p122 q122
              obtain rfl:ad119=ad122:=(by injection e122)
              replace p122:=eq_true p122;replace q122:=eq_true q122;have p123:0≤(x3_2:Int):=of_decide_eq_true bA;have q123:x3_2<(l0_1.length:Int):=of_decide_eq_true bA;obtain ⟨ad123,e123,hs123⟩:=at_R64 HR0_1.out x3_2 p123 q123
              obtain rfl:ad119=ad123:=(by injection e123)
              replace p123:=eq_true p123;replace q123:=eq_true q123
              refine start_ (n:=38) (S:=fun w'=>w'.cell? ⟨gb117,0,none⟩=some (.int .i64 a0_0)∧w'.cell? ⟨gb117,1,none⟩=some (.slice (some ad119) l0_1.length c0_1)∧RS w' (ad119.add ((x3_2).toNat * 12)) (d64 (rd_T64 l0_1 x3_2))∧RS w' (ad119.add ((x3_2).toNat * 12)) (d64 (rd_T64 l0_1 x3_2))∧RS w' (ad119.add (((ji18)).toNat * 12)) (d64 (rd_T64 l0_1 (ji18)))∧RS w' (ad119.add ((x3_2).toNat * 12)) (d64 (rd_T64 l0_1 x3_2))) (ds:=[]) _ aK rfl rfl ⟨eC BK117 0,eC BK117 1,rS HB hs119,rS HB hs121,rS HB hs122,rS HB hs123⟩ (fun hHeld=>?_);refine with_tabW spec_SynVoterOk.tab6 spec_SynVoterOk.bits6 (fun HT_ HW_=>?_)
              generalize wr.drew=w26 at BK117 HB hHeld ⊢
              refine qu 0 ?_;refine qu 2 ?_;refine qt 1 ?_;refine qu 3 ?_;refine qt 4 ?_
              refine qo 5 ?_;intro K hK
              refine gD Try.func86 (spec_l21PaperOk.calls A11.out) ?_
              rintro e w27 ⟨rfl,hb⟩;refine ⟨_,rfl,?_⟩;replace BK117:=bK BK117 hb;replace HB:=spS HB hb
              (try clear hb)
              refine hK.out _ _ ⟨eC BK117 0,eC BK117 1,rS HB hs119,rS HB hs121,rS HB hs122,rS HB hs123⟩ (fun hHeld=>?_);clear hK K;refine no_ (some 26) ?_;refine qu 6 ?_;refine qu 7 ?_;refine qu 8 ?_;refine qu 10 ?_;refine qu 14 ?_;refine qt 9 ?_;refine qu 11 ?_;refine qu 12 ?_;refine qt 13 ?_;refine qt 15 ?_;refine qu 16 ?_;refine qu 17 ?_;refine qu 18 ?_;refine qu 19 ?_;refine qu 20 ?_;refine qu 21 ?_;refine qu 22 ?_;refine qu 24 ?_;refine qu 25 ?_;refine qu 29 ?_;refine qu 31 ?_;refine qt 23 ?_;refine qu 26 ?_;refine qu 27 ?_;refine qt 28 ?_;refine qt 30 ?_;refine qu 32 ?_;refine qu 33 ?_;refine qt 34 ?_;refine qu 35 ?_;refine qu 36 ?_;refine qu 37 ?_;refine qe ?_
              try go_wp2
              go_roundg k2
              case measure=>have:=HJ1.out;have:=HK2.out;omega
              case rel=>exact ⟨(wrap64 (x3_2+1)),bZ,H',⟨by have:=HJ1.out;have:=HK2.out;omega⟩,⟨pK BK117.out⟩,⟨pS HB.out⟩⟩
            ·rw [if_neg c20] at H
             exact absurd H (by simp)
           ·rw [if_neg c19] at H
            exact absurd H (by simp)
          ·rw [if_neg c17] at H;have c17b0:decide (0<x3_2)=false:=decide_eq_false c17;clear c17;have H':=mA H;clear H;obtain ⟨hcz28_0,hcz28_1,hfz28_0,hfz28_1⟩:=box2 BK117.out
           try go_wp2
           replace BK117:=mA (blk_drew BK117.out);replace HB:=mA (below_drew1 HB.out);have p119:0≤(x3_2:Int):=of_decide_eq_true bA;have q119:x3_2<(l0_1.length:Int):=of_decide_eq_true bA;obtain ⟨ad119,e119,hs119⟩:=at_R64 HR0_1.out x3_2 p119 q119;cases e119;replace p119:=eq_true p119;replace q119:=eq_true q119;have p121:0≤(x3_2:Int):=of_decide_eq_true bA;have q121:x3_2<(l0_1.length:Int):=of_decide_eq_true bA;obtain ⟨ad121,e121,hs121⟩:=at_R64 HR0_1.out x3_2 p121 q121
           obtain rfl:ad119=ad121:=(by injection e121)
           replace p121:=eq_true p121;replace q121:=eq_true q121
           refine start_ (n:=38) (S:=fun w'=>w'.cell? ⟨gb117,0,none⟩=some (.int .i64 a0_0)∧w'.cell? ⟨gb117,1,none⟩=some (.slice (some ad119) l0_1.length c0_1)∧RS w' (ad119.add ((x3_2).toNat * 12)) (d64 (rd_T64 l0_1 x3_2))∧RS w' (ad119.add ((x3_2).toNat * 12)) (d64 (rd_T64 l0_1 x3_2))) (ds:=[]) _ aK rfl rfl ⟨eC BK117 0,eC BK117 1,rS HB hs119,rS HB hs121⟩ (fun hHeld=>?_);refine with_tabW spec_SynVoterOk.tab6 spec_SynVoterOk.bits6 (fun HT_ HW_=>?_)
           generalize wr.drew=w29 at BK117 HB hHeld ⊢
           refine qu 0 ?_;refine qu 2 ?_;refine qt 1 ?_;refine qu 3 ?_;refine qt 4 ?_
           refine qo 5 ?_;intro K hK
           refine gD Try.func86 (spec_l21PaperOk.calls A11.out) ?_
           rintro e w30 ⟨rfl,hb⟩;refine ⟨_,rfl,?_⟩;replace BK117:=bK BK117 hb;replace HB:=spS HB hb
           (try clear hb)
           refine hK.out _ _ ⟨eC BK117 0,eC BK117 1,rS HB hs119,rS HB hs121⟩ (fun hHeld=>?_);clear hK K;refine no_ (some 26) ?_;refine qu 6 ?_;refine qu 7 ?_;refine qu 8 ?_;refine qu 10 ?_;refine qu 14 ?_;refine qt 9 ?_;refine qu 11 ?_;refine qu 12 ?_;refine qt 13 ?_;refine qt 15 ?_;refine qu 16 ?_;refine qu 17 ?_;refine qu 18 ?_;refine qu 19 ?_;refine qu 20 ?_;refine qu 21 ?_;refine qd 22 ?_;refine qd 23 ?_;refine qd 24 ?_;refine qd 25 ?_;refine qd 26 ?_;refine qd 27 ?_;refine qd 28 ?_;refine qd 29 ?_;refine qd 30 ?_;refine qd 31 ?_;refine qd 32 ?_;refine qd 33 ?_;refine qd 34 ?_;refine qd 35 ?_;refine qu 36 ?_;refine qu 37 ?_;refine qe ?_
           try go_wp2
           go_roundg k2
           case measure=>have:=HJ1.out;have:=HK2.out;omega
           case rel=>exact ⟨(wrap64 (x3_2+1)),bZ,H',⟨by have:=HJ1.out;have:=HK2.out;omega⟩,⟨pK BK117.out⟩,⟨pS HB.out⟩⟩
        ·replace c12:=Bool.eq_false_iff.mpr c12;subst c12
         rw [if_neg nFT] at H
         obtain rfl:=Option.some.inj H;obtain ⟨hcz31_0,hcz31_1,hfz31_0,hfz31_1⟩:=box2 BK117.out
         try go_wp2
         replace BK117:=mA (blk_drew BK117.out);replace HB:=mA (below_drew1 HB.out);have p119:0≤(x3_2:Int):=of_decide_eq_true bA;have q119:x3_2<(l0_1.length:Int):=of_decide_eq_true bA;obtain ⟨ad119,e119,hs119⟩:=at_R64 HR0_1.out x3_2 p119 q119;cases e119;replace p119:=eq_true p119;replace q119:=eq_true q119
         refine start_ (n:=38) (S:=fun w'=>w'.cell? ⟨gb117,0,none⟩=some (.int .i64 a0_0)∧w'.cell? ⟨gb117,1,none⟩=some (.slice (some ad119) l0_1.length c0_1)∧RS w' (ad119.add ((x3_2).toNat * 12)) (d64 (rd_T64 l0_1 x3_2))) (ds:=[]) _ aK rfl rfl ⟨eC BK117 0,eC BK117 1,rS HB hs119⟩ (fun hHeld=>?_);refine with_tabW spec_SynVoterOk.tab6 spec_SynVoterOk.bits6 (fun HT_ HW_=>?_)
         generalize wr.drew=w32 at BK117 HB hHeld ⊢
         refine qu 0 ?_;refine qu 2 ?_;refine qt 1 ?_;refine qu 3 ?_;refine qt 4 ?_
         refine qo 5 ?_;intro K hK
         refine gD Try.func86 (spec_l21PaperOk.calls A11.out) ?_
         rintro e w33 ⟨rfl,hb⟩;refine ⟨_,rfl,?_⟩;replace BK117:=bK BK117 hb;replace HB:=spS HB hb
         (try clear hb)
         refine hK.out _ _ ⟨eC BK117 0,eC BK117 1,rS HB hs119⟩ (fun hHeld=>?_);clear hK K;refine no_ (some 26) ?_;refine qu 6 ?_;refine qu 7 ?_;refine qd 8 ?_;refine qd 9 ?_;refine qd 10 ?_;refine qd 11 ?_;refine qd 12 ?_;refine qd 13 ?_;refine qd 14 ?_;refine qd 15 ?_;refine qd 16 ?_;refine qu 17 ?_;refine qu 18 ?_;refine qd 19 ?_;refine qd 20 ?_;refine qd 21 ?_;refine qd 22 ?_;refine qd 23 ?_;refine qd 24 ?_;refine qd 25 ?_;refine qd 26 ?_;refine qd 27 ?_;refine qd 28 ?_;refine qd 29 ?_;refine qd 30 ?_;refine qd 31 ?_;refine qd 32 ?_;refine qd 33 ?_;refine qd 34 ?_;refine qd 35 ?_;refine qd 36 ?_;refine qu 37 ?_;refine qe ?_
         try go_wp2
         go_ret
         exact rZ (pS HB.out)
       ·rw [if_neg c10] at H
        exact absurd H (by simp)
      ·rw [if_neg c9] at H;have c9b0:decide (x3_2<(l0_1.length:Int))=false:=decide_eq_false c9;clear c9;obtain rfl:=Option.some.inj H;obtain ⟨hcz34_0,hcz34_1,hfz34_0,hfz34_1⟩:=box2 BK117.out
       go_wp2
       go_ret
       exact rZ (pS HB.out)
/-! ### impl_in: function 74 -/
def impl_in.f (a0 a1 a2 : Int) : Option (Bool) := if a0 ≥ a1 then (some (decide (a0 ≤ a2))) else (some false)
set_option maxHeartbeats 8000000 in
set_option maxRecDepth 100000 in
theorem impl_in.calls {a0 a1 a2 : Int} {r : Bool} {w : World} (h : impl_in.f a0 a1 a2 = some r) :
  Calls Try.prog 74 #[.int .i64 a0,.int .i64 a1,.int .i64 a2] w fun e w'=>e=.returned (.bool r)∧Drawn0 w w':=by
 have H:(if a0 ≥ a1 then (some (decide (a0≤a2))) else (some false))=some r:=h;clear h
 by_cases c4:a0 ≥ a1
 ·rw [if_pos c4] at H;have c4b0:decide (a1≤a0)=true:=decide_eq_true c4;clear c4;obtain rfl:=Option.some.inj H
  go_enter Try.func74,Try.ntmps74
  go_wp2
  go_ret
  exact ⟨by first|rfl|(simp;done)|(simp [*];done),by repeat (first|exact Drawn0.refl _|apply Drawn0.step)⟩
 ·rw [if_neg c4] at H;have c4b0:decide (a1≤a0)=false:=decide_eq_false c4;clear c4;obtain rfl:=Option.some.inj H
  go_enter Try.func74,Try.ntmps74
  go_wp2
  go_ret
  exact ⟨by first|rfl|(simp;done)|(simp [*];done),by repeat (first|exact Drawn0.refl _|apply Drawn0.step)⟩
/-! ### impl_numbersOk: function 79 -/
def impl_numbersOk.l0 : Nat → List Int → Int → Int → Option (Bool)
 | 0,_,_,_=>none
 | k+1,x5,x6,x7=>if x7<x6 then (if 0≤x7 then (if x7<(x5.length:Int) then ((impl_in.f (rd x5 x7) (-1) 99999).bind fun t125=>(if t125=true then (impl_numbersOk.l0 k x5 x6 (wrap64 (x7+1))) else (some false))) else (none)) else (none)) else (some true)
def impl_numbersOk.f (k : Nat) (l0 : List Int) : Option (Bool) := impl_numbersOk.l0 k l0 (l0.length : Int) 0
set_option maxHeartbeats 8000000 in
set_option maxRecDepth 100000 in
theorem impl_numbersOk.calls {k : Nat} {A0 : Option Addr} {c0 : Nat} {l0 : List Int} {r : Bool} {w : World} (hr0 : Kd.C (Kd.int .i64) w A0 l0.length l0) (hc0 : l0.length ≤ c0) (h : impl_numbersOk.f k l0 = some r) :
  Calls Try.prog 79 #[.slice A0 l0.length c0] w fun e w'=>e=.returned (.bool r)∧Drawn0 w w':=by
 have HR0:=mA hr0;have HC0:=mA hc0;clear hr0 hc0;have H:(impl_numbersOk.l0 k l0 (l0.length:Int) 0)=some r:=h;clear h;have H':=mA H;clear H
 go_enter Try.func79,Try.ntmps79
 go_wp2
 go_loopg [7] k (fun kq v7 w'=>∃ (x7_1:Int),v7=.int .i64 x7_1∧Aside0 (impl_numbersOk.l0 kq l0 (l0.length:Int) x7_1=some r)∧Aside0 (kq≤k)∧Drawn0 w w')
 case atStart=>exact ⟨(0),bZ,H',⟨Nat.le_refl _⟩,by repeat (first|exact Drawn0.refl _|apply Drawn0.step)⟩
 case round =>
  clear H';obtain ⟨x7_1,rfl,HA,HK1,⟨m1,rfl⟩⟩:=hrel
  cases gk with
  | zero=>exact absurd HA.out (by simp [impl_numbersOk.l0])
  | succ k1 =>
   have H:=HA.out;clear HA;simp only [impl_numbersOk.l0] at H
   by_cases c2:x7_1<(l0.length:Int)
   ·rw [if_pos c2] at H;have c2b0:decide (x7_1<(l0.length:Int))=true:=decide_eq_true c2;clear c2
    by_cases c3:0≤x7_1
    ·rw [if_pos c3] at H;have c3b0:decide (0≤x7_1)=true:=decide_eq_true c3;clear c3
     by_cases c4:x7_1<(l0.length:Int)
     ·rw [if_pos c4] at H;have c4b0:decide (x7_1<(l0.length:Int))=true:=decide_eq_true c4;clear c4;obtain ⟨t125,A5,H⟩:=bI H;(try dsimp only at H)
      by_cases c6:t125=true
      ·subst c6;rw [if_pos rfl] at H;have H':=mA H;clear H;have p124:0≤(x7_1:Int):=of_decide_eq_true bA;have q124:x7_1<(l0.length:Int):=of_decide_eq_true bA;obtain ⟨ad124,e124,hx124_0⟩:=Kd.at_int HR0.out x7_1 p124 q124;cases e124;replace p124:=eq_true p124;replace q124:=eq_true q124
       go_wp2_with (first|((with_reducible refine gT 12 rfl ?_);refine gC (some 12) Try.func74 (impl_in.calls A5.out) ?_;rintro e w' ⟨rfl,⟨nd,rfl⟩⟩;refine ⟨_,rfl,?_⟩))
       go_roundg k1
       case measure=>have:=HK1.out;omega
       case rel=>exact ⟨(wrap64 (x7_1+1)),bZ,H',⟨by have:=HK1.out;omega⟩,by repeat (first|exact Drawn0.refl _|apply Drawn0.step)⟩
      ·replace c6:=Bool.eq_false_iff.mpr c6;subst c6
       rw [if_neg nFT] at H
       obtain rfl:=Option.some.inj H;have p124:0≤(x7_1:Int):=of_decide_eq_true bA;have q124:x7_1<(l0.length:Int):=of_decide_eq_true bA;obtain ⟨ad124,e124,hx124_0⟩:=Kd.at_int HR0.out x7_1 p124 q124;cases e124;replace p124:=eq_true p124;replace q124:=eq_true q124
       go_wp2_with (first|((with_reducible refine gT 12 rfl ?_);refine gC (some 12) Try.func74 (impl_in.calls A5.out) ?_;rintro e w' ⟨rfl,⟨nd,rfl⟩⟩;refine ⟨_,rfl,?_⟩))
       go_ret
       exact ⟨by first|rfl|(simp;done)|(simp [*];done),by repeat (first|exact Drawn0.refl _|apply Drawn0.step)⟩
     ·rw [if_neg c4] at H
      exact absurd H (by simp)
    ·rw [if_neg c3] at H
     exact absurd H (by simp)
   ·rw [if_neg c2] at H;have c2b0:decide (x7_1<(l0.length:Int))=false:=decide_eq_false c2;clear c2;obtain rfl:=Option.some.inj H
    go_wp2
    go_ret
    exact ⟨by first|rfl|(simp;done)|(simp [*];done),by repeat (first|exact Drawn0.refl _|apply Drawn0.step)⟩
/-! ### impl_cmdNumbers: function 126 -/
def impl_cmdNumbers.f (a0_0 a0_1 a0_2 a0_3 a0_4 a0_5 a0_6 a0_7 a0_8 a0_9 : Int) : Option (List Int) := some (([a0_0, a0_1, a0_2, a0_3, a0_4, a0_5, a0_6, a0_7, a0_8, a0_9] : List Int))
set_option maxHeartbeats 8000000 in
set_option maxRecDepth 100000 in
theorem impl_cmdNumbers.calls {a0_0 a0_1 a0_2 a0_3 a0_4 a0_5 a0_6 a0_7 a0_8 a0_9 : Int} {r : List Int} {w : World} (h : impl_cmdNumbers.f a0_0 a0_1 a0_2 a0_3 a0_4 a0_5 a0_6 a0_7 a0_8 a0_9 = some r) :
  Calls Try.prog 126 #[.agg #[.int .i64 a0_0,.int .i64 a0_1,.int .i64 a0_2,.int .i64 a0_3,.int .i64 a0_4,.int .i64 a0_5,.int .i64 a0_6,.int .i64 a0_7,.int .i64 a0_8,.int .i64 a0_9]] w fun e w'=>∃ v0_:Value,e=.returned (v0_)∧Kd.R (Kd.int .i64) 3 w' w.heap.size (fun _=>True) v0_ r∧Below w.heap.size w w':=by
 have hu24:=Try.underlying24;have HB:=mA (Below.refl w.heap.size w);have H:(some (([a0_0,a0_1,a0_2,a0_3,a0_4,a0_5,a0_6,a0_7,a0_8,a0_9]:List Int)))=some r:=h;clear h;obtain ⟨y127,hy127⟩:∃ y_:List Int,y_=(([a0_0,a0_1,a0_2,a0_3,a0_4,a0_5,a0_6,a0_7,a0_8,a0_9]:List Int)):=⟨_,rfl⟩
 replace H:(some y127)=some r:=qH hy127 H
 have Ny127:=mA hy127;clear hy127;obtain rfl:=Option.some.inj H
 go_enter Try.func126,Try.ntmps126
 go_wp2_with (first|((with_reducible refine gLg rfl (by assumption) ?_);refine ldV ?_)|((with_reducible refine gSt rfl (by assumption) ?_);refine stV ?_)|((with_reducible refine gT 1 rfl ?_);refine bX 1 ?_;intro gb126 hg w2 hbox hb;have BK126:=mA hbox;have GW126:=gbpB HB hg;have GE126:=gbpB HB hg;replace HB:=spB HB hb;clear hb hbox hg;have hcz3_0:=fun i_=>blk_cell BK126.out i_;have hfz3_0:=fun i_=>blk_frozen BK126.out i_)|((with_reducible refine gT 23 rfl ?_);refine Kd.R_lit (Kd.int .i64) _ 3 ?hg (N:=23) ?hd (xs:=([a0_0,a0_1,a0_2,a0_3,a0_4,a0_5,a0_6,a0_7,a0_8,a0_9]:List Int)) (inner:=[.int .i64 a0_0,.int .i64 a0_1,.int .i64 a0_2,.int .i64 a0_3,.int .i64 a0_4,.int .i64 a0_5,.int .i64 a0_6,.int .i64 a0_7,.int .i64 a0_8,.int .i64 a0_9]) (ok:=fun _=>True) (okp:=fun _=>True) ?hr ?hp (fun _ hk=>hk) trivial (Below.refl _ _) (Nat.le_refl _) (by simp) ?_;(case hd=>rfl);(case hg=>rfl);(case hr=>first|(go_simp;done)|(go_simp;rfl));(case hp=>repeat (first|exact Reps.none _ _|refine Reps.one (show Kd.M (Kd.int .i64) _ _ _ _ [_] from rfl) ?_));intro v128 w4 ho5 hb hg_ hnew_;clear hg_ hnew_;(first|rw [← Ny127.out] at ho5|(simp only [Int.reduceToNat] at ho5;rw [← Ny127.out] at ho5));have HO129:=mA (Kd.R_lower ho5 (bpS HB));replace BK126:=bK BK126 hb;replace HB:=spS HB hb;clear hb ho5))
 go_ret
 exact ⟨_,by first|rfl|(simp [errW_none,errW_some]<;>rfl)|(simp [*,errW_none,errW_some]<;>rfl),pR HO129.out,pS HB.out⟩
/-! ### impl_cmdOk: function 76 -/
def impl_cmdOk.f (k : Nat) (a0_0 a0_1 a0_2 a0_3 a0_4 a0_5 a0_6 a0_7 a0_8 a0_9 : Int) : Option (Bool) := (impl_in.f a0_0 0 7).bind fun t131 => (if t131 = true then ((impl_cmdNumbers.f a0_0 a0_1 a0_2 a0_3 a0_4 a0_5 a0_6 a0_7 a0_8 a0_9).bind fun t132 => ((impl_numbersOk.f k t132).bind fun t135 => (some t135))) else (some false))
set_option maxHeartbeats 8000000 in
set_option maxRecDepth 100000 in
theorem impl_cmdOk.calls {k : Nat} {a0_0 a0_1 a0_2 a0_3 a0_4 a0_5 a0_6 a0_7 a0_8 a0_9 : Int} {r : Bool} {w : World} (h : impl_cmdOk.f k a0_0 a0_1 a0_2 a0_3 a0_4 a0_5 a0_6 a0_7 a0_8 a0_9 = some r) :
  Calls Try.prog 76 #[.agg #[.int .i64 a0_0,.int .i64 a0_1,.int .i64 a0_2,.int .i64 a0_3,.int .i64 a0_4,.int .i64 a0_5,.int .i64 a0_6,.int .i64 a0_7,.int .i64 a0_8,.int .i64 a0_9]] w fun e w'=>e=.returned (.bool r)∧Below w.heap.size w w':=by
 have hu24:=Try.underlying24;have HB:=mA (Below.refl w.heap.size w);have H:((impl_in.f a0_0 0 7).bind fun t131=>(if t131=true then ((impl_cmdNumbers.f a0_0 a0_1 a0_2 a0_3 a0_4 a0_5 a0_6 a0_7 a0_8 a0_9).bind fun t132=>((impl_numbersOk.f k t132).bind fun t135=>(some t135))) else (some false)))=some r:=h;clear h;obtain ⟨t131,A2,H⟩:=bI H;(try dsimp only at H)
 by_cases c3:t131=true
 ·subst c3;rw [if_pos rfl] at H;obtain ⟨t132,A4,H⟩:=bI H;(try dsimp only at H);obtain ⟨t135,A5,H⟩:=bI H;(try dsimp only at H);obtain rfl:=Option.some.inj H
  go_enter Try.func76,Try.ntmps76
  go_wp2_with (first|((with_reducible refine gLg rfl (by assumption) ?_);refine ldV ?_)|((with_reducible refine gSt rfl (by assumption) ?_);refine stV ?_)|((with_reducible refine gT 1 rfl ?_);refine bX 1 ?_;intro gb130 hg w6 hbox hb;have BK130:=mA hbox;have GW130:=gbpB HB hg;have GE130:=gbpB HB hg;replace HB:=spB HB hb;clear hb hbox hg;have hcz7_0:=fun i_=>blk_cell BK130.out i_;have hfz7_0:=fun i_=>blk_frozen BK130.out i_)|((with_reducible refine gT 5 rfl ?_);refine gC (some 5) Try.func74 (impl_in.calls A2.out) ?_;rintro e w' ⟨rfl,⟨nd,rfl⟩⟩;refine ⟨_,rfl,?_⟩)|(go_at_call 126;(with_reducible refine (impl_cmdNumbers.calls A4.out).mono ?_);rintro e w8 ⟨v133,rfl,ho0,hb⟩;have HO134:=mA (Kd.R_lower ho0 (bpS HB));replace BK130:=bK BK130 hb;replace HB:=spS HB hb;(try clear hb);(try clear ho0);obtain ⟨Ao9,co9,rfl⟩:=Kd.R_slice HO134.out)|(go_at_call 79;(with_reducible refine (impl_numbersOk.calls ?s1 ?s2 A5.out).mono ?_);(case s1=>exact cR HO134);(case s2=>exact cL HO134);rintro e w' ⟨rfl,⟨nd,rfl⟩⟩))
  go_ret
  exact rZ (pS HB.out)
 ·replace c3:=Bool.eq_false_iff.mpr c3;subst c3
  rw [if_neg nFT] at H
  obtain rfl:=Option.some.inj H
  go_enter Try.func76,Try.ntmps76
  go_wp2_with (first|((with_reducible refine gLg rfl (by assumption) ?_);refine ldV ?_)|((with_reducible refine gSt rfl (by assumption) ?_);refine stV ?_)|((with_reducible refine gT 1 rfl ?_);refine bX 1 ?_;intro gb130 hg w10 hbox hb;have BK130:=mA hbox;have GW130:=gbpB HB hg;have GE130:=gbpB HB hg;replace HB:=spB HB hb;clear hb hbox hg;have hcz11_0:=fun i_=>blk_cell BK130.out i_;have hfz11_0:=fun i_=>blk_frozen BK130.out i_)|((with_reducible refine gT 5 rfl ?_);refine gC (some 5) Try.func74 (impl_in.calls A2.out) ?_;rintro e w' ⟨rfl,⟨nd,rfl⟩⟩;refine ⟨_,rfl,?_⟩))
  go_ret
  exact rZ (pS HB.out)
/-! ### impl_paperOk: function 88 -/
def impl_paperOk.f (k : Nat) (a0_0 a0_1 a0_2 a0_3 a0_4 a0_5 a0_6 a0_7 a0_8 a0_9 a0_10 a0_11 : Int) : Option (Bool) := (impl_in.f a0_0 1 60).bind fun t137 => (if t137 = true then ((impl_in.f a0_1 1 99999).bind fun t138 => (if t138 = true then ((impl_cmdOk.f k a0_2 a0_3 a0_4 a0_5 a0_6 a0_7 a0_8 a0_9 a0_10 a0_11).bind fun t139 => (some t139)) else (some false))) else (some false))
set_option maxHeartbeats 8000000 in
set_option maxRecDepth 100000 in
theorem impl_paperOk.calls {k : Nat} {a0_0 a0_1 a0_2 a0_3 a0_4 a0_5 a0_6 a0_7 a0_8 a0_9 a0_10 a0_11 : Int} {r : Bool} {w : World} (h : impl_paperOk.f k a0_0 a0_1 a0_2 a0_3 a0_4 a0_5 a0_6 a0_7 a0_8 a0_9 a0_10 a0_11 = some r) :
  Calls Try.prog 88 #[.agg #[.int .i64 a0_0,.int .i64 a0_1,.int .i64 a0_2,.int .i64 a0_3,.int .i64 a0_4,.int .i64 a0_5,.int .i64 a0_6,.int .i64 a0_7,.int .i64 a0_8,.int .i64 a0_9,.int .i64 a0_10,.int .i64 a0_11]] w fun e w'=>e=.returned (.bool r)∧Below w.heap.size w w':=by
 have hu64:=Try.underlying64;have hu24:=Try.underlying24;have HB:=mA (Below.refl w.heap.size w);have H:((impl_in.f a0_0 1 60).bind fun t137=>(if t137=true then ((impl_in.f a0_1 1 99999).bind fun t138=>(if t138=true then ((impl_cmdOk.f k a0_2 a0_3 a0_4 a0_5 a0_6 a0_7 a0_8 a0_9 a0_10 a0_11).bind fun t139=>(some t139)) else (some false))) else (some false)))=some r:=h;clear h;obtain ⟨t137,A2,H⟩:=bI H;(try dsimp only at H)
 by_cases c3:t137=true
 ·subst c3;rw [if_pos rfl] at H;obtain ⟨t138,A4,H⟩:=bI H;(try dsimp only at H)
  by_cases c5:t138=true
  ·subst c5;rw [if_pos rfl] at H;obtain ⟨t139,A6,H⟩:=bI H;(try dsimp only at H);obtain rfl:=Option.some.inj H
   go_enter Try.func88,Try.ntmps88
   go_wp2_with (first|((with_reducible refine gLg rfl (by assumption) ?_);refine ldV ?_)|((with_reducible refine gSt rfl (by assumption) ?_);refine stV ?_)|((with_reducible refine gT 1 rfl ?_);refine bX 1 ?_;intro gb136 hg w7 hbox hb;have BK136:=mA hbox;have GW136:=gbpB HB hg;have GE136:=gbpB HB hg;replace HB:=spB HB hb;clear hb hbox hg;have hcz8_0:=fun i_=>blk_cell BK136.out i_;have hfz8_0:=fun i_=>blk_frozen BK136.out i_)|((with_reducible refine gT 5 rfl ?_);refine gC (some 5) Try.func74 (impl_in.calls A2.out) ?_;rintro e w' ⟨rfl,⟨nd,rfl⟩⟩;refine ⟨_,rfl,?_⟩)|(go_at_call 74;(with_reducible refine (impl_in.calls A4.out).mono ?_);rintro e w' ⟨rfl,⟨nd,rfl⟩⟩)|(go_at_call 76;(with_reducible refine (impl_cmdOk.calls A6.out).mono ?_);rintro e w9 ⟨rfl,hb⟩;replace BK136:=bK BK136 hb;replace HB:=spS HB hb;(try clear hb)))
   go_ret
   exact rZ (pS HB.out)
  ·replace c5:=Bool.eq_false_iff.mpr c5;subst c5
   rw [if_neg nFT] at H
   obtain rfl:=Option.some.inj H
   go_enter Try.func88,Try.ntmps88
   go_wp2_with (first|((with_reducible refine gLg rfl (by assumption) ?_);refine ldV ?_)|((with_reducible refine gSt rfl (by assumption) ?_);refine stV ?_)|((with_reducible refine gT 1 rfl ?_);refine bX 1 ?_;intro gb136 hg w10 hbox hb;have BK136:=mA hbox;have GW136:=gbpB HB hg;have GE136:=gbpB HB hg;replace HB:=spB HB hb;clear hb hbox hg;have hcz11_0:=fun i_=>blk_cell BK136.out i_;have hfz11_0:=fun i_=>blk_frozen BK136.out i_)|((with_reducible refine gT 5 rfl ?_);refine gC (some 5) Try.func74 (impl_in.calls A2.out) ?_;rintro e w' ⟨rfl,⟨nd,rfl⟩⟩;refine ⟨_,rfl,?_⟩)|(go_at_call 74;(with_reducible refine (impl_in.calls A4.out).mono ?_);rintro e w' ⟨rfl,⟨nd,rfl⟩⟩))
   go_ret
   exact rZ (pS HB.out)
 ·replace c3:=Bool.eq_false_iff.mpr c3;subst c3
  rw [if_neg nFT] at H
  obtain rfl:=Option.some.inj H
  go_enter Try.func88,Try.ntmps88
  go_wp2_with (first|((with_reducible refine gLg rfl (by assumption) ?_);refine ldV ?_)|((with_reducible refine gSt rfl (by assumption) ?_);refine stV ?_)|((with_reducible refine gT 1 rfl ?_);refine bX 1 ?_;intro gb136 hg w12 hbox hb;have BK136:=mA hbox;have GW136:=gbpB HB hg;have GE136:=gbpB HB hg;replace HB:=spB HB hb;clear hb hbox hg;have hcz13_0:=fun i_=>blk_cell BK136.out i_;have hfz13_0:=fun i_=>blk_frozen BK136.out i_)|((with_reducible refine gT 5 rfl ?_);refine gC (some 5) Try.func74 (impl_in.calls A2.out) ?_;rintro e w' ⟨rfl,⟨nd,rfl⟩⟩;refine ⟨_,rfl,?_⟩))
  go_ret
  exact rZ (pS HB.out)
end Go.Proofs.Ytoieojmfkkidnaa.P
