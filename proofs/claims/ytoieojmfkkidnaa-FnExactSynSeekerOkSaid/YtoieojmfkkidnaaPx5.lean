-- printed by pprint.py (this session's program over the kit's printer) out of the translation. Lean checks it.
import Derived.Test.YtoieojmfkkidnaaPx0
namespace Go.Proofs.Ytoieojmfkkidnaa.P
open Go.RowKit Go.Proofs.YtoieojmfkkidnaaX Go.Proofs.YtoieojmfkkidnaaW.PrintWords Go.Proofs.YtoieojmfkkidnaaW.PrintLast Go.Proofs.YtoieojmfkkidnaaW.PrintMore
attribute [local go_sem] max2_int min2_int max_two min_two max_three min_three max_four min_four   -- for this text's walks alone
set_option linter.unusedVariables false
set_option linter.unusedSimpArgs false

/-! ### spec_l6In: function 67 -/
def spec_l6In.f (a0 : Int) (a1 : Int) (a2 : Int) : Option (Bool) := if a0 ≥ a1 then (some (decide (a0 ≤ a2))) else (some false)
set_option maxHeartbeats 8000000 in
set_option maxRecDepth 100000 in
theorem spec_l6In.calls {a0 : Int} {a1 : Int} {a2 : Int} {r : Bool} {w : World} (h : spec_l6In.f a0 a1 a2 = some r) :
  Calls Try.prog 67 #[.int .i64 a0,.int .i64 a1,.int .i64 a2] w fun e w'=>e=.returned (.bool r)∧Drawn0 w w':=by
 have H:(if a0 ≥ a1 then (some (decide (a0≤a2))) else (some false))=some r:=h;clear h
 by_cases c4:a0 ≥ a1
 ·rw [if_pos c4] at H;have c4b0:decide (a1≤a0)=true:=decide_eq_true c4;clear c4;obtain rfl:=Option.some.inj H
  go_enter Try.func67,Try.ntmps67
  go_wp2
  go_ret
  exact ⟨by first|rfl|(simp;done)|(simp [*];done),by repeat (first|exact Drawn0.refl _|apply Drawn0.step)⟩
 ·rw [if_neg c4] at H;have c4b0:decide (a1≤a0)=false:=decide_eq_false c4;clear c4;obtain rfl:=Option.some.inj H
  go_enter Try.func67,Try.ntmps67
  go_wp2
  go_ret
  exact ⟨by first|rfl|(simp;done)|(simp [*];done),by repeat (first|exact Drawn0.refl _|apply Drawn0.step)⟩

/-! ### spec_l11Num: function 66 -/
def spec_l11Num.f (a0 : Int) : Option (Bool) := (spec_l6In.f a0 (-1) 99999).bind fun t399 => (some t399)
set_option maxHeartbeats 8000000 in
set_option maxRecDepth 100000 in
theorem spec_l11Num.calls {a0 : Int} {r : Bool} {w : World} (h : spec_l11Num.f a0 = some r) :
  Calls Try.prog 66 #[.int .i64 a0] w fun e w'=>e=.returned (.bool r)∧Drawn0 w w':=by
 have H:((spec_l6In.f a0 (-1) 99999).bind fun t399=>(some t399))=some r:=h;clear h;obtain ⟨t399,A2,H⟩:=bI H;(try dsimp only at H);obtain rfl:=Option.some.inj H
 go_enter Try.func66,Try.ntmps66
 go_wp2_with (first|((with_reducible refine gT 4 rfl ?_);refine gC (some 4) Try.func67 (spec_l6In.calls A2.out) ?_;rintro e w' ⟨rfl,⟨nd,rfl⟩⟩;refine ⟨_,rfl,?_⟩))
 go_ret
 exact ⟨by first|rfl|(simp;done)|(simp [*];done),by repeat (first|exact Drawn0.refl _|apply Drawn0.step)⟩

/-! ### spec_l11CmdOk: function 69 -/
def spec_l11CmdOk.f (a0_0 : Int) (a0_1 : Int) (a0_2 : Int) (a0_3 : Int) (a0_4 : Int) (a0_5 : Int) (a0_6 : Int) (a0_7 : Int) (a0_8 : Int) (a0_9 : Int) : Option (Bool) := (spec_l6In.f a0_0 0 7).bind fun t403 => (if t403 = true then ((spec_l11Num.f a0_1).bind fun t404 => (if t404 = true then ((spec_l11Num.f a0_2).bind fun t405 => (if t405 = true then ((spec_l11Num.f a0_3).bind fun t406 => (if t406 = true then ((spec_l11Num.f a0_4).bind fun t407 => (if t407 = true then ((spec_l11Num.f a0_5).bind fun t408 => (if t408 = true then ((spec_l11Num.f a0_6).bind fun t409 => (if t409 = true then ((spec_l11Num.f a0_7).bind fun t410 => (if t410 = true then ((spec_l11Num.f a0_8).bind fun t411 => (if t411 = true then ((spec_l11Num.f a0_9).bind fun t412 => (some t412)) else (some false))) else (some false))) else (some false))) else (some false))) else (some false))) else (some false))) else (some false))) else (some false))) else (some false))
set_option maxHeartbeats 8000000 in
set_option maxRecDepth 100000 in
theorem spec_l11CmdOk.calls {a0_0 : Int} {a0_1 : Int} {a0_2 : Int} {a0_3 : Int} {a0_4 : Int} {a0_5 : Int} {a0_6 : Int} {a0_7 : Int} {a0_8 : Int} {a0_9 : Int} {r : Bool} {w : World} (h : spec_l11CmdOk.f a0_0 a0_1 a0_2 a0_3 a0_4 a0_5 a0_6 a0_7 a0_8 a0_9 = some r) :
  Calls Try.prog 69 #[.agg #[.int .i64 a0_0,.int .i64 a0_1,.int .i64 a0_2,.int .i64 a0_3,.int .i64 a0_4,.int .i64 a0_5,.int .i64 a0_6,.int .i64 a0_7,.int .i64 a0_8,.int .i64 a0_9]] w fun e w'=>e=.returned (.bool r)∧Below w.heap.size w w':=by
 have hu24:=Try.underlying24;have HB:=mA (Below.refl w.heap.size w);have H:((spec_l6In.f a0_0 0 7).bind fun t403=>(if t403=true then ((spec_l11Num.f a0_1).bind fun t404=>(if t404=true then ((spec_l11Num.f a0_2).bind fun t405=>(if t405=true then ((spec_l11Num.f a0_3).bind fun t406=>(if t406=true then ((spec_l11Num.f a0_4).bind fun t407=>(if t407=true then ((spec_l11Num.f a0_5).bind fun t408=>(if t408=true then ((spec_l11Num.f a0_6).bind fun t409=>(if t409=true then ((spec_l11Num.f a0_7).bind fun t410=>(if t410=true then ((spec_l11Num.f a0_8).bind fun t411=>(if t411=true then ((spec_l11Num.f a0_9).bind fun t412=>(some t412)) else (some false))) else (some false))) else (some false))) else (some false))) else (some false))) else (some false))) else (some false))) else (some false))) else (some false)))=some r:=h;clear h;obtain ⟨t403,A2,H⟩:=bI H;(try dsimp only at H)
 by_cases c3:t403=true
 ·subst c3;rw [if_pos rfl] at H;obtain ⟨t404,A4,H⟩:=bI H;(try dsimp only at H)
  by_cases c5:t404=true
  ·subst c5;rw [if_pos rfl] at H;obtain ⟨t405,A6,H⟩:=bI H;(try dsimp only at H)
   by_cases c7:t405=true
   ·subst c7;rw [if_pos rfl] at H;obtain ⟨t406,A8,H⟩:=bI H;(try dsimp only at H)
    by_cases c9:t406=true
    ·subst c9;rw [if_pos rfl] at H;obtain ⟨t407,A10,H⟩:=bI H;(try dsimp only at H)
     by_cases c11:t407=true
     ·subst c11;rw [if_pos rfl] at H;obtain ⟨t408,A12,H⟩:=bI H;(try dsimp only at H)
      by_cases c13:t408=true
      ·subst c13;rw [if_pos rfl] at H;obtain ⟨t409,A14,H⟩:=bI H;(try dsimp only at H)
       by_cases c15:t409=true
       ·subst c15;rw [if_pos rfl] at H;obtain ⟨t410,A16,H⟩:=bI H;(try dsimp only at H)
        by_cases c17:t410=true
        ·subst c17;rw [if_pos rfl] at H;obtain ⟨t411,A18,H⟩:=bI H;(try dsimp only at H)
         by_cases c19:t411=true
         ·subst c19;rw [if_pos rfl] at H;obtain ⟨t412,A20,H⟩:=bI H;(try dsimp only at H);obtain rfl:=Option.some.inj H
          go_enter Try.func69,Try.ntmps69
          go_wp2_with (first|((with_reducible refine gLg rfl (by assumption) ?_);refine ldV ?_)|((with_reducible refine gSt rfl (by assumption) ?_);refine stV ?_)|((with_reducible refine gT 1 rfl ?_);refine bE 1 #[.int .i64 a0_0,.int .i64 a0_1,.int .i64 a0_2,.int .i64 a0_3,.int .i64 a0_4,.int .i64 a0_5,.int .i64 a0_6,.int .i64 a0_7,.int .i64 a0_8,.int .i64 a0_9] 24 ?_;intro gb402 hg w21 hbox hb;have BK402:=mA hbox;have GW402:=gbpB HB hg;have GE402:=gbpB HB hg;replace HB:=spB HB hb;clear hb hbox hg;have hcz22_0:=fun i_=>blk_cell BK402.out i_;have hfz22_0:=fun i_=>blk_frozen BK402.out i_)|((with_reducible refine gT 5 rfl ?_);refine gC (some 5) Try.func67 (spec_l6In.calls A2.out) ?_;rintro e w' ⟨rfl,⟨nd,rfl⟩⟩;refine ⟨_,rfl,?_⟩)|(go_at_call 66;(with_reducible refine (spec_l11Num.calls A4.out).mono ?_);rintro e w' ⟨rfl,⟨nd,rfl⟩⟩)|(go_at_call 66;(with_reducible refine (spec_l11Num.calls A6.out).mono ?_);rintro e w' ⟨rfl,⟨nd,rfl⟩⟩)|(go_at_call 66;(with_reducible refine (spec_l11Num.calls A8.out).mono ?_);rintro e w' ⟨rfl,⟨nd,rfl⟩⟩)|(go_at_call 66;(with_reducible refine (spec_l11Num.calls A10.out).mono ?_);rintro e w' ⟨rfl,⟨nd,rfl⟩⟩)|(go_at_call 66;(with_reducible refine (spec_l11Num.calls A12.out).mono ?_);rintro e w' ⟨rfl,⟨nd,rfl⟩⟩)|(go_at_call 66;(with_reducible refine (spec_l11Num.calls A14.out).mono ?_);rintro e w' ⟨rfl,⟨nd,rfl⟩⟩)|(go_at_call 66;(with_reducible refine (spec_l11Num.calls A16.out).mono ?_);rintro e w' ⟨rfl,⟨nd,rfl⟩⟩)|(go_at_call 66;(with_reducible refine (spec_l11Num.calls A18.out).mono ?_);rintro e w' ⟨rfl,⟨nd,rfl⟩⟩)|(go_at_call 66;(with_reducible refine (spec_l11Num.calls A20.out).mono ?_);rintro e w' ⟨rfl,⟨nd,rfl⟩⟩))
          go_ret
          exact rZ (pS HB.out)
         ·replace c19:=Bool.eq_false_iff.mpr c19;subst c19
          rw [if_neg nFT] at H
          obtain rfl:=Option.some.inj H
          go_enter Try.func69,Try.ntmps69
          go_wp2_with (first|((with_reducible refine gLg rfl (by assumption) ?_);refine ldV ?_)|((with_reducible refine gSt rfl (by assumption) ?_);refine stV ?_)|((with_reducible refine gT 1 rfl ?_);refine bE 1 #[.int .i64 a0_0,.int .i64 a0_1,.int .i64 a0_2,.int .i64 a0_3,.int .i64 a0_4,.int .i64 a0_5,.int .i64 a0_6,.int .i64 a0_7,.int .i64 a0_8,.int .i64 a0_9] 24 ?_;intro gb402 hg w23 hbox hb;have BK402:=mA hbox;have GW402:=gbpB HB hg;have GE402:=gbpB HB hg;replace HB:=spB HB hb;clear hb hbox hg;have hcz24_0:=fun i_=>blk_cell BK402.out i_;have hfz24_0:=fun i_=>blk_frozen BK402.out i_)|((with_reducible refine gT 5 rfl ?_);refine gC (some 5) Try.func67 (spec_l6In.calls A2.out) ?_;rintro e w' ⟨rfl,⟨nd,rfl⟩⟩;refine ⟨_,rfl,?_⟩)|(go_at_call 66;(with_reducible refine (spec_l11Num.calls A4.out).mono ?_);rintro e w' ⟨rfl,⟨nd,rfl⟩⟩)|(go_at_call 66;(with_reducible refine (spec_l11Num.calls A6.out).mono ?_);rintro e w' ⟨rfl,⟨nd,rfl⟩⟩)|(go_at_call 66;(with_reducible refine (spec_l11Num.calls A8.out).mono ?_);rintro e w' ⟨rfl,⟨nd,rfl⟩⟩)|(go_at_call 66;(with_reducible refine (spec_l11Num.calls A10.out).mono ?_);rintro e w' ⟨rfl,⟨nd,rfl⟩⟩)|(go_at_call 66;(with_reducible refine (spec_l11Num.calls A12.out).mono ?_);rintro e w' ⟨rfl,⟨nd,rfl⟩⟩)|(go_at_call 66;(with_reducible refine (spec_l11Num.calls A14.out).mono ?_);rintro e w' ⟨rfl,⟨nd,rfl⟩⟩)|(go_at_call 66;(with_reducible refine (spec_l11Num.calls A16.out).mono ?_);rintro e w' ⟨rfl,⟨nd,rfl⟩⟩)|(go_at_call 66;(with_reducible refine (spec_l11Num.calls A18.out).mono ?_);rintro e w' ⟨rfl,⟨nd,rfl⟩⟩))
          go_ret
          exact rZ (pS HB.out)
        ·replace c17:=Bool.eq_false_iff.mpr c17;subst c17
         rw [if_neg nFT] at H
         obtain rfl:=Option.some.inj H
         go_enter Try.func69,Try.ntmps69
         go_wp2_with (first|((with_reducible refine gLg rfl (by assumption) ?_);refine ldV ?_)|((with_reducible refine gSt rfl (by assumption) ?_);refine stV ?_)|((with_reducible refine gT 1 rfl ?_);refine bE 1 #[.int .i64 a0_0,.int .i64 a0_1,.int .i64 a0_2,.int .i64 a0_3,.int .i64 a0_4,.int .i64 a0_5,.int .i64 a0_6,.int .i64 a0_7,.int .i64 a0_8,.int .i64 a0_9] 24 ?_;intro gb402 hg w25 hbox hb;have BK402:=mA hbox;have GW402:=gbpB HB hg;have GE402:=gbpB HB hg;replace HB:=spB HB hb;clear hb hbox hg;have hcz26_0:=fun i_=>blk_cell BK402.out i_;have hfz26_0:=fun i_=>blk_frozen BK402.out i_)|((with_reducible refine gT 5 rfl ?_);refine gC (some 5) Try.func67 (spec_l6In.calls A2.out) ?_;rintro e w' ⟨rfl,⟨nd,rfl⟩⟩;refine ⟨_,rfl,?_⟩)|(go_at_call 66;(with_reducible refine (spec_l11Num.calls A4.out).mono ?_);rintro e w' ⟨rfl,⟨nd,rfl⟩⟩)|(go_at_call 66;(with_reducible refine (spec_l11Num.calls A6.out).mono ?_);rintro e w' ⟨rfl,⟨nd,rfl⟩⟩)|(go_at_call 66;(with_reducible refine (spec_l11Num.calls A8.out).mono ?_);rintro e w' ⟨rfl,⟨nd,rfl⟩⟩)|(go_at_call 66;(with_reducible refine (spec_l11Num.calls A10.out).mono ?_);rintro e w' ⟨rfl,⟨nd,rfl⟩⟩)|(go_at_call 66;(with_reducible refine (spec_l11Num.calls A12.out).mono ?_);rintro e w' ⟨rfl,⟨nd,rfl⟩⟩)|(go_at_call 66;(with_reducible refine (spec_l11Num.calls A14.out).mono ?_);rintro e w' ⟨rfl,⟨nd,rfl⟩⟩)|(go_at_call 66;(with_reducible refine (spec_l11Num.calls A16.out).mono ?_);rintro e w' ⟨rfl,⟨nd,rfl⟩⟩))
         go_ret
         exact rZ (pS HB.out)
       ·replace c15:=Bool.eq_false_iff.mpr c15;subst c15
        rw [if_neg nFT] at H
        obtain rfl:=Option.some.inj H
        go_enter Try.func69,Try.ntmps69
        go_wp2_with (first|((with_reducible refine gLg rfl (by assumption) ?_);refine ldV ?_)|((with_reducible refine gSt rfl (by assumption) ?_);refine stV ?_)|((with_reducible refine gT 1 rfl ?_);refine bE 1 #[.int .i64 a0_0,.int .i64 a0_1,.int .i64 a0_2,.int .i64 a0_3,.int .i64 a0_4,.int .i64 a0_5,.int .i64 a0_6,.int .i64 a0_7,.int .i64 a0_8,.int .i64 a0_9] 24 ?_;intro gb402 hg w27 hbox hb;have BK402:=mA hbox;have GW402:=gbpB HB hg;have GE402:=gbpB HB hg;replace HB:=spB HB hb;clear hb hbox hg;have hcz28_0:=fun i_=>blk_cell BK402.out i_;have hfz28_0:=fun i_=>blk_frozen BK402.out i_)|((with_reducible refine gT 5 rfl ?_);refine gC (some 5) Try.func67 (spec_l6In.calls A2.out) ?_;rintro e w' ⟨rfl,⟨nd,rfl⟩⟩;refine ⟨_,rfl,?_⟩)|(go_at_call 66;(with_reducible refine (spec_l11Num.calls A4.out).mono ?_);rintro e w' ⟨rfl,⟨nd,rfl⟩⟩)|(go_at_call 66;(with_reducible refine (spec_l11Num.calls A6.out).mono ?_);rintro e w' ⟨rfl,⟨nd,rfl⟩⟩)|(go_at_call 66;(with_reducible refine (spec_l11Num.calls A8.out).mono ?_);rintro e w' ⟨rfl,⟨nd,rfl⟩⟩)|(go_at_call 66;(with_reducible refine (spec_l11Num.calls A10.out).mono ?_);rintro e w' ⟨rfl,⟨nd,rfl⟩⟩)|(go_at_call 66;(with_reducible refine (spec_l11Num.calls A12.out).mono ?_);rintro e w' ⟨rfl,⟨nd,rfl⟩⟩)|(go_at_call 66;(with_reducible refine (spec_l11Num.calls A14.out).mono ?_);rintro e w' ⟨rfl,⟨nd,rfl⟩⟩))
        go_ret
        exact rZ (pS HB.out)
      ·replace c13:=Bool.eq_false_iff.mpr c13;subst c13
       rw [if_neg nFT] at H
       obtain rfl:=Option.some.inj H
       go_enter Try.func69,Try.ntmps69
       go_wp2_with (first|((with_reducible refine gLg rfl (by assumption) ?_);refine ldV ?_)|((with_reducible refine gSt rfl (by assumption) ?_);refine stV ?_)|((with_reducible refine gT 1 rfl ?_);refine bE 1 #[.int .i64 a0_0,.int .i64 a0_1,.int .i64 a0_2,.int .i64 a0_3,.int .i64 a0_4,.int .i64 a0_5,.int .i64 a0_6,.int .i64 a0_7,.int .i64 a0_8,.int .i64 a0_9] 24 ?_;intro gb402 hg w29 hbox hb;have BK402:=mA hbox;have GW402:=gbpB HB hg;have GE402:=gbpB HB hg;replace HB:=spB HB hb;clear hb hbox hg;have hcz30_0:=fun i_=>blk_cell BK402.out i_;have hfz30_0:=fun i_=>blk_frozen BK402.out i_)|((with_reducible refine gT 5 rfl ?_);refine gC (some 5) Try.func67 (spec_l6In.calls A2.out) ?_;rintro e w' ⟨rfl,⟨nd,rfl⟩⟩;refine ⟨_,rfl,?_⟩)|(go_at_call 66;(with_reducible refine (spec_l11Num.calls A4.out).mono ?_);rintro e w' ⟨rfl,⟨nd,rfl⟩⟩)|(go_at_call 66;(with_reducible refine (spec_l11Num.calls A6.out).mono ?_);rintro e w' ⟨rfl,⟨nd,rfl⟩⟩)|(go_at_call 66;(with_reducible refine (spec_l11Num.calls A8.out).mono ?_);rintro e w' ⟨rfl,⟨nd,rfl⟩⟩)|(go_at_call 66;(with_reducible refine (spec_l11Num.calls A10.out).mono ?_);rintro e w' ⟨rfl,⟨nd,rfl⟩⟩)|(go_at_call 66;(with_reducible refine (spec_l11Num.calls A12.out).mono ?_);rintro e w' ⟨rfl,⟨nd,rfl⟩⟩))
       go_ret
       exact rZ (pS HB.out)
     ·replace c11:=Bool.eq_false_iff.mpr c11;subst c11
      rw [if_neg nFT] at H
      obtain rfl:=Option.some.inj H
      go_enter Try.func69,Try.ntmps69
      go_wp2_with (first|((with_reducible refine gLg rfl (by assumption) ?_);refine ldV ?_)|((with_reducible refine gSt rfl (by assumption) ?_);refine stV ?_)|((with_reducible refine gT 1 rfl ?_);refine bE 1 #[.int .i64 a0_0,.int .i64 a0_1,.int .i64 a0_2,.int .i64 a0_3,.int .i64 a0_4,.int .i64 a0_5,.int .i64 a0_6,.int .i64 a0_7,.int .i64 a0_8,.int .i64 a0_9] 24 ?_;intro gb402 hg w31 hbox hb;have BK402:=mA hbox;have GW402:=gbpB HB hg;have GE402:=gbpB HB hg;replace HB:=spB HB hb;clear hb hbox hg;have hcz32_0:=fun i_=>blk_cell BK402.out i_;have hfz32_0:=fun i_=>blk_frozen BK402.out i_)|((with_reducible refine gT 5 rfl ?_);refine gC (some 5) Try.func67 (spec_l6In.calls A2.out) ?_;rintro e w' ⟨rfl,⟨nd,rfl⟩⟩;refine ⟨_,rfl,?_⟩)|(go_at_call 66;(with_reducible refine (spec_l11Num.calls A4.out).mono ?_);rintro e w' ⟨rfl,⟨nd,rfl⟩⟩)|(go_at_call 66;(with_reducible refine (spec_l11Num.calls A6.out).mono ?_);rintro e w' ⟨rfl,⟨nd,rfl⟩⟩)|(go_at_call 66;(with_reducible refine (spec_l11Num.calls A8.out).mono ?_);rintro e w' ⟨rfl,⟨nd,rfl⟩⟩)|(go_at_call 66;(with_reducible refine (spec_l11Num.calls A10.out).mono ?_);rintro e w' ⟨rfl,⟨nd,rfl⟩⟩))
      go_ret
      exact rZ (pS HB.out)
    ·replace c9:=Bool.eq_false_iff.mpr c9;subst c9
     rw [if_neg nFT] at H
     obtain rfl:=Option.some.inj H
     go_enter Try.func69,Try.ntmps69
     go_wp2_with (first|((with_reducible refine gLg rfl (by assumption) ?_);refine ldV ?_)|((with_reducible refine gSt rfl (by assumption) ?_);refine stV ?_)|((with_reducible refine gT 1 rfl ?_);refine bE 1 #[.int .i64 a0_0,.int .i64 a0_1,.int .i64 a0_2,.int .i64 a0_3,.int .i64 a0_4,.int .i64 a0_5,.int .i64 a0_6,.int .i64 a0_7,.int .i64 a0_8,.int .i64 a0_9] 24 ?_;intro gb402 hg w33 hbox hb;have BK402:=mA hbox;have GW402:=gbpB HB hg;have GE402:=gbpB HB hg;replace HB:=spB HB hb;clear hb hbox hg;have hcz34_0:=fun i_=>blk_cell BK402.out i_;have hfz34_0:=fun i_=>blk_frozen BK402.out i_)|((with_reducible refine gT 5 rfl ?_);refine gC (some 5) Try.func67 (spec_l6In.calls A2.out) ?_;rintro e w' ⟨rfl,⟨nd,rfl⟩⟩;refine ⟨_,rfl,?_⟩)|(go_at_call 66;(with_reducible refine (spec_l11Num.calls A4.out).mono ?_);rintro e w' ⟨rfl,⟨nd,rfl⟩⟩)|(go_at_call 66;(with_reducible refine (spec_l11Num.calls A6.out).mono ?_);rintro e w' ⟨rfl,⟨nd,rfl⟩⟩)|(go_at_call 66;(with_reducible refine (spec_l11Num.calls A8.out).mono ?_);rintro e w' ⟨rfl,⟨nd,rfl⟩⟩))
     go_ret
     exact rZ (pS HB.out)
   ·replace c7:=Bool.eq_false_iff.mpr c7;subst c7
    rw [if_neg nFT] at H
    obtain rfl:=Option.some.inj H
    go_enter Try.func69,Try.ntmps69
    go_wp2_with (first|((with_reducible refine gLg rfl (by assumption) ?_);refine ldV ?_)|((with_reducible refine gSt rfl (by assumption) ?_);refine stV ?_)|((with_reducible refine gT 1 rfl ?_);refine bE 1 #[.int .i64 a0_0,.int .i64 a0_1,.int .i64 a0_2,.int .i64 a0_3,.int .i64 a0_4,.int .i64 a0_5,.int .i64 a0_6,.int .i64 a0_7,.int .i64 a0_8,.int .i64 a0_9] 24 ?_;intro gb402 hg w35 hbox hb;have BK402:=mA hbox;have GW402:=gbpB HB hg;have GE402:=gbpB HB hg;replace HB:=spB HB hb;clear hb hbox hg;have hcz36_0:=fun i_=>blk_cell BK402.out i_;have hfz36_0:=fun i_=>blk_frozen BK402.out i_)|((with_reducible refine gT 5 rfl ?_);refine gC (some 5) Try.func67 (spec_l6In.calls A2.out) ?_;rintro e w' ⟨rfl,⟨nd,rfl⟩⟩;refine ⟨_,rfl,?_⟩)|(go_at_call 66;(with_reducible refine (spec_l11Num.calls A4.out).mono ?_);rintro e w' ⟨rfl,⟨nd,rfl⟩⟩)|(go_at_call 66;(with_reducible refine (spec_l11Num.calls A6.out).mono ?_);rintro e w' ⟨rfl,⟨nd,rfl⟩⟩))
    go_ret
    exact rZ (pS HB.out)
  ·replace c5:=Bool.eq_false_iff.mpr c5;subst c5
   rw [if_neg nFT] at H
   obtain rfl:=Option.some.inj H
   go_enter Try.func69,Try.ntmps69
   go_wp2_with (first|((with_reducible refine gLg rfl (by assumption) ?_);refine ldV ?_)|((with_reducible refine gSt rfl (by assumption) ?_);refine stV ?_)|((with_reducible refine gT 1 rfl ?_);refine bE 1 #[.int .i64 a0_0,.int .i64 a0_1,.int .i64 a0_2,.int .i64 a0_3,.int .i64 a0_4,.int .i64 a0_5,.int .i64 a0_6,.int .i64 a0_7,.int .i64 a0_8,.int .i64 a0_9] 24 ?_;intro gb402 hg w37 hbox hb;have BK402:=mA hbox;have GW402:=gbpB HB hg;have GE402:=gbpB HB hg;replace HB:=spB HB hb;clear hb hbox hg;have hcz38_0:=fun i_=>blk_cell BK402.out i_;have hfz38_0:=fun i_=>blk_frozen BK402.out i_)|((with_reducible refine gT 5 rfl ?_);refine gC (some 5) Try.func67 (spec_l6In.calls A2.out) ?_;rintro e w' ⟨rfl,⟨nd,rfl⟩⟩;refine ⟨_,rfl,?_⟩)|(go_at_call 66;(with_reducible refine (spec_l11Num.calls A4.out).mono ?_);rintro e w' ⟨rfl,⟨nd,rfl⟩⟩))
   go_ret
   exact rZ (pS HB.out)
 ·replace c3:=Bool.eq_false_iff.mpr c3;subst c3
  rw [if_neg nFT] at H
  obtain rfl:=Option.some.inj H
  go_enter Try.func69,Try.ntmps69
  go_wp2_with (first|((with_reducible refine gLg rfl (by assumption) ?_);refine ldV ?_)|((with_reducible refine gSt rfl (by assumption) ?_);refine stV ?_)|((with_reducible refine gT 1 rfl ?_);refine bE 1 #[.int .i64 a0_0,.int .i64 a0_1,.int .i64 a0_2,.int .i64 a0_3,.int .i64 a0_4,.int .i64 a0_5,.int .i64 a0_6,.int .i64 a0_7,.int .i64 a0_8,.int .i64 a0_9] 24 ?_;intro gb402 hg w39 hbox hb;have BK402:=mA hbox;have GW402:=gbpB HB hg;have GE402:=gbpB HB hg;replace HB:=spB HB hb;clear hb hbox hg;have hcz40_0:=fun i_=>blk_cell BK402.out i_;have hfz40_0:=fun i_=>blk_frozen BK402.out i_)|((with_reducible refine gT 5 rfl ?_);refine gC (some 5) Try.func67 (spec_l6In.calls A2.out) ?_;rintro e w' ⟨rfl,⟨nd,rfl⟩⟩;refine ⟨_,rfl,?_⟩))
  go_ret
  exact rZ (pS HB.out)

/-! ### impl_cmdNumbers: function 126 -/
def impl_cmdNumbers.f (a0_0 : Int) (a0_1 : Int) (a0_2 : Int) (a0_3 : Int) (a0_4 : Int) (a0_5 : Int) (a0_6 : Int) (a0_7 : Int) (a0_8 : Int) (a0_9 : Int) : Option (List Int) := some (([a0_0, a0_1, a0_2, a0_3, a0_4, a0_5, a0_6, a0_7, a0_8, a0_9] : List Int))
set_option maxHeartbeats 8000000 in
set_option maxRecDepth 100000 in
theorem impl_cmdNumbers.calls {a0_0 : Int} {a0_1 : Int} {a0_2 : Int} {a0_3 : Int} {a0_4 : Int} {a0_5 : Int} {a0_6 : Int} {a0_7 : Int} {a0_8 : Int} {a0_9 : Int} {r : List Int} {w : World} (h : impl_cmdNumbers.f a0_0 a0_1 a0_2 a0_3 a0_4 a0_5 a0_6 a0_7 a0_8 a0_9 = some r) :
  Calls Try.prog 126 #[.agg #[.int .i64 a0_0,.int .i64 a0_1,.int .i64 a0_2,.int .i64 a0_3,.int .i64 a0_4,.int .i64 a0_5,.int .i64 a0_6,.int .i64 a0_7,.int .i64 a0_8,.int .i64 a0_9]] w fun e w'=>∃ v0_:Value,e=.returned (v0_)∧Kd.R (Kd.int .i64) 3 w' w.heap.size (fun _=>True) v0_ r∧Below w.heap.size w w':=by
 have hu24:=Try.underlying24;have HB:=mA (Below.refl w.heap.size w);have H:(some (([a0_0,a0_1,a0_2,a0_3,a0_4,a0_5,a0_6,a0_7,a0_8,a0_9]:List Int)))=some r:=h;clear h;obtain ⟨y479,hy479⟩:∃ y_:List Int,y_=(([a0_0,a0_1,a0_2,a0_3,a0_4,a0_5,a0_6,a0_7,a0_8,a0_9]:List Int)):=⟨_,rfl⟩
 replace H:(some y479)=some r:=qH hy479 H
 have Ny479:=mA hy479;clear hy479;obtain rfl:=Option.some.inj H
 go_enter Try.func126,Try.ntmps126
 go_wp2_with (first|((with_reducible refine gLg rfl (by assumption) ?_);refine ldV ?_)|((with_reducible refine gSt rfl (by assumption) ?_);refine stV ?_)|((with_reducible refine gT 1 rfl ?_);refine bE 1 #[.int .i64 a0_0,.int .i64 a0_1,.int .i64 a0_2,.int .i64 a0_3,.int .i64 a0_4,.int .i64 a0_5,.int .i64 a0_6,.int .i64 a0_7,.int .i64 a0_8,.int .i64 a0_9] 24 ?_;intro gb478 hg w2 hbox hb;have BK478:=mA hbox;have GW478:=gbpB HB hg;have GE478:=gbpB HB hg;replace HB:=spB HB hb;clear hb hbox hg;have hcz3_0:=fun i_=>blk_cell BK478.out i_;have hfz3_0:=fun i_=>blk_frozen BK478.out i_)|((with_reducible refine gT 23 rfl ?_);refine Kd.R_lit (Kd.int .i64) _ 3 ?hg (N:=23) ?hd (xs:=([a0_0,a0_1,a0_2,a0_3,a0_4,a0_5,a0_6,a0_7,a0_8,a0_9]:List Int)) (inner:=[.int .i64 a0_0,.int .i64 a0_1,.int .i64 a0_2,.int .i64 a0_3,.int .i64 a0_4,.int .i64 a0_5,.int .i64 a0_6,.int .i64 a0_7,.int .i64 a0_8,.int .i64 a0_9]) (ok:=fun _=>True) (okp:=fun _=>True) ?hr ?hp (fun _ hk=>hk) trivial (Below.refl _ _) (Nat.le_refl _) (by simp) ?_;(case hd=>rfl);(case hg=>rfl);(case hr=>first|(go_simp;done)|(go_simp;rfl));(case hp=>exact (Reps.one (show Kd.M (Kd.int .i64) _ _ _ a0_0 [.int .i64 a0_0] from rfl) (Reps.one (show Kd.M (Kd.int .i64) _ _ _ a0_1 [.int .i64 a0_1] from rfl) (Reps.one (show Kd.M (Kd.int .i64) _ _ _ a0_2 [.int .i64 a0_2] from rfl) (Reps.one (show Kd.M (Kd.int .i64) _ _ _ a0_3 [.int .i64 a0_3] from rfl) (Reps.one (show Kd.M (Kd.int .i64) _ _ _ a0_4 [.int .i64 a0_4] from rfl) (Reps.one (show Kd.M (Kd.int .i64) _ _ _ a0_5 [.int .i64 a0_5] from rfl) (Reps.one (show Kd.M (Kd.int .i64) _ _ _ a0_6 [.int .i64 a0_6] from rfl) (Reps.one (show Kd.M (Kd.int .i64) _ _ _ a0_7 [.int .i64 a0_7] from rfl) (Reps.one (show Kd.M (Kd.int .i64) _ _ _ a0_8 [.int .i64 a0_8] from rfl) (Reps.one (show Kd.M (Kd.int .i64) _ _ _ a0_9 [.int .i64 a0_9] from rfl) (Reps.none _ _))))))))))));intro v480 w4 ho5 hb hg_ hnew_;clear hg_ hnew_;(first|rw [← Ny479.out] at ho5|(simp only [Int.reduceToNat] at ho5;rw [← Ny479.out] at ho5));have HO481:=mA (Kd.R_lower ho5 (bpS HB));replace BK478:=bK BK478 hb;replace HB:=spS HB hb;clear hb ho5))
 go_ret
 exact ⟨_,by first|rfl|(simp [errW_none,errW_some]<;>rfl)|(simp [*,errW_none,errW_some]<;>rfl),pR HO481.out,pS HB.out⟩

/-! ### impl_in: function 74 -/
def impl_in.f (a0 : Int) (a1 : Int) (a2 : Int) : Option (Bool) := if a0 ≥ a1 then (some (decide (a0 ≤ a2))) else (some false)
set_option maxHeartbeats 8000000 in
set_option maxRecDepth 100000 in
theorem impl_in.calls {a0 : Int} {a1 : Int} {a2 : Int} {r : Bool} {w : World} (h : impl_in.f a0 a1 a2 = some r) :
  Calls Try.prog 74 #[.int .i64 a0,.int .i64 a1,.int .i64 a2] w fun e w'=>e=.returned (.bool r)∧Drawn0 w w':=by
 have H:(if a0 ≥ a1 then (some (decide (a0≤a2))) else (some false))=some r:=h;clear h
 by_cases c4:a0 ≥ a1
 ·rw [if_pos c4] at H;have c4b0:decide (a1≤a0)=true:=decide_eq_true c4;clear c4;obtain rfl:=Option.some.inj H
  go_enter Try.func74,Try.ntmps74
  go_wp2
  go_ret
  exact ⟨by first|rfl|(simp;done)|(simp [*];done),by repeat (first|exact Drawn0.refl _|apply Drawn0.step)⟩
 ·rw [if_neg c4] at H;have c4b0:decide (a1≤a0)=false:=decide_eq_false c4;clear c4;obtain rfl:=Option.some.inj H
  go_enter Try.func74,Try.ntmps74
  go_wp2
  go_ret
  exact ⟨by first|rfl|(simp;done)|(simp [*];done),by repeat (first|exact Drawn0.refl _|apply Drawn0.step)⟩

/-! ### impl_numbersOk: function 79 -/
def impl_numbersOk.l0 : Nat → List Int → Int → Int → Option (Bool)
 | 0,_,_,_=>none
 | k+1,x5,x6,x7=>if x7<x6 then (if 0≤x7 then (if x7<(x5.length:Int) then ((impl_in.f (rd x5 x7) (-1) 99999).bind fun t537=>(if t537=true then (impl_numbersOk.l0 k x5 x6 (wrap64 (x7+1))) else (some false))) else (none)) else (none)) else (some true)
def impl_numbersOk.f (k : Nat) (l0 : List Int) : Option (Bool) := impl_numbersOk.l0 k l0 (l0.length : Int) 0
theorem impl_numbersOk.mono_l : ∀ k, (∀ y0 y1 y2, LeO (impl_numbersOk.l0 k y0 y1 y2) (impl_numbersOk.l0 (k + 1) y0 y1 y2))
 | 0=>fun _ _ _ r h=>by simp [impl_numbersOk.l0] at h
 | k+1=>by
  have ih0:=impl_numbersOk.mono_l k
  ·intros
   unfold impl_numbersOk.l0
   repeat' first
   | (with_reducible first|apply ih0|exact LeO.refl _|exact LeO.none _|refine LeO.ite ?_ ?_|refine LeO.bind ?_ (fun _=>?_))|exact LeO.none _|refine LeO.ite ?_ ?_|refine LeO.bind ?_ (fun _=>?_)
theorem impl_numbersOk.mono : ∀ a0 k, LeO (impl_numbersOk.f k a0) (impl_numbersOk.f (k + 1) a0) := by
 intro a0 k;have ih0:=impl_numbersOk.mono_l k
 unfold impl_numbersOk.f
 repeat' first
   | (with_reducible first|apply ih0|exact LeO.refl _|exact LeO.none _|refine LeO.ite ?_ ?_|refine LeO.bind ?_ (fun _=>?_))|exact LeO.none _|refine LeO.ite ?_ ?_|refine LeO.bind ?_ (fun _=>?_)
set_option maxHeartbeats 8000000 in
set_option maxRecDepth 100000 in
theorem impl_numbersOk.calls {k : Nat} {A0 : Option Addr} {c0 : Nat} {l0 : List Int} {r : Bool} {w : World} (hr0 : Kd.C (Kd.int .i64) w A0 l0.length l0) (hc0 : l0.length ≤ c0) (h : impl_numbersOk.f k l0 = some r) :
  Calls Try.prog 79 #[.slice A0 l0.length c0] w fun e w'=>e=.returned (.bool r)∧Drawn0 w w':=by
 have HR0:=mA hr0;have HC0:=mA hc0;clear hr0 hc0;have H:(impl_numbersOk.l0 k l0 (l0.length:Int) 0)=some r:=h;clear h;have H':=mA H;clear H
 go_enter Try.func79,Try.ntmps79
 go_wp2
 go_loopg [7] k (fun kq v7 w'=>∃ (x7_1:Int),v7=.int .i64 x7_1∧Aside0 (impl_numbersOk.l0 kq l0 (l0.length:Int) x7_1=some r)∧Aside0 (kq≤k)∧Drawn0 w w')
 case atStart=>exact ⟨(0),bZ,H',⟨Nat.le_refl _⟩,by repeat (first|exact Drawn0.refl _|apply Drawn0.step)⟩
 case round =>
  clear H';obtain ⟨x7_1,rfl,HA,HK1,⟨m1,rfl⟩⟩:=hrel
  cases gk with
  | zero=>exact absurd HA.out (by simp [impl_numbersOk.l0])
  | succ k1 =>
   have H:=HA.out;clear HA;simp only [impl_numbersOk.l0] at H
   by_cases c2:x7_1<(l0.length:Int)
   ·rw [if_pos c2] at H;have c2b0:decide (x7_1<(l0.length:Int))=true:=decide_eq_true c2;clear c2
    by_cases c3:0≤x7_1
    ·rw [if_pos c3] at H;have c3b0:decide (0≤x7_1)=true:=decide_eq_true c3;clear c3
     by_cases c4:x7_1<(l0.length:Int)
     ·rw [if_pos c4] at H;have c4b0:decide (x7_1<(l0.length:Int))=true:=decide_eq_true c4;clear c4;obtain ⟨t537,A5,H⟩:=bI H;(try dsimp only at H)
      by_cases c6:t537=true
      ·subst c6;rw [if_pos rfl] at H;have H':=mA H;clear H;have p536:0≤(x7_1:Int):=of_decide_eq_true bA;have q536:x7_1<(l0.length:Int):=of_decide_eq_true bA;obtain ⟨ad536,e536,hx536_0⟩:=Kd.at_int HR0.out x7_1 p536 q536;cases e536;replace p536:=eq_true p536;replace q536:=eq_true q536
       go_wp2_with (first|((with_reducible refine gT 12 rfl ?_);refine gC (some 12) Try.func74 (impl_in.calls A5.out) ?_;rintro e w' ⟨rfl,⟨nd,rfl⟩⟩;refine ⟨_,rfl,?_⟩))
       go_roundg k1
       case measure=>have:=HK1.out;omega
       case rel=>exact ⟨(wrap64 (x7_1+1)),bZ,H',⟨by have:=HK1.out;omega⟩,by repeat (first|exact Drawn0.refl _|apply Drawn0.step)⟩
      ·replace c6:=Bool.eq_false_iff.mpr c6;subst c6
       rw [if_neg nFT] at H
       obtain rfl:=Option.some.inj H;have p536:0≤(x7_1:Int):=of_decide_eq_true bA;have q536:x7_1<(l0.length:Int):=of_decide_eq_true bA;obtain ⟨ad536,e536,hx536_0⟩:=Kd.at_int HR0.out x7_1 p536 q536;cases e536;replace p536:=eq_true p536;replace q536:=eq_true q536
       go_wp2_with (first|((with_reducible refine gT 12 rfl ?_);refine gC (some 12) Try.func74 (impl_in.calls A5.out) ?_;rintro e w' ⟨rfl,⟨nd,rfl⟩⟩;refine ⟨_,rfl,?_⟩))
       go_ret
       exact ⟨by first|rfl|(simp;done)|(simp [*];done),by repeat (first|exact Drawn0.refl _|apply Drawn0.step)⟩
     ·rw [if_neg c4] at H
      exact absurd H (by simp)
    ·rw [if_neg c3] at H
     exact absurd H (by simp)
   ·rw [if_neg c2] at H;have c2b0:decide (x7_1<(l0.length:Int))=false:=decide_eq_false c2;clear c2;obtain rfl:=Option.some.inj H
    go_wp2
    go_ret
    exact ⟨by first|rfl|(simp;done)|(simp [*];done),by repeat (first|exact Drawn0.refl _|apply Drawn0.step)⟩

/-! ### impl_cmdOk: function 76 -/
def impl_cmdOk.f (k : Nat) (a0_0 : Int) (a0_1 : Int) (a0_2 : Int) (a0_3 : Int) (a0_4 : Int) (a0_5 : Int) (a0_6 : Int) (a0_7 : Int) (a0_8 : Int) (a0_9 : Int) : Option (Bool) := (impl_in.f a0_0 0 7).bind fun t539 => (if t539 = true then ((impl_cmdNumbers.f a0_0 a0_1 a0_2 a0_3 a0_4 a0_5 a0_6 a0_7 a0_8 a0_9).bind fun t540 => ((impl_numbersOk.f k t540).bind fun t543 => (some t543))) else (some false))
theorem impl_cmdOk.mono : ∀ a0 a1 a2 a3 a4 a5 a6 a7 a8 a9 k, LeO (impl_cmdOk.f k a0 a1 a2 a3 a4 a5 a6 a7 a8 a9) (impl_cmdOk.f (k + 1) a0 a1 a2 a3 a4 a5 a6 a7 a8 a9) := by
 intro a0 a1 a2 a3 a4 a5 a6 a7 a8 a9 k
 unfold impl_cmdOk.f
 repeat' first
   | (with_reducible first|apply impl_numbersOk.mono|exact LeO.refl _|exact LeO.none _|refine LeO.ite ?_ ?_|refine LeO.bind ?_ (fun _=>?_))|exact LeO.none _|refine LeO.ite ?_ ?_|refine LeO.bind ?_ (fun _=>?_)
set_option maxHeartbeats 8000000 in
set_option maxRecDepth 100000 in
theorem impl_cmdOk.calls {k : Nat} {a0_0 : Int} {a0_1 : Int} {a0_2 : Int} {a0_3 : Int} {a0_4 : Int} {a0_5 : Int} {a0_6 : Int} {a0_7 : Int} {a0_8 : Int} {a0_9 : Int} {r : Bool} {w : World} (h : impl_cmdOk.f k a0_0 a0_1 a0_2 a0_3 a0_4 a0_5 a0_6 a0_7 a0_8 a0_9 = some r) :
  Calls Try.prog 76 #[.agg #[.int .i64 a0_0,.int .i64 a0_1,.int .i64 a0_2,.int .i64 a0_3,.int .i64 a0_4,.int .i64 a0_5,.int .i64 a0_6,.int .i64 a0_7,.int .i64 a0_8,.int .i64 a0_9]] w fun e w'=>e=.returned (.bool r)∧Below w.heap.size w w':=by
 have hu24:=Try.underlying24;have HB:=mA (Below.refl w.heap.size w);have H:((impl_in.f a0_0 0 7).bind fun t539=>(if t539=true then ((impl_cmdNumbers.f a0_0 a0_1 a0_2 a0_3 a0_4 a0_5 a0_6 a0_7 a0_8 a0_9).bind fun t540=>((impl_numbersOk.f k t540).bind fun t543=>(some t543))) else (some false)))=some r:=h;clear h;obtain ⟨t539,A2,H⟩:=bI H;(try dsimp only at H)
 by_cases c3:t539=true
 ·subst c3;rw [if_pos rfl] at H;obtain ⟨t540,A4,H⟩:=bI H;(try dsimp only at H);obtain ⟨t543,A5,H⟩:=bI H;(try dsimp only at H);obtain rfl:=Option.some.inj H
  go_enter Try.func76,Try.ntmps76
  go_wp2_with (first|((with_reducible refine gLg rfl (by assumption) ?_);refine ldV ?_)|((with_reducible refine gSt rfl (by assumption) ?_);refine stV ?_)|((with_reducible refine gT 1 rfl ?_);refine bE 1 #[.int .i64 a0_0,.int .i64 a0_1,.int .i64 a0_2,.int .i64 a0_3,.int .i64 a0_4,.int .i64 a0_5,.int .i64 a0_6,.int .i64 a0_7,.int .i64 a0_8,.int .i64 a0_9] 24 ?_;intro gb538 hg w6 hbox hb;have BK538:=mA hbox;have GW538:=gbpB HB hg;have GE538:=gbpB HB hg;replace HB:=spB HB hb;clear hb hbox hg;have hcz7_0:=fun i_=>blk_cell BK538.out i_;have hfz7_0:=fun i_=>blk_frozen BK538.out i_)|((with_reducible refine gT 5 rfl ?_);refine gC (some 5) Try.func74 (impl_in.calls A2.out) ?_;rintro e w' ⟨rfl,⟨nd,rfl⟩⟩;refine ⟨_,rfl,?_⟩)|(go_at_call 126;(with_reducible refine (impl_cmdNumbers.calls A4.out).mono ?_);rintro e w8 ⟨v541,rfl,ho0,hb⟩;have HO542:=mA (Kd.R_lower ho0 (bpS HB));replace BK538:=bK BK538 hb;replace HB:=spS HB hb;(try clear hb);(try clear ho0);obtain ⟨Ao9,co9,rfl⟩:=Kd.R_slice HO542.out)|(go_at_call 79;(with_reducible refine (impl_numbersOk.calls ?s1 ?s2 A5.out).mono ?_);(case s1=>exact cR HO542);(case s2=>exact cL HO542);rintro e w' ⟨rfl,⟨nd,rfl⟩⟩))
  go_ret
  exact rZ (pS HB.out)
 ·replace c3:=Bool.eq_false_iff.mpr c3;subst c3
  rw [if_neg nFT] at H
  obtain rfl:=Option.some.inj H
  go_enter Try.func76,Try.ntmps76
  go_wp2_with (first|((with_reducible refine gLg rfl (by assumption) ?_);refine ldV ?_)|((with_reducible refine gSt rfl (by assumption) ?_);refine stV ?_)|((with_reducible refine gT 1 rfl ?_);refine bE 1 #[.int .i64 a0_0,.int .i64 a0_1,.int .i64 a0_2,.int .i64 a0_3,.int .i64 a0_4,.int .i64 a0_5,.int .i64 a0_6,.int .i64 a0_7,.int .i64 a0_8,.int .i64 a0_9] 24 ?_;intro gb538 hg w10 hbox hb;have BK538:=mA hbox;have GW538:=gbpB HB hg;have GE538:=gbpB HB hg;replace HB:=spB HB hb;clear hb hbox hg;have hcz11_0:=fun i_=>blk_cell BK538.out i_;have hfz11_0:=fun i_=>blk_frozen BK538.out i_)|((with_reducible refine gT 5 rfl ?_);refine gC (some 5) Try.func74 (impl_in.calls A2.out) ?_;rintro e w' ⟨rfl,⟨nd,rfl⟩⟩;refine ⟨_,rfl,?_⟩))
  go_ret
  exact rZ (pS HB.out)

end Go.Proofs.Ytoieojmfkkidnaa.P
