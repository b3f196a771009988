-- printed by pprint.py (this session's program over the kit's printer) out of the translation. Lean checks it.
import Derived.Test.YtoieojmfkkidnaaPx0
import Derived.Test.YtoieojmfkkidnaaPx1
import Derived.Test.YtoieojmfkkidnaaPx2
import Derived.Test.YtoieojmfkkidnaaPx10
import Derived.Test.YtoieojmfkkidnaaPx11
import Derived.Test.YtoieojmfkkidnaaPx12
namespace Go.Proofs.Ytoieojmfkkidnaa.P
open Go.RowKit Go.Proofs.YtoieojmfkkidnaaX Go.Proofs.YtoieojmfkkidnaaW.PrintWords Go.Proofs.YtoieojmfkkidnaaW.PrintLast Go.Proofs.YtoieojmfkkidnaaW.PrintMore
attribute [local go_sem] max2_int min2_int max_two min_two max_three min_three max_four min_four   -- for this text's walks alone
set_option linter.unusedVariables false
set_option linter.unusedSimpArgs false
attribute [local go_sem high] eqA24 eqA64
/-! ### spec_SynSeekerOk: function 31 -/
mutual
def spec_SynSeekerOk.j0 : Nat → Bool → Int → Int → Int → Int → Int → Int → Int → Int → Int → Int → Int → Int → Int → Int → Int → Int → Int → Int → Int → Int → Int → Int → Int → Int → Int → List Int → Option (Bool)
 | 0,_,_,_,_,_,_,_,_,_,_,_,_,_,_,_,_,_,_,_,_,_,_,_,_,_,_,_=>none
 | k+1,x60,x359000,x359001,x359002,x359003,x359004,x359005,x359006,x359007,x359008,x359009,x359010,x359011,x359012,x359013,x359014,x359015,x359016,x359017,x359018,x359019,x359020,x359021,x359022,x359023,x359024,x359025=>if x60=true then (some false) else (spec_SynSeekerOk.l0 k 0 x359000 x359001 x359002 x359003 x359004 x359005 x359006 x359007 x359008 x359009 x359010 x359011 x359012 x359013 x359014 x359015 x359016 x359017 x359018 x359019 x359020 x359021 x359022 x359023 x359024 x359025)
def spec_SynSeekerOk.l0 : Nat → Int → Int → Int → Int → Int → Int → Int → Int → Int → Int → Int → Int → Int → Int → Int → Int → Int → Int → Int → Int → Int → Int → Int → Int → Int → Int → List Int → Option (Bool)
 | 0,_,_,_,_,_,_,_,_,_,_,_,_,_,_,_,_,_,_,_,_,_,_,_,_,_,_,_=>none
 | k+1,x3,x359000,x359001,x359002,x359003,x359004,x359005,x359006,x359007,x359008,x359009,x359010,x359011,x359012,x359013,x359014,x359015,x359016,x359017,x359018,x359019,x359020,x359021,x359022,x359023,x359024,x359025=>if x3<(x359025.length:Int) then (if 0≤x3 then ((spec_l6In.f (rd x359025 x3) 0 2).bind fun t364=>(if t364=true then (spec_SynSeekerOk.l0 k (wrap64 (x3+1)) x359000 x359001 x359002 x359003 x359004 x359005 x359006 x359007 x359008 x359009 x359010 x359011 x359012 x359013 x359014 x359015 x359016 x359017 x359018 x359019 x359020 x359021 x359022 x359023 x359024 x359025) else (some false))) else (none)) else (if (x359013 == 0 && (x359014 == 0 && ((x359015 == 0 && (x359016 == 0 && (x359017 == 0 && (x359018 == 0 && (x359019 == 0 && (x359020 == 0 && (x359021 == 0 && (x359022 == 0 && (x359023 == 0 && (x359024 == 0)))))))))))))=true then (some true) else ((spec_l21PaperOk.f x359013 x359014 x359015 x359016 x359017 x359018 x359019 x359020 x359021 x359022 x359023 x359024).bind fun t365=>(if t365=true then (if x359013=x359000 then (some (decide (x359014<x359001))) else (some false)) else (some false))))
end
def spec_SynSeekerOk.f (k : Nat) (a0_0 a0_1 a0_2 a0_3 a0_4 a0_5 a0_6 a0_7 a0_8 a0_9 a0_10 a0_11 a0_12 a0_13 a0_14 a0_15 a0_16 a0_17 a0_18 a0_19 a0_20 a0_21 a0_22 a0_23 a0_24 : Int) (l0_25 : List Int) : Option (Bool) := if a0_2 = 0 then (if a0_0 = 0 then (if a0_1 = 0 then (if (a0_3 == 0 && (a0_4 == 0 && (a0_5 == 0 && (a0_6 == 0 && (a0_7 == 0 && (a0_8 == 0 && (a0_9 == 0 && (a0_10 == 0 && (a0_11 == 0 && (a0_12 == 0)))))))))) = true then (if (a0_13 == 0 && (a0_14 == 0 && ((a0_15 == 0 && (a0_16 == 0 && (a0_17 == 0 && (a0_18 == 0 && (a0_19 == 0 && (a0_20 == 0 && (a0_21 == 0 && (a0_22 == 0 && (a0_23 == 0 && (a0_24 == 0))))))))))))) = true then (some ((l0_25.length : Int) == 0)) else (some false)) else (some false)) else (some false)) else (some false)) else ((spec_l6In.f a0_0 1 60).bind fun t359 => (if t359 = true then ((spec_l6In.f a0_1 1 99999).bind fun t360 => (if t360 = true then ((spec_l6In.f a0_2 1 2).bind fun t361 => (if t361 = true then ((spec_l11CmdOk.f a0_3 a0_4 a0_5 a0_6 a0_7 a0_8 a0_9 a0_10 a0_11 a0_12).bind fun t362 => (if t362 = true then (spec_SynSeekerOk.j0 k (decide ((l0_25.length : Int) ≥ 2)) a0_0 a0_1 a0_2 a0_3 a0_4 a0_5 a0_6 a0_7 a0_8 a0_9 a0_10 a0_11 a0_12 a0_13 a0_14 a0_15 a0_16 a0_17 a0_18 a0_19 a0_20 a0_21 a0_22 a0_23 a0_24 l0_25) else (spec_SynSeekerOk.j0 k true a0_0 a0_1 a0_2 a0_3 a0_4 a0_5 a0_6 a0_7 a0_8 a0_9 a0_10 a0_11 a0_12 a0_13 a0_14 a0_15 a0_16 a0_17 a0_18 a0_19 a0_20 a0_21 a0_22 a0_23 a0_24 l0_25))) else (spec_SynSeekerOk.j0 k true a0_0 a0_1 a0_2 a0_3 a0_4 a0_5 a0_6 a0_7 a0_8 a0_9 a0_10 a0_11 a0_12 a0_13 a0_14 a0_15 a0_16 a0_17 a0_18 a0_19 a0_20 a0_21 a0_22 a0_23 a0_24 l0_25))) else (spec_SynSeekerOk.j0 k true a0_0 a0_1 a0_2 a0_3 a0_4 a0_5 a0_6 a0_7 a0_8 a0_9 a0_10 a0_11 a0_12 a0_13 a0_14 a0_15 a0_16 a0_17 a0_18 a0_19 a0_20 a0_21 a0_22 a0_23 a0_24 l0_25))) else (spec_SynSeekerOk.j0 k true a0_0 a0_1 a0_2 a0_3 a0_4 a0_5 a0_6 a0_7 a0_8 a0_9 a0_10 a0_11 a0_12 a0_13 a0_14 a0_15 a0_16 a0_17 a0_18 a0_19 a0_20 a0_21 a0_22 a0_23 a0_24 l0_25)))
set_option maxHeartbeats 8000000 in
set_option maxRecDepth 100000 in
theorem spec_SynSeekerOk.calls {k : Nat} {a0_0 a0_1 a0_2 a0_3 a0_4 a0_5 a0_6 a0_7 a0_8 a0_9 a0_10 a0_11 a0_12 a0_13 a0_14 a0_15 a0_16 a0_17 a0_18 a0_19 a0_20 a0_21 a0_22 a0_23 a0_24 : Int} {A0_25 : Option Addr} {c0_25 : Nat} {l0_25 : List Int} {r : Bool} {w : World} (hr0_25 : Kd.C (Kd.int .i64) w A0_25 l0_25.length l0_25) (hc0_25 : l0_25.length ≤ c0_25) (h : spec_SynSeekerOk.f k a0_0 a0_1 a0_2 a0_3 a0_4 a0_5 a0_6 a0_7 a0_8 a0_9 a0_10 a0_11 a0_12 a0_13 a0_14 a0_15 a0_16 a0_17 a0_18 a0_19 a0_20 a0_21 a0_22 a0_23 a0_24 l0_25 = some r) :
  Calls Try.prog 31 #[.agg #[.int .i64 a0_0,.int .i64 a0_1,.int .i64 a0_2,.int .i64 a0_3,.int .i64 a0_4,.int .i64 a0_5,.int .i64 a0_6,.int .i64 a0_7,.int .i64 a0_8,.int .i64 a0_9,.int .i64 a0_10,.int .i64 a0_11,.int .i64 a0_12,.int .i64 a0_13,.int .i64 a0_14,.int .i64 a0_15,.int .i64 a0_16,.int .i64 a0_17,.int .i64 a0_18,.int .i64 a0_19,.int .i64 a0_20,.int .i64 a0_21,.int .i64 a0_22,.int .i64 a0_23,.int .i64 a0_24,.slice A0_25 l0_25.length c0_25]] w fun e w'=>e=.returned (.bool r)∧Below w.heap.size w w':=by
 have hu66:=Try.underlying66;have hu24:=Try.underlying24;have hu64:=Try.underlying64;have HR0_25:=mA hr0_25;have HC0_25:=mA hc0_25;clear hr0_25 hc0_25;have HB:=mA (Below.refl w.heap.size w);have H:(if a0_2=0 then (if a0_0=0 then (if a0_1=0 then (if (a0_3 == 0 && (a0_4 == 0 && (a0_5 == 0 && (a0_6 == 0 && (a0_7 == 0 && (a0_8 == 0 && (a0_9 == 0 && (a0_10 == 0 && (a0_11 == 0 && (a0_12 == 0))))))))))=true then (if (a0_13 == 0 && (a0_14 == 0 && ((a0_15 == 0 && (a0_16 == 0 && (a0_17 == 0 && (a0_18 == 0 && (a0_19 == 0 && (a0_20 == 0 && (a0_21 == 0 && (a0_22 == 0 && (a0_23 == 0 && (a0_24 == 0)))))))))))))=true then (some ((l0_25.length:Int) == 0)) else (some false)) else (some false)) else (some false)) else (some false)) else ((spec_l6In.f a0_0 1 60).bind fun t359=>(if t359=true then ((spec_l6In.f a0_1 1 99999).bind fun t360=>(if t360=true then ((spec_l6In.f a0_2 1 2).bind fun t361=>(if t361=true then ((spec_l11CmdOk.f a0_3 a0_4 a0_5 a0_6 a0_7 a0_8 a0_9 a0_10 a0_11 a0_12).bind fun t362=>(if t362=true then (spec_SynSeekerOk.j0 k (decide ((l0_25.length:Int) ≥ 2)) a0_0 a0_1 a0_2 a0_3 a0_4 a0_5 a0_6 a0_7 a0_8 a0_9 a0_10 a0_11 a0_12 a0_13 a0_14 a0_15 a0_16 a0_17 a0_18 a0_19 a0_20 a0_21 a0_22 a0_23 a0_24 l0_25) else (spec_SynSeekerOk.j0 k true a0_0 a0_1 a0_2 a0_3 a0_4 a0_5 a0_6 a0_7 a0_8 a0_9 a0_10 a0_11 a0_12 a0_13 a0_14 a0_15 a0_16 a0_17 a0_18 a0_19 a0_20 a0_21 a0_22 a0_23 a0_24 l0_25))) else (spec_SynSeekerOk.j0 k true a0_0 a0_1 a0_2 a0_3 a0_4 a0_5 a0_6 a0_7 a0_8 a0_9 a0_10 a0_11 a0_12 a0_13 a0_14 a0_15 a0_16 a0_17 a0_18 a0_19 a0_20 a0_21 a0_22 a0_23 a0_24 l0_25))) else (spec_SynSeekerOk.j0 k true a0_0 a0_1 a0_2 a0_3 a0_4 a0_5 a0_6 a0_7 a0_8 a0_9 a0_10 a0_11 a0_12 a0_13 a0_14 a0_15 a0_16 a0_17 a0_18 a0_19 a0_20 a0_21 a0_22 a0_23 a0_24 l0_25))) else (spec_SynSeekerOk.j0 k true a0_0 a0_1 a0_2 a0_3 a0_4 a0_5 a0_6 a0_7 a0_8 a0_9 a0_10 a0_11 a0_12 a0_13 a0_14 a0_15 a0_16 a0_17 a0_18 a0_19 a0_20 a0_21 a0_22 a0_23 a0_24 l0_25))))=some r:=h;clear h
 by_cases c2:a0_2=0
 ·rw [if_pos c2] at H;obtain ⟨c2b0,c2b1⟩:=eqB c2;clear c2
  by_cases c3:a0_0=0
  ·rw [if_pos c3] at H;obtain ⟨c3b0,c3b1⟩:=eqB c3;clear c3
   by_cases c4:a0_1=0
   ·rw [if_pos c4] at H;obtain ⟨c4b0,c4b1⟩:=eqB c4;clear c4
    by_cases c5:(a0_3 == 0 && (a0_4 == 0 && (a0_5 == 0 && (a0_6 == 0 && (a0_7 == 0 && (a0_8 == 0 && (a0_9 == 0 && (a0_10 == 0 && (a0_11 == 0 && (a0_12 == 0))))))))))=true
    ·rw [if_pos c5] at H;have c5b0:(a0_3 == 0 && (a0_4 == 0 && (a0_5 == 0 && (a0_6 == 0 && (a0_7 == 0 && (a0_8 == 0 && (a0_9 == 0 && (a0_10 == 0 && (a0_11 == 0 && (a0_12 == 0))))))))))=true:=c5
     (try (have c5b1:decide (a0_3=0 && (a0_4 == 0 && (a0_5 == 0 && (a0_6 == 0 && (a0_7 == 0 && (a0_8 == 0 && (a0_9 == 0 && (a0_10 == 0 && (a0_11 == 0 && (a0_12 == 0))))))))))=true:=by simpa using c5))
     (try (have c5b2:(a0_3 == 0 && (a0_4 == 0 && (a0_5 == 0 && (a0_6 == 0 && (a0_7 == 0 && (a0_8 == 0 && (a0_9 == 0 && (a0_10 == 0 && (a0_11 == 0 && (a0_12 == 0))))))))))=true:=by simpa using c5))
     clear c5
     by_cases c6:(a0_13 == 0 && (a0_14 == 0 && ((a0_15 == 0 && (a0_16 == 0 && (a0_17 == 0 && (a0_18 == 0 && (a0_19 == 0 && (a0_20 == 0 && (a0_21 == 0 && (a0_22 == 0 && (a0_23 == 0 && (a0_24 == 0)))))))))))))=true
     ·rw [if_pos c6] at H;have c6b0:(a0_13 == 0 && (a0_14 == 0 && ((a0_15 == 0 && (a0_16 == 0 && (a0_17 == 0 && (a0_18 == 0 && (a0_19 == 0 && (a0_20 == 0 && (a0_21 == 0 && (a0_22 == 0 && (a0_23 == 0 && (a0_24 == 0)))))))))))))=true:=c6
      (try (have c6b1:decide (a0_13=0 && (a0_14 == 0 && ((a0_15 == 0 && (a0_16 == 0 && (a0_17 == 0 && (a0_18 == 0 && (a0_19 == 0 && (a0_20 == 0 && (a0_21 == 0 && (a0_22 == 0 && (a0_23 == 0 && (a0_24 == 0)))))))))))))=true:=by simpa using c6))
      (try (have c6b2:(a0_13 == 0 && (a0_14 == 0 && ((a0_15 == 0 && (a0_16 == 0 && (a0_17 == 0 && (a0_18 == 0 && (a0_19 == 0 && (a0_20 == 0 && (a0_21 == 0 && (a0_22 == 0 && (a0_23 == 0 && (a0_24 == 0)))))))))))))=true:=by simpa using c6))
      clear c6;obtain rfl:=Option.some.inj H
      go_enter Try.func31,Try.ntmps31
      go_wp2_with (first|((with_reducible refine gLd rfl rfl (by assumption) ?_);refine ldV ?_)|((with_reducible refine gSt rfl (by assumption) ?_);refine stV ?_)|((with_reducible refine gT 1 rfl ?_);(try (refine gate_guard (by rfl) ?_;dsimp only));refine bX 1 ?_;intro gb358 hg w7 hbox hb;have BK358:=mA hbox;have GW358:=gbpB HB hg;have GE358:=gbpB HB hg;replace HB:=spB HB hb;clear hb hbox hg;have hcz8_0:=fun i_=>blk_cell BK358.out i_;have hfz8_0:=fun i_=>blk_frozen BK358.out i_))
      go_ret
      exact rZ (pS HB.out)
     ·rw [if_neg c6] at H
      have c6b0:(a0_13 == 0 && (a0_14 == 0 && ((a0_15 == 0 && (a0_16 == 0 && (a0_17 == 0 && (a0_18 == 0 && (a0_19 == 0 && (a0_20 == 0 && (a0_21 == 0 && (a0_22 == 0 && (a0_23 == 0 && (a0_24 == 0)))))))))))))=false:=by simpa using c6
      (try (have c6b1:decide (a0_13=0 && (a0_14 == 0 && ((a0_15 == 0 && (a0_16 == 0 && (a0_17 == 0 && (a0_18 == 0 && (a0_19 == 0 && (a0_20 == 0 && (a0_21 == 0 && (a0_22 == 0 && (a0_23 == 0 && (a0_24 == 0)))))))))))))=false:=by simpa using c6))
      (try (have c6b2:(a0_13 == 0 && (a0_14 == 0 && ((a0_15 == 0 && (a0_16 == 0 && (a0_17 == 0 && (a0_18 == 0 && (a0_19 == 0 && (a0_20 == 0 && (a0_21 == 0 && (a0_22 == 0 && (a0_23 == 0 && (a0_24 == 0)))))))))))))=false:=by simpa using c6))
      (try (have c6b3:¬ (a0_13=0 && (a0_14 == 0 && ((a0_15 == 0 && (a0_16 == 0 && (a0_17 == 0 && (a0_18 == 0 && (a0_19 == 0 && (a0_20 == 0 && (a0_21 == 0 && (a0_22 == 0 && (a0_23 == 0 && (a0_24 == 0))))))))))))):=by simpa using c6))
      clear c6;obtain rfl:=Option.some.inj H
      go_enter Try.func31,Try.ntmps31
      go_wp2_with (first|((with_reducible refine gLd rfl rfl (by assumption) ?_);refine ldV ?_)|((with_reducible refine gSt rfl (by assumption) ?_);refine stV ?_)|((with_reducible refine gT 1 rfl ?_);(try (refine gate_guard (by rfl) ?_;dsimp only));refine bX 1 ?_;intro gb358 hg w9 hbox hb;have BK358:=mA hbox;have GW358:=gbpB HB hg;have GE358:=gbpB HB hg;replace HB:=spB HB hb;clear hb hbox hg;have hcz10_0:=fun i_=>blk_cell BK358.out i_;have hfz10_0:=fun i_=>blk_frozen BK358.out i_))
      go_ret
      exact rZ (pS HB.out)
    ·rw [if_neg c5] at H
     have c5b0:(a0_3 == 0 && (a0_4 == 0 && (a0_5 == 0 && (a0_6 == 0 && (a0_7 == 0 && (a0_8 == 0 && (a0_9 == 0 && (a0_10 == 0 && (a0_11 == 0 && (a0_12 == 0))))))))))=false:=by simpa using c5
     (try (have c5b1:decide (a0_3=0 && (a0_4 == 0 && (a0_5 == 0 && (a0_6 == 0 && (a0_7 == 0 && (a0_8 == 0 && (a0_9 == 0 && (a0_10 == 0 && (a0_11 == 0 && (a0_12 == 0))))))))))=false:=by simpa using c5))
     (try (have c5b2:(a0_3 == 0 && (a0_4 == 0 && (a0_5 == 0 && (a0_6 == 0 && (a0_7 == 0 && (a0_8 == 0 && (a0_9 == 0 && (a0_10 == 0 && (a0_11 == 0 && (a0_12 == 0))))))))))=false:=by simpa using c5))
     (try (have c5b3:¬ (a0_3=0 && (a0_4 == 0 && (a0_5 == 0 && (a0_6 == 0 && (a0_7 == 0 && (a0_8 == 0 && (a0_9 == 0 && (a0_10 == 0 && (a0_11 == 0 && (a0_12 == 0)))))))))):=by simpa using c5))
     clear c5;obtain rfl:=Option.some.inj H
     go_enter Try.func31,Try.ntmps31
     go_wp2_with (first|((with_reducible refine gLd rfl rfl (by assumption) ?_);refine ldV ?_)|((with_reducible refine gSt rfl (by assumption) ?_);refine stV ?_)|((with_reducible refine gT 1 rfl ?_);(try (refine gate_guard (by rfl) ?_;dsimp only));refine bX 1 ?_;intro gb358 hg w11 hbox hb;have BK358:=mA hbox;have GW358:=gbpB HB hg;have GE358:=gbpB HB hg;replace HB:=spB HB hb;clear hb hbox hg;have hcz12_0:=fun i_=>blk_cell BK358.out i_;have hfz12_0:=fun i_=>blk_frozen BK358.out i_))
     go_ret
     exact rZ (pS HB.out)
   ·rw [if_neg c4] at H;have c4b0:(a0_1 == 0)=false:=beq_eq_false_iff_ne.mpr c4;have c4b1:(a0_1 != 0)=true:=bne_iff_ne.mpr c4;obtain rfl:=Option.some.inj H
    go_enter Try.func31,Try.ntmps31
    go_wp2_with (first|((with_reducible refine gLd rfl rfl (by assumption) ?_);refine ldV ?_)|((with_reducible refine gSt rfl (by assumption) ?_);refine stV ?_)|((with_reducible refine gT 1 rfl ?_);(try (refine gate_guard (by rfl) ?_;dsimp only));refine bX 1 ?_;intro gb358 hg w13 hbox hb;have BK358:=mA hbox;have GW358:=gbpB HB hg;have GE358:=gbpB HB hg;replace HB:=spB HB hb;clear hb hbox hg;have hcz14_0:=fun i_=>blk_cell BK358.out i_;have hfz14_0:=fun i_=>blk_frozen BK358.out i_))
    go_ret
    exact rZ (pS HB.out)
  ·rw [if_neg c3] at H;have c3b0:(a0_0 == 0)=false:=beq_eq_false_iff_ne.mpr c3;have c3b1:(a0_0 != 0)=true:=bne_iff_ne.mpr c3;obtain rfl:=Option.some.inj H
   go_enter Try.func31,Try.ntmps31
   go_wp2_with (first|((with_reducible refine gLd rfl rfl (by assumption) ?_);refine ldV ?_)|((with_reducible refine gSt rfl (by assumption) ?_);refine stV ?_)|((with_reducible refine gT 1 rfl ?_);(try (refine gate_guard (by rfl) ?_;dsimp only));refine bX 1 ?_;intro gb358 hg w15 hbox hb;have BK358:=mA hbox;have GW358:=gbpB HB hg;have GE358:=gbpB HB hg;replace HB:=spB HB hb;clear hb hbox hg;have hcz16_0:=fun i_=>blk_cell BK358.out i_;have hfz16_0:=fun i_=>blk_frozen BK358.out i_))
   go_ret
   exact rZ (pS HB.out)
 ·rw [if_neg c2] at H;have c2b0:(a0_2 == 0)=false:=beq_eq_false_iff_ne.mpr c2;have c2b1:(a0_2 != 0)=true:=bne_iff_ne.mpr c2;have HC17:=mA H;clear H
  go_enter Try.func31,Try.ntmps31
  go_upto_region 3 with (first|((with_reducible refine gLd rfl rfl (by assumption) ?_);refine ldV ?_)|((with_reducible refine gSt rfl (by assumption) ?_);refine stV ?_)|((with_reducible refine gT 1 rfl ?_);(try (refine gate_guard (by rfl) ?_;dsimp only));refine bX 1 ?_;intro gb358 hg w18 hbox hb;have BK358:=mA hbox;have GW358:=gbpB HB hg;have GE358:=gbpB HB hg;replace HB:=spB HB hb;clear hb hbox hg;have hcz19_0:=fun i_=>blk_cell BK358.out i_;have hfz19_0:=fun i_=>blk_frozen BK358.out i_))
  (try simp only [Act.put,List.setIfInBounds_toArray,List.set_cons_zero,List.set_cons_succ])
  go_cut [60] (fun v60 wc=>∃ (kq:Nat) (x60_16:Bool),v60=.bool x60_16∧Aside0 (spec_SynSeekerOk.j0 kq x60_16 a0_0 a0_1 a0_2 a0_3 a0_4 a0_5 a0_6 a0_7 a0_8 a0_9 a0_10 a0_11 a0_12 a0_13 a0_14 a0_15 a0_16 a0_17 a0_18 a0_19 a0_20 a0_21 a0_22 a0_23 a0_24 l0_25=some r)∧Aside0 (kq≤k)∧Aside0 (wc.heap[gb358]?=some (.cells #[.int .i64 a0_0,.int .i64 a0_1,.int .i64 a0_2,.int .i64 a0_3,.int .i64 a0_4,.int .i64 a0_5,.int .i64 a0_6,.int .i64 a0_7,.int .i64 a0_8,.int .i64 a0_9,.int .i64 a0_10,.int .i64 a0_11,.int .i64 a0_12,.int .i64 a0_13,.int .i64 a0_14,.int .i64 a0_15,.int .i64 a0_16,.int .i64 a0_17,.int .i64 a0_18,.int .i64 a0_19,.int .i64 a0_20,.int .i64 a0_21,.int .i64 a0_22,.int .i64 a0_23,.int .i64 a0_24,(.slice A0_25 l0_25.length c0_25)] 66 (0,0)))∧Aside0 (Below w.heap.size w wc))
  case first =>
   have H:=HC17.out;clear HC17;obtain ⟨t359,A20,H⟩:=bI H;(try dsimp only at H)
   by_cases c21:t359=true
   ·subst c21;rw [if_pos rfl] at H;obtain ⟨t360,A22,H⟩:=bI H;(try dsimp only at H)
    by_cases c23:t360=true
    ·subst c23;rw [if_pos rfl] at H;obtain ⟨t361,A24,H⟩:=bI H;(try dsimp only at H)
     by_cases c25:t361=true
     ·subst c25;rw [if_pos rfl] at H;obtain ⟨t362,A26,H⟩:=bI H;(try dsimp only at H)
      by_cases c27:t362=true
      ·subst c27;rw [if_pos rfl] at H;have H':=mA H;clear H;have hcz28_0:=fun i_=>blk_cell BK358.out i_;have hfz28_0:=fun i_=>blk_frozen BK358.out i_
       go_wp2_with (first|((with_reducible refine gLd rfl rfl (by assumption) ?_);refine ldV ?_)|((with_reducible refine gSt rfl (by assumption) ?_);refine stV ?_)|((with_reducible refine gT 35 rfl ?_);refine gC (some 35) Try.func67 (spec_l6In.calls A20.out) ?_;rintro e w' ⟨rfl,⟨nd,rfl⟩⟩;refine ⟨_,rfl,?_⟩)|(go_at_call 67;(with_reducible refine (spec_l6In.calls A22.out).mono ?_);rintro e w' ⟨rfl,⟨nd,rfl⟩⟩)|(go_at_call 67;(with_reducible refine (spec_l6In.calls A24.out).mono ?_);rintro e w' ⟨rfl,⟨nd,rfl⟩⟩)|(go_at_call 69;(with_reducible refine (spec_l11CmdOk.calls A26.out).mono ?_);rintro e w29 ⟨rfl,hb⟩;replace BK358:=bK BK358 hb;replace HB:=spS HB hb;(try clear hb);have hcz30_0:=fun i_=>blk_cell BK358.out i_;have hfz30_0:=fun i_=>blk_frozen BK358.out i_))
       go_meet
       case rel=>exact ⟨_,(decide ((l0_25.length:Int) ≥ 2)),bZ,H',⟨by first|omega|exact Nat.le_refl _⟩,⟨pK BK358.out⟩,⟨pS HB.out⟩⟩
      ·replace c27:=Bool.eq_false_iff.mpr c27;subst c27
       rw [if_neg nFT] at H
       have H':=mA H;clear H;have hcz31_0:=fun i_=>blk_cell BK358.out i_;have hfz31_0:=fun i_=>blk_frozen BK358.out i_
       go_wp2_with (first|((with_reducible refine gLd rfl rfl (by assumption) ?_);refine ldV ?_)|((with_reducible refine gSt rfl (by assumption) ?_);refine stV ?_)|((with_reducible refine gT 35 rfl ?_);refine gC (some 35) Try.func67 (spec_l6In.calls A20.out) ?_;rintro e w' ⟨rfl,⟨nd,rfl⟩⟩;refine ⟨_,rfl,?_⟩)|(go_at_call 67;(with_reducible refine (spec_l6In.calls A22.out).mono ?_);rintro e w' ⟨rfl,⟨nd,rfl⟩⟩)|(go_at_call 67;(with_reducible refine (spec_l6In.calls A24.out).mono ?_);rintro e w' ⟨rfl,⟨nd,rfl⟩⟩)|(go_at_call 69;(with_reducible refine (spec_l11CmdOk.calls A26.out).mono ?_);rintro e w32 ⟨rfl,hb⟩;replace BK358:=bK BK358 hb;replace HB:=spS HB hb;(try clear hb)))
       go_meet
       case rel=>exact ⟨_,(true),bZ,H',⟨by first|omega|exact Nat.le_refl _⟩,⟨pK BK358.out⟩,⟨pS HB.out⟩⟩
     ·replace c25:=Bool.eq_false_iff.mpr c25;subst c25
      rw [if_neg nFT] at H
      have H':=mA H;clear H;have hcz33_0:=fun i_=>blk_cell BK358.out i_;have hfz33_0:=fun i_=>blk_frozen BK358.out i_
      go_wp2_with (first|((with_reducible refine gLd rfl rfl (by assumption) ?_);refine ldV ?_)|((with_reducible refine gSt rfl (by assumption) ?_);refine stV ?_)|((with_reducible refine gT 35 rfl ?_);refine gC (some 35) Try.func67 (spec_l6In.calls A20.out) ?_;rintro e w' ⟨rfl,⟨nd,rfl⟩⟩;refine ⟨_,rfl,?_⟩)|(go_at_call 67;(with_reducible refine (spec_l6In.calls A22.out).mono ?_);rintro e w' ⟨rfl,⟨nd,rfl⟩⟩)|(go_at_call 67;(with_reducible refine (spec_l6In.calls A24.out).mono ?_);rintro e w' ⟨rfl,⟨nd,rfl⟩⟩))
      go_meet
      case rel=>exact ⟨_,(true),bZ,H',⟨by first|omega|exact Nat.le_refl _⟩,⟨pK BK358.out⟩,⟨pS HB.out⟩⟩
    ·replace c23:=Bool.eq_false_iff.mpr c23;subst c23
     rw [if_neg nFT] at H
     have H':=mA H;clear H;have hcz34_0:=fun i_=>blk_cell BK358.out i_;have hfz34_0:=fun i_=>blk_frozen BK358.out i_
     go_wp2_with (first|((with_reducible refine gLd rfl rfl (by assumption) ?_);refine ldV ?_)|((with_reducible refine gSt rfl (by assumption) ?_);refine stV ?_)|((with_reducible refine gT 35 rfl ?_);refine gC (some 35) Try.func67 (spec_l6In.calls A20.out) ?_;rintro e w' ⟨rfl,⟨nd,rfl⟩⟩;refine ⟨_,rfl,?_⟩)|(go_at_call 67;(with_reducible refine (spec_l6In.calls A22.out).mono ?_);rintro e w' ⟨rfl,⟨nd,rfl⟩⟩))
     go_meet
     case rel=>exact ⟨_,(true),bZ,H',⟨by first|omega|exact Nat.le_refl _⟩,⟨pK BK358.out⟩,⟨pS HB.out⟩⟩
   ·replace c21:=Bool.eq_false_iff.mpr c21;subst c21
    rw [if_neg nFT] at H
    have H':=mA H;clear H;have hcz35_0:=fun i_=>blk_cell BK358.out i_;have hfz35_0:=fun i_=>blk_frozen BK358.out i_
    go_wp2_with (first|((with_reducible refine gLd rfl rfl (by assumption) ?_);refine ldV ?_)|((with_reducible refine gSt rfl (by assumption) ?_);refine stV ?_)|((with_reducible refine gT 35 rfl ?_);refine gC (some 35) Try.func67 (spec_l6In.calls A20.out) ?_;rintro e w' ⟨rfl,⟨nd,rfl⟩⟩;refine ⟨_,rfl,?_⟩))
    go_meet
    case rel=>exact ⟨_,(true),bZ,H',⟨by first|omega|exact Nat.le_refl _⟩,⟨pK BK358.out⟩,⟨pS HB.out⟩⟩
  case rest =>
   clear HC17
   (try clear c2);(try clear c2b0);(try clear c2b1);(try clear hcz19_0);(try clear hfz19_0)
   obtain ⟨kq,x60_16,rfl,HA,HJ16,BK358,HB⟩:=hcut
   cases kq with
   | zero=>exact absurd HA.out (by simp [spec_SynSeekerOk.j0])
   | succ kj16 =>
    have H:=HA.out;clear HA;simp only [spec_SynSeekerOk.j0] at H
    by_cases c36:x60_16=true
    ·subst c36;rw [if_pos rfl] at H;obtain rfl:=Option.some.inj H
     go_wp2_with (first|((with_reducible refine gLd rfl rfl (by assumption) ?_);refine ldV ?_)|((with_reducible refine gSt rfl (by assumption) ?_);refine stV ?_))
     go_ret
     exact rZ (pS HB.out)
    ·replace c36:=Bool.eq_false_iff.mpr c36;subst c36
     rw [if_neg nFT] at H
     have H':=mA H;clear H
     go_wp2_with (first|((with_reducible refine gLd rfl rfl (by assumption) ?_);refine ldV ?_)|((with_reducible refine gSt rfl (by assumption) ?_);refine stV ?_))
     go_loopg [3] kj16 (fun kq v3 w'=>∃ (x3_2:Int),v3=.int .i64 x3_2∧Aside0 (spec_SynSeekerOk.l0 kq x3_2 a0_0 a0_1 a0_2 a0_3 a0_4 a0_5 a0_6 a0_7 a0_8 a0_9 a0_10 a0_11 a0_12 a0_13 a0_14 a0_15 a0_16 a0_17 a0_18 a0_19 a0_20 a0_21 a0_22 a0_23 a0_24 l0_25=some r)∧Aside0 (kq≤kj16)∧Aside0 (w'.heap[gb358]?=some (.cells #[.int .i64 a0_0,.int .i64 a0_1,.int .i64 a0_2,.int .i64 a0_3,.int .i64 a0_4,.int .i64 a0_5,.int .i64 a0_6,.int .i64 a0_7,.int .i64 a0_8,.int .i64 a0_9,.int .i64 a0_10,.int .i64 a0_11,.int .i64 a0_12,.int .i64 a0_13,.int .i64 a0_14,.int .i64 a0_15,.int .i64 a0_16,.int .i64 a0_17,.int .i64 a0_18,.int .i64 a0_19,.int .i64 a0_20,.int .i64 a0_21,.int .i64 a0_22,.int .i64 a0_23,.int .i64 a0_24,(.slice A0_25 l0_25.length c0_25)] 66 (0,0)))∧Aside0 (Below w.heap.size w w'))
     case atStart=>exact ⟨(0),bZ,H',⟨Nat.le_refl _⟩,⟨pK BK358.out⟩,⟨pS HB.out⟩⟩
     case round =>
      clear H'
      (try clear c36);(try clear hcz19_0);(try clear hfz19_0)
      obtain ⟨x3_2,rfl,HA,HK2,BK358,HB⟩:=hrel
      cases gk with
      | zero=>exact absurd HA.out (by simp [spec_SynSeekerOk.l0])
      | succ k2 =>
       have H:=HA.out;clear HA;simp only [spec_SynSeekerOk.l0] at H
       by_cases c37:x3_2<(l0_25.length:Int)
       ·rw [if_pos c37] at H;have c37b0:decide (x3_2<(l0_25.length:Int))=true:=decide_eq_true c37;clear c37
        by_cases c38:0≤x3_2
        ·rw [if_pos c38] at H;have c38b0:decide (0≤x3_2)=true:=decide_eq_true c38;clear c38;obtain ⟨t364,A39,H⟩:=bI H;(try dsimp only at H)
         by_cases c40:t364=true
         ·subst c40;rw [if_pos rfl] at H;have H':=mA H;clear H;have hcz41_0:=fun i_=>blk_cell BK358.out i_;have hfz41_0:=fun i_=>blk_frozen BK358.out i_;have p363:0≤(x3_2:Int):=of_decide_eq_true bA;have q363:x3_2<(l0_25.length:Int):=of_decide_eq_true bA;obtain ⟨ad363,e363,hx363_0⟩:=Kd.at_int HR0_25.out x3_2 p363 q363;cases e363;replace hx363_0:=hC HB hx363_0;replace p363:=eq_true p363;replace q363:=eq_true q363
          go_wp2_with (first|((with_reducible refine gLd rfl rfl (by assumption) ?_);refine ldV ?_)|((with_reducible refine gSt rfl (by assumption) ?_);refine stV ?_)|((with_reducible refine gT 73 rfl ?_);refine gC (some 73) Try.func67 (spec_l6In.calls A39.out) ?_;rintro e w' ⟨rfl,⟨nd,rfl⟩⟩;refine ⟨_,rfl,?_⟩))
          go_roundg k2
          case measure=>have:=HJ16.out;have:=HK2.out;omega
          case rel=>exact ⟨(wrap64 (x3_2+1)),bZ,H',⟨by have:=HJ16.out;have:=HK2.out;omega⟩,⟨pK BK358.out⟩,⟨pS HB.out⟩⟩
         ·replace c40:=Bool.eq_false_iff.mpr c40;subst c40
          rw [if_neg nFT] at H
          obtain rfl:=Option.some.inj H;have hcz42_0:=fun i_=>blk_cell BK358.out i_;have hfz42_0:=fun i_=>blk_frozen BK358.out i_;have p363:0≤(x3_2:Int):=of_decide_eq_true bA;have q363:x3_2<(l0_25.length:Int):=of_decide_eq_true bA;obtain ⟨ad363,e363,hx363_0⟩:=Kd.at_int HR0_25.out x3_2 p363 q363;cases e363;replace hx363_0:=hC HB hx363_0;replace p363:=eq_true p363;replace q363:=eq_true q363
          go_wp2_with (first|((with_reducible refine gLd rfl rfl (by assumption) ?_);refine ldV ?_)|((with_reducible refine gSt rfl (by assumption) ?_);refine stV ?_)|((with_reducible refine gT 73 rfl ?_);refine gC (some 73) Try.func67 (spec_l6In.calls A39.out) ?_;rintro e w' ⟨rfl,⟨nd,rfl⟩⟩;refine ⟨_,rfl,?_⟩))
          go_ret
          exact rZ (pS HB.out)
        ·rw [if_neg c38] at H
         exact absurd H (by simp)
       ·rw [if_neg c37] at H;have c37b0:decide (x3_2<(l0_25.length:Int))=false:=decide_eq_false c37;clear c37
        by_cases c43:(a0_13 == 0 && (a0_14 == 0 && ((a0_15 == 0 && (a0_16 == 0 && (a0_17 == 0 && (a0_18 == 0 && (a0_19 == 0 && (a0_20 == 0 && (a0_21 == 0 && (a0_22 == 0 && (a0_23 == 0 && (a0_24 == 0)))))))))))))=true
        ·rw [if_pos c43] at H;have c43b0:(a0_13 == 0 && (a0_14 == 0 && ((a0_15 == 0 && (a0_16 == 0 && (a0_17 == 0 && (a0_18 == 0 && (a0_19 == 0 && (a0_20 == 0 && (a0_21 == 0 && (a0_22 == 0 && (a0_23 == 0 && (a0_24 == 0)))))))))))))=true:=c43
         (try (have c43b1:decide (a0_13=0 && (a0_14 == 0 && ((a0_15 == 0 && (a0_16 == 0 && (a0_17 == 0 && (a0_18 == 0 && (a0_19 == 0 && (a0_20 == 0 && (a0_21 == 0 && (a0_22 == 0 && (a0_23 == 0 && (a0_24 == 0)))))))))))))=true:=by simpa using c43))
         (try (have c43b2:(a0_13 == 0 && (a0_14 == 0 && ((a0_15 == 0 && (a0_16 == 0 && (a0_17 == 0 && (a0_18 == 0 && (a0_19 == 0 && (a0_20 == 0 && (a0_21 == 0 && (a0_22 == 0 && (a0_23 == 0 && (a0_24 == 0)))))))))))))=true:=by simpa using c43))
         clear c43;obtain rfl:=Option.some.inj H;have hcz44_0:=fun i_=>blk_cell BK358.out i_;have hfz44_0:=fun i_=>blk_frozen BK358.out i_
         go_wp2_with (first|((with_reducible refine gLd rfl rfl (by assumption) ?_);refine ldV ?_)|((with_reducible refine gSt rfl (by assumption) ?_);refine stV ?_))
         go_ret
         exact rZ (pS HB.out)
        ·rw [if_neg c43] at H
         have c43b0:(a0_13 == 0 && (a0_14 == 0 && ((a0_15 == 0 && (a0_16 == 0 && (a0_17 == 0 && (a0_18 == 0 && (a0_19 == 0 && (a0_20 == 0 && (a0_21 == 0 && (a0_22 == 0 && (a0_23 == 0 && (a0_24 == 0)))))))))))))=false:=by simpa using c43
         (try (have c43b1:decide (a0_13=0 && (a0_14 == 0 && ((a0_15 == 0 && (a0_16 == 0 && (a0_17 == 0 && (a0_18 == 0 && (a0_19 == 0 && (a0_20 == 0 && (a0_21 == 0 && (a0_22 == 0 && (a0_23 == 0 && (a0_24 == 0)))))))))))))=false:=by simpa using c43))
         (try (have c43b2:(a0_13 == 0 && (a0_14 == 0 && ((a0_15 == 0 && (a0_16 == 0 && (a0_17 == 0 && (a0_18 == 0 && (a0_19 == 0 && (a0_20 == 0 && (a0_21 == 0 && (a0_22 == 0 && (a0_23 == 0 && (a0_24 == 0)))))))))))))=false:=by simpa using c43))
         (try (have c43b3:¬ (a0_13=0 && (a0_14 == 0 && ((a0_15 == 0 && (a0_16 == 0 && (a0_17 == 0 && (a0_18 == 0 && (a0_19 == 0 && (a0_20 == 0 && (a0_21 == 0 && (a0_22 == 0 && (a0_23 == 0 && (a0_24 == 0))))))))))))):=by simpa using c43))
         clear c43;obtain ⟨t365,A45,H⟩:=bI H;(try dsimp only at H)
         by_cases c46:t365=true
         ·subst c46;rw [if_pos rfl] at H
          by_cases c47:a0_13=a0_0
          ·rw [if_pos c47] at H;obtain ⟨c47b0,c47b1⟩:=eqB c47;clear c47;obtain rfl:=Option.some.inj H;have hcz48_0:=fun i_=>blk_cell BK358.out i_;have hfz48_0:=fun i_=>blk_frozen BK358.out i_
           go_wp2_with (first|((with_reducible refine gLd rfl rfl (by assumption) ?_);refine ldV ?_)|((with_reducible refine gSt rfl (by assumption) ?_);refine stV ?_)|(go_at_call 86;(with_reducible refine (spec_l21PaperOk.calls A45.out).mono ?_);rintro e w49 ⟨rfl,hb⟩;replace BK358:=bK BK358 hb;replace HB:=spS HB hb;(try clear hb);have hcz50_0:=fun i_=>blk_cell BK358.out i_;have hfz50_0:=fun i_=>blk_frozen BK358.out i_))
           go_ret
           exact rZ (pS HB.out)
          ·rw [if_neg c47] at H;have c47b0:(a0_13 == a0_0)=false:=beq_eq_false_iff_ne.mpr c47;have c47b1:(a0_13 != a0_0)=true:=bne_iff_ne.mpr c47;obtain rfl:=Option.some.inj H;have hcz51_0:=fun i_=>blk_cell BK358.out i_;have hfz51_0:=fun i_=>blk_frozen BK358.out i_
           go_wp2_with (first|((with_reducible refine gLd rfl rfl (by assumption) ?_);refine ldV ?_)|((with_reducible refine gSt rfl (by assumption) ?_);refine stV ?_)|(go_at_call 86;(with_reducible refine (spec_l21PaperOk.calls A45.out).mono ?_);rintro e w52 ⟨rfl,hb⟩;replace BK358:=bK BK358 hb;replace HB:=spS HB hb;(try clear hb);have hcz53_0:=fun i_=>blk_cell BK358.out i_;have hfz53_0:=fun i_=>blk_frozen BK358.out i_))
           go_ret
           exact rZ (pS HB.out)
         ·replace c46:=Bool.eq_false_iff.mpr c46;subst c46
          rw [if_neg nFT] at H
          obtain rfl:=Option.some.inj H;have hcz54_0:=fun i_=>blk_cell BK358.out i_;have hfz54_0:=fun i_=>blk_frozen BK358.out i_
          go_wp2_with (first|((with_reducible refine gLd rfl rfl (by assumption) ?_);refine ldV ?_)|((with_reducible refine gSt rfl (by assumption) ?_);refine stV ?_)|(go_at_call 86;(with_reducible refine (spec_l21PaperOk.calls A45.out).mono ?_);rintro e w55 ⟨rfl,hb⟩;replace BK358:=bK BK358 hb;replace HB:=spS HB hb;(try clear hb)))
          go_ret
          exact rZ (pS HB.out)
/-! ### spec_l22All: function 97 -/
def spec_l22All.l0 : Nat → List (S9028) → Int → Int → Int → Int → Int → Int → Int → Int → Int → Int → Int → Int → Int → Int → Int → Int → Int → Int → Int → Int → Int → Int → Int → Int → Int → Unit → Unit → Option ((List (S9028)))
 | 0,_,_,_,_,_,_,_,_,_,_,_,_,_,_,_,_,_,_,_,_,_,_,_,_,_,_,_,_=>none
 | k+1,x3,x4,x367000,x367001,x367002,x367003,x367004,x367005,x367006,x367007,x367008,x367009,x367010,x367011,x367012,x367013,x367014,x367015,x367016,x367017,x367018,x367019,x367020,x367021,x367022,x367023,x367024,x367025=>if x4<3 then (if x3.length<586406201480 then (spec_l22All.l0 k (x3 ++ [(⟨x367000,x367001,x4,x367003,x367004,x367005,(⟨x367006,x367007,x367008,x367009,x367010,x367011,x367012,x367013,x367014,x367015⟩:S24),x367016,x367017,x367018,x367019,x367020,x367021,x367022,x367023,x367024,x367025⟩:S9028)]) (wrap64 (x4+1)) x367000 x367001 x4 x367003 x367004 x367005 x367006 x367007 x367008 x367009 x367010 x367011 x367012 x367013 x367014 x367015 x367016 x367017 x367018 x367019 x367020 x367021 x367022 x367023 x367024 x367025) else (none)) else (some x3)
def spec_l22All.f (k : Nat) (a0_0 a0_1 a0_2 a0_3 a0_4 a0_5 a0_6 a0_7 a0_8 a0_9 a0_10 a0_11 a0_12 a0_13 a0_14 a0_15 a0_16 a0_17 a0_18 a0_19 a0_20 a0_21 a0_22 a0_23 : Int) (a0_24 : Unit) (a0_25 : Unit) : Option ((List (S9028))) := spec_l22All.l0 k (([] : List (S9028))) 0 a0_0 a0_1 a0_2 a0_3 a0_4 a0_5 a0_6 a0_7 a0_8 a0_9 a0_10 a0_11 a0_12 a0_13 a0_14 a0_15 a0_16 a0_17 a0_18 a0_19 a0_20 a0_21 a0_22 a0_23 a0_24 a0_25
theorem spec_l22All.mono_l : ∀ k, (∀ y0 y1 y2 y3 y4 y5 y6 y7 y8 y9 y10 y11 y12 y13 y14 y15 y16 y17 y18 y19 y20 y21 y22 y23 y24 y25 y26 y27, LeO (spec_l22All.l0 k y0 y1 y2 y3 y4 y5 y6 y7 y8 y9 y10 y11 y12 y13 y14 y15 y16 y17 y18 y19 y20 y21 y22 y23 y24 y25 y26 y27) (spec_l22All.l0 (k + 1) y0 y1 y2 y3 y4 y5 y6 y7 y8 y9 y10 y11 y12 y13 y14 y15 y16 y17 y18 y19 y20 y21 y22 y23 y24 y25 y26 y27))
 | 0=>fun _ _ _ _ _ _ _ _ _ _ _ _ _ _ _ _ _ _ _ _ _ _ _ _ _ _ _ _ r h=>by simp [spec_l22All.l0] at h
 | k+1=>by
  have ih0:=spec_l22All.mono_l k
  ·intros
   unfold spec_l22All.l0
   repeat' first
   | (with_reducible first|apply ih0|exact LeO.refl _|exact LeO.none _|refine LeO.ite ?_ ?_|refine LeO.bind ?_ (fun _=>?_))|exact LeO.none _|refine LeO.ite ?_ ?_|refine LeO.bind ?_ (fun _=>?_)
theorem spec_l22All.mono : ∀ a0 a1 a2 a3 a4 a5 a6 a7 a8 a9 a10 a11 a12 a13 a14 a15 a16 a17 a18 a19 a20 a21 a22 a23 a24 a25 k, LeO (spec_l22All.f k a0 a1 a2 a3 a4 a5 a6 a7 a8 a9 a10 a11 a12 a13 a14 a15 a16 a17 a18 a19 a20 a21 a22 a23 a24 a25) (spec_l22All.f (k + 1) a0 a1 a2 a3 a4 a5 a6 a7 a8 a9 a10 a11 a12 a13 a14 a15 a16 a17 a18 a19 a20 a21 a22 a23 a24 a25) := by
 intro a0 a1 a2 a3 a4 a5 a6 a7 a8 a9 a10 a11 a12 a13 a14 a15 a16 a17 a18 a19 a20 a21 a22 a23 a24 a25 k;have ih0:=spec_l22All.mono_l k
 unfold spec_l22All.f
 repeat' first
   | (with_reducible first|apply ih0|exact LeO.refl _|exact LeO.none _|refine LeO.ite ?_ ?_|refine LeO.bind ?_ (fun _=>?_))|exact LeO.none _|refine LeO.ite ?_ ?_|refine LeO.bind ?_ (fun _=>?_)
set_option maxHeartbeats 8000000 in
set_option maxRecDepth 100000 in
theorem spec_l22All.calls {k : Nat} {a0_0 a0_1 a0_2 a0_3 a0_4 a0_5 a0_6 a0_7 a0_8 a0_9 a0_10 a0_11 a0_12 a0_13 a0_14 a0_15 a0_16 a0_17 a0_18 a0_19 a0_20 a0_21 a0_22 a0_23 : Int} {a0_24 a0_25 : Unit} {r : List (S9028)} {w : World} (h : spec_l22All.f k a0_0 a0_1 a0_2 a0_3 a0_4 a0_5 a0_6 a0_7 a0_8 a0_9 a0_10 a0_11 a0_12 a0_13 a0_14 a0_15 a0_16 a0_17 a0_18 a0_19 a0_20 a0_21 a0_22 a0_23 a0_24 a0_25 = some r) :
  Calls Try.prog 97 #[.agg #[.int .i64 a0_0,.int .i64 a0_1,.int .i64 a0_2,.int .i64 a0_3,.int .i64 a0_4,.int .i64 a0_5,.int .i64 a0_6,.int .i64 a0_7,.int .i64 a0_8,.int .i64 a0_9,.int .i64 a0_10,.int .i64 a0_11,.int .i64 a0_12,.int .i64 a0_13,.int .i64 a0_14,.int .i64 a0_15,.int .i64 a0_16,.int .i64 a0_17,.int .i64 a0_18,.int .i64 a0_19,.int .i64 a0_20,.int .i64 a0_21,.int .i64 a0_22,.int .i64 a0_23,.slice none 0 0,.slice none 0 0]] w fun e w'=>∃ v0_:Value,e=.returned (v0_)∧Kd.R k9028 28 w' w.heap.size (fun _=>True) v0_ r∧Below w.heap.size w w':=by
 have hu28:=Try.underlying28;have HB:=mA (Below.refl w.heap.size w);have H:(spec_l22All.l0 k (([]:List (S9028))) 0 a0_0 a0_1 a0_2 a0_3 a0_4 a0_5 a0_6 a0_7 a0_8 a0_9 a0_10 a0_11 a0_12 a0_13 a0_14 a0_15 a0_16 a0_17 a0_18 a0_19 a0_20 a0_21 a0_22 a0_23 a0_24 a0_25)=some r:=h;clear h;obtain ⟨y367,hy367⟩:∃ y_:List (S9028),y_=(([]:List (S9028))):=⟨_,rfl⟩
 replace H:(spec_l22All.l0 k y367 0 a0_0 a0_1 a0_2 a0_3 a0_4 a0_5 a0_6 a0_7 a0_8 a0_9 a0_10 a0_11 a0_12 a0_13 a0_14 a0_15 a0_16 a0_17 a0_18 a0_19 a0_20 a0_21 a0_22 a0_23 a0_24 a0_25)=some r:=qH hy367 H
 have Ny367:=mA hy367;clear hy367;have H':=mA H;clear H
 go_enter Try.func97,Try.ntmps97
 go_wp2_with (first|((with_reducible refine gLg rfl (by assumption) ?_);refine ldV ?_)|((with_reducible refine gSt rfl (by assumption) ?_);refine stV ?_)|((with_reducible refine gT 1 rfl ?_);refine bX 1 ?_;intro gb366 hg w2 hbox hb;have BK366:=mA hbox;have GW366:=gbpB HB hg;have GE366:=gbpB HB hg;replace HB:=spB HB hb;clear hb hbox hg)|((with_reducible refine gT 5 rfl ?_);refine Kd.R_lit k9028 _ 28 ?hg (N:=5) ?hd (xs:=([]:List (S9028))) (inner:=[]) (ok:=fun _=>True) (okp:=fun _=>True) ?hr ?hp (fun _ hk=>hk) trivial (Below.refl _ _) (Nat.le_refl _) (by simp) ?_;(case hd=>rfl);(case hg=>rfl);(case hr=>first|(go_simp;done)|(go_simp;rfl));(case hp=>exact (Reps.none _ _));intro v368 w3 ho4 hb hg_ hnew_;clear hg_ hnew_;(first|rw [← Ny367.out] at ho4|(simp only [Int.reduceToNat] at ho4;rw [← Ny367.out] at ho4));have HO369:=mA (Kd.R_lower (Kd.R_newB ho4 (g:=gb366) (o:=.cells #[.int .i64 a0_0,.int .i64 a0_1,.int .i64 a0_2,.int .i64 a0_3,.int .i64 a0_4,.int .i64 a0_5,.int .i64 a0_6,.int .i64 a0_7,.int .i64 a0_8,.int .i64 a0_9,.int .i64 a0_10,.int .i64 a0_11,.int .i64 a0_12,.int .i64 a0_13,.int .i64 a0_14,.int .i64 a0_15,.int .i64 a0_16,.int .i64 a0_17,.int .i64 a0_18,.int .i64 a0_19,.int .i64 a0_20,.int .i64 a0_21,.int .i64 a0_22,.int .i64 a0_23,.slice none 0 0,.slice none 0 0] 28 (0,0)) (pK BK366.out)) (bpS HB));replace BK366:=bK BK366 hb;replace HB:=spS HB hb;clear hb ho4))
 go_loopg [3,4] k (fun kq v3 v4 w'=>∃ (x3_1:List (S9028)) (x4_1:Int) (x367002_1:Int),v4=.int .i64 x4_1∧Aside0 (spec_l22All.l0 kq x3_1 x4_1 a0_0 a0_1 x367002_1 a0_3 a0_4 a0_5 a0_6 a0_7 a0_8 a0_9 a0_10 a0_11 a0_12 a0_13 a0_14 a0_15 a0_16 a0_17 a0_18 a0_19 a0_20 a0_21 a0_22 a0_23 a0_24 a0_25=some r)∧Aside0 (kq≤k)∧Aside0 (Kd.R k9028 28 w' w.heap.size (fun k_=>k_≠gb366) v3 x3_1)∧Aside0 (w'.heap[gb366]?=some (.cells #[.int .i64 a0_0,.int .i64 a0_1,.int .i64 x367002_1,.int .i64 a0_3,.int .i64 a0_4,.int .i64 a0_5,.int .i64 a0_6,.int .i64 a0_7,.int .i64 a0_8,.int .i64 a0_9,.int .i64 a0_10,.int .i64 a0_11,.int .i64 a0_12,.int .i64 a0_13,.int .i64 a0_14,.int .i64 a0_15,.int .i64 a0_16,.int .i64 a0_17,.int .i64 a0_18,.int .i64 a0_19,.int .i64 a0_20,.int .i64 a0_21,.int .i64 a0_22,.int .i64 a0_23,.slice none 0 0,.slice none 0 0] 28 (0,0)))∧Aside0 (Below w.heap.size w w'))
 case atStart=>exact ⟨(y367),(0),(a0_2),bZ,H',⟨Nat.le_refl _⟩,⟨pR (Kd.R_mono HO369.out (fun _ hk=>hk.2))⟩,⟨pK BK366.out⟩,⟨pS HB.out⟩⟩
 case round =>
  clear H'
  obtain ⟨x3_1,x4_1,x367002_1,rfl,HA,HK1,HO_3,BK366,HB⟩:=hrel
  cases gk with
  | zero=>exact absurd HA.out (by simp [spec_l22All.l0])
  | succ k1 =>
   have H:=HA.out;clear HA;simp only [spec_l22All.l0] at H
   by_cases c5:x4_1<3
   ·rw [if_pos c5] at H;have c5b0:decide (x4_1<3)=true:=decide_eq_true c5;clear c5
    by_cases c6:x3_1.length<586406201480
    ·rw [if_pos c6] at H;have LMc6:=mA c6;clear c6;obtain ⟨y370,hy370⟩:∃ y_:List (S9028),y_=(x3_1 ++ [(⟨a0_0,a0_1,x4_1,a0_3,a0_4,a0_5,(⟨a0_6,a0_7,a0_8,a0_9,a0_10,a0_11,a0_12,a0_13,a0_14,a0_15⟩:S24),a0_16,a0_17,a0_18,a0_19,a0_20,a0_21,a0_22,a0_23,a0_24,a0_25⟩:S9028)]):=⟨_,rfl⟩
     replace H:(spec_l22All.l0 k1 y370 (wrap64 (x4_1+1)) a0_0 a0_1 x4_1 a0_3 a0_4 a0_5 a0_6 a0_7 a0_8 a0_9 a0_10 a0_11 a0_12 a0_13 a0_14 a0_15 a0_16 a0_17 a0_18 a0_19 a0_20 a0_21 a0_22 a0_23 a0_24 a0_25)=some r:=qH hy370 H
     have Ny370:=mA hy370;clear hy370;have H':=mA H;clear H;have hcz7_0:=fun i_=>blk_cell BK366.out i_;have hfz7_0:=fun i_=>blk_frozen BK366.out i_
     go_wp2_with (first|((with_reducible refine gLg rfl (by assumption) ?_);refine ldV ?_)|((with_reducible refine gSt rfl (by assumption) ?_);refine stV ?_)|((with_reducible refine gate_builtin (b:=.append) (xs:=#[.tmp 12,.tmp 14]) rfl ?_);at_builtin;refine Kd.R_append k9028 (w0:=w) w.heap.size rfl (.tmp 12) (.tmp 14) 70 28 (.agg #[(.int .i64 0),(.int .i64 0),(.int .i64 0),(.int .i64 0),(.int .i64 0),(.int .i64 0),(.int .i64 0),(.int .i64 0),(.int .i64 0),(.int .i64 0),(.int .i64 0),(.int .i64 0),(.int .i64 0),(.int .i64 0),(.int .i64 0),(.int .i64 0),(.int .i64 0),(.int .i64 0),(.int .i64 0),(.int .i64 0),(.int .i64 0),(.int .i64 0),(.int .i64 0),(.int .i64 0),(.slice none 0 0),(.slice none 0 0)]) 240 rfl Try.underlying70 info28 rfl aD (by omega) u3 x3_1 (⟨a0_0,a0_1,x4_1,a0_3,a0_4,a0_5,(⟨a0_6,a0_7,a0_8,a0_9,a0_10,a0_11,a0_12,a0_13,a0_14,a0_15⟩:S24),a0_16,a0_17,a0_18,a0_19,a0_20,a0_21,a0_22,a0_23,a0_24,a0_25⟩:S9028) [.int .i64 a0_0,.int .i64 a0_1,.int .i64 x4_1,.int .i64 a0_3,.int .i64 a0_4,.int .i64 a0_5,.int .i64 a0_6,.int .i64 a0_7,.int .i64 a0_8,.int .i64 a0_9,.int .i64 a0_10,.int .i64 a0_11,.int .i64 a0_12,.int .i64 a0_13,.int .i64 a0_14,.int .i64 a0_15,.int .i64 a0_16,.int .i64 a0_17,.int .i64 a0_18,.int .i64 a0_19,.int .i64 a0_20,.int .i64 a0_21,.int .i64 a0_22,.int .i64 a0_23,.slice none 0 0,.slice none 0 0] (fun k_=>k_≠gb366) (fun _=>False) rfl (by first|(go_simp;done)|(go_simp;rfl)) ?aP (fun _ hk=>hk.elim) ?aF ?aO ?aB ?aS ?aL ?_;(case aP=>exact k9028_mkM _ _ _ (⟨a0_0,a0_1,x4_1,a0_3,a0_4,a0_5,(⟨a0_6,a0_7,a0_8,a0_9,a0_10,a0_11,a0_12,a0_13,a0_14,a0_15⟩:S24),a0_16,a0_17,a0_18,a0_19,a0_20,a0_21,a0_22,a0_23,a0_24,a0_25⟩:S9028));(case aB=>exact (pS HB.out));(case aF=>exact (fun k_ hk=>Kd.freshB (g:=gb366) (o:=.cells #[.int .i64 a0_0,.int .i64 a0_1,.int .i64 x4_1,.int .i64 a0_3,.int .i64 a0_4,.int .i64 a0_5,.int .i64 a0_6,.int .i64 a0_7,.int .i64 a0_8,.int .i64 a0_9,.int .i64 a0_10,.int .i64 a0_11,.int .i64 a0_12,.int .i64 a0_13,.int .i64 a0_14,.int .i64 a0_15,.int .i64 a0_16,.int .i64 a0_17,.int .i64 a0_18,.int .i64 a0_19,.int .i64 a0_20,.int .i64 a0_21,.int .i64 a0_22,.int .i64 a0_23,.slice none 0 0,.slice none 0 0] 28 (0,0)) (pP BK366) k_ hk));(case aO=>exact (pR (Kd.R_mono (Kd.R_far (p:=⟨gb366,2,none⟩) (Kd.R_mono HO_3.out (fun k_ hk=>(⟨hk,hk⟩:_∧k_≠gb366))) (fun _ hk=>hk.2) (.int .i64 x4_1)) (fun _ hk=>hk.1))));(case aS=>exact (bpS HB));(case aL=>have:=LMc6.out;omega);intro v371 w8 ho hb hg hat;rw [← Ny370.out] at ho;have HO372:=mA ho;replace BK366:=mA (blk_grown (g:=gb366) (o:=.cells #[.int .i64 a0_0,.int .i64 a0_1,.int .i64 x4_1,.int .i64 a0_3,.int .i64 a0_4,.int .i64 a0_5,.int .i64 a0_6,.int .i64 a0_7,.int .i64 a0_8,.int .i64 a0_9,.int .i64 a0_10,.int .i64 a0_11,.int .i64 a0_12,.int .i64 a0_13,.int .i64 a0_14,.int .i64 a0_15,.int .i64 a0_16,.int .i64 a0_17,.int .i64 a0_18,.int .i64 a0_19,.int .i64 a0_20,.int .i64 a0_21,.int .i64 a0_22,.int .i64 a0_23,.slice none 0 0,.slice none 0 0] 28 (0,0)) (pP BK366) hg (Kd.R_away HO_3.out (fun _ hk=>hk)));replace HB:=mA hb;clear HO_3;clear ho hb hg hat))
     go_roundg k1
     case measure=>have:=HK1.out;omega
     case rel=>exact ⟨(y370),(wrap64 (x4_1+1)),(x4_1),bZ,H',⟨by have:=HK1.out;omega⟩,⟨pR HO372.out⟩,⟨pK BK366.out⟩,⟨pS HB.out⟩⟩
    ·rw [if_neg c6] at H
     exact absurd H (by simp)
   ·rw [if_neg c5] at H;have c5b0:decide (x4_1<3)=false:=decide_eq_false c5;clear c5;obtain rfl:=Option.some.inj H
    go_wp2_with (first|((with_reducible refine gLg rfl (by assumption) ?_);refine ldV ?_)|((with_reducible refine gSt rfl (by assumption) ?_);refine stV ?_))
    go_ret
    exact ⟨_,by first|rfl|(simp [errW_none,errW_some]<;>rfl)|(simp [*,errW_none,errW_some]<;>rfl),pR (Kd.R_mono HO_3.out (fun _ hk=>trivial)),pS HB.out⟩
/-! ### spec_l22Copy: function 118 -/
def spec_l22Copy.f (a0_0 a0_1 a0_2 a0_3 a0_4 a0_5 a0_6 a0_7 a0_8 a0_9 a0_10 a0_11 a0_12 a0_13 a0_14 a0_15 a0_16 a0_17 a0_18 a0_19 a0_20 a0_21 a0_22 a0_23 a0_24 : Int) (l0_25 : List Int) : Option (Int × Int × Int × Int × Int × Int × Int × Int × Int × Int × Int × Int × Int × Int × Int × Int × Int × Int × Int × Int × Int × Int × Int × Int × Int × List Int) := (some (([] : List Int) : List Int)).bind fun y375 => (if y375.length + l0_25.length < 17592186044416 then (some (a0_0, a0_1, a0_2, a0_3, a0_4, a0_5, a0_6, a0_7, a0_8, a0_9, a0_10, a0_11, a0_12, a0_13, a0_14, a0_15, a0_16, a0_17, a0_18, a0_19, a0_20, a0_21, a0_22, a0_23, a0_24, (y375 ++ l0_25))) else (none))
set_option maxHeartbeats 8000000 in
set_option maxRecDepth 100000 in
theorem spec_l22Copy.calls {a0_0 a0_1 a0_2 a0_3 a0_4 a0_5 a0_6 a0_7 a0_8 a0_9 a0_10 a0_11 a0_12 a0_13 a0_14 a0_15 a0_16 a0_17 a0_18 a0_19 a0_20 a0_21 a0_22 a0_23 a0_24 : Int} {A0_25 : Option Addr} {c0_25 : Nat} {l0_25 : List Int} {r1 r2 r3 r4 r5 r6 r7 r8 r9 r10 r11 r12 r13 r14 r15 r16 r17 r18 r19 r20 r21 r22 r23 r24 r25 : Int} {r26 : List Int} {w : World} (hr0_25 : Kd.C (Kd.int .i64) w A0_25 l0_25.length l0_25) (hc0_25 : l0_25.length ≤ c0_25) (h : spec_l22Copy.f a0_0 a0_1 a0_2 a0_3 a0_4 a0_5 a0_6 a0_7 a0_8 a0_9 a0_10 a0_11 a0_12 a0_13 a0_14 a0_15 a0_16 a0_17 a0_18 a0_19 a0_20 a0_21 a0_22 a0_23 a0_24 l0_25 = some (r1, r2, r3, r4, r5, r6, r7, r8, r9, r10, r11, r12, r13, r14, r15, r16, r17, r18, r19, r20, r21, r22, r23, r24, r25, r26)) :
  Calls Try.prog 118 #[.agg #[.int .i64 a0_0,.int .i64 a0_1,.int .i64 a0_2,.int .i64 a0_3,.int .i64 a0_4,.int .i64 a0_5,.int .i64 a0_6,.int .i64 a0_7,.int .i64 a0_8,.int .i64 a0_9,.int .i64 a0_10,.int .i64 a0_11,.int .i64 a0_12,.int .i64 a0_13,.int .i64 a0_14,.int .i64 a0_15,.int .i64 a0_16,.int .i64 a0_17,.int .i64 a0_18,.int .i64 a0_19,.int .i64 a0_20,.int .i64 a0_21,.int .i64 a0_22,.int .i64 a0_23,.int .i64 a0_24,.slice A0_25 l0_25.length c0_25]] w fun e w'=>∃ v25_:Value,e=.returned (.agg #[.int .i64 r1,.int .i64 r2,.int .i64 r3,.int .i64 r4,.int .i64 r5,.int .i64 r6,.int .i64 r7,.int .i64 r8,.int .i64 r9,.int .i64 r10,.int .i64 r11,.int .i64 r12,.int .i64 r13,.int .i64 r14,.int .i64 r15,.int .i64 r16,.int .i64 r17,.int .i64 r18,.int .i64 r19,.int .i64 r20,.int .i64 r21,.int .i64 r22,.int .i64 r23,.int .i64 r24,.int .i64 r25,v25_])∧Kd.R (Kd.int .i64) 3 w' w.heap.size (fun _=>True) v25_ r26∧Below w.heap.size w w':=by
 have hu66:=Try.underlying66;have HR0_25:=mA hr0_25;have HC0_25:=mA hc0_25;clear hr0_25 hc0_25;have HB:=mA (Below.refl w.heap.size w);have H:((some (([]:List Int):List Int)).bind fun y375=>(if y375.length+l0_25.length<17592186044416 then (some (a0_0,a0_1,a0_2,a0_3,a0_4,a0_5,a0_6,a0_7,a0_8,a0_9,a0_10,a0_11,a0_12,a0_13,a0_14,a0_15,a0_16,a0_17,a0_18,a0_19,a0_20,a0_21,a0_22,a0_23,a0_24,(y375 ++ l0_25))) else (none)))=some (r1,r2,r3,r4,r5,r6,r7,r8,r9,r10,r11,r12,r13,r14,r15,r16,r17,r18,r19,r20,r21,r22,r23,r24,r25,r26):=h;clear h;obtain ⟨y375,hy375⟩:∃ y_:List Int,y_=(([]:List Int)):=⟨_,rfl⟩
 replace H:(if y375.length+l0_25.length<17592186044416 then (some (a0_0,a0_1,a0_2,a0_3,a0_4,a0_5,a0_6,a0_7,a0_8,a0_9,a0_10,a0_11,a0_12,a0_13,a0_14,a0_15,a0_16,a0_17,a0_18,a0_19,a0_20,a0_21,a0_22,a0_23,a0_24,(y375 ++ l0_25))) else (none))=some (r1,r2,r3,r4,r5,r6,r7,r8,r9,r10,r11,r12,r13,r14,r15,r16,r17,r18,r19,r20,r21,r22,r23,r24,r25,r26):=qH hy375 H
 have Ny375:=mA hy375;clear hy375
 by_cases c2:y375.length+l0_25.length<17592186044416
 ·rw [if_pos c2] at H;have LMc2:=mA c2;clear c2;obtain ⟨y378,hy378⟩:∃ y_:List Int,y_=(y375 ++ l0_25):=⟨_,rfl⟩
  replace H:(some (a0_0,a0_1,a0_2,a0_3,a0_4,a0_5,a0_6,a0_7,a0_8,a0_9,a0_10,a0_11,a0_12,a0_13,a0_14,a0_15,a0_16,a0_17,a0_18,a0_19,a0_20,a0_21,a0_22,a0_23,a0_24,y378))=some (r1,r2,r3,r4,r5,r6,r7,r8,r9,r10,r11,r12,r13,r14,r15,r16,r17,r18,r19,r20,r21,r22,r23,r24,r25,r26):=qH hy378 H
  have Ny378:=mA hy378;clear hy378;simp only [Option.some.injEq,Prod.mk.injEq] at H;obtain ⟨rfl,rfl,rfl,rfl,rfl,rfl,rfl,rfl,rfl,rfl,rfl,rfl,rfl,rfl,rfl,rfl,rfl,rfl,rfl,rfl,rfl,rfl,rfl,rfl,rfl,rfl⟩:=H
  go_enter Try.func118,Try.ntmps118
  go_wp2_with (first|((with_reducible refine gLg rfl (by assumption) ?_);refine ldV ?_)|((with_reducible refine gSt rfl (by assumption) ?_);refine stV ?_)|((with_reducible refine gT 1 rfl ?_);refine bX 1 ?_;intro gb373 hg w3 hbox hb;have BK373:=mA hbox;have GW373:=gbpB HB hg;have GE373:=gbpB HB hg;replace HB:=spB HB hb;clear hb hbox hg)|((with_reducible refine gT 2 rfl ?_);refine bJ 2 y66 ?_;intro gb374 hg w4 hbox hb;have BK374:=mA hbox;have GW374:=gbpS HB hg;have GE374:=gbpS HB hg;replace HB:=spS HB hb;have NB373_374:=mA (lN (blk_lt (pK BK373.out)) hg);have hN373_374:=NB373_374.out;have NB374_373:=nS NB373_374;have hN374_373:=NB374_373.out;replace BK373:=bK BK373 hb;clear hb hbox hg)|((with_reducible refine gT 3 rfl ?_);refine Kd.R_lit (Kd.int .i64) _ 3 ?hg (N:=3) ?hd (xs:=([]:List Int)) (inner:=[]) (ok:=fun _=>True) (okp:=fun _=>True) ?hr ?hp (fun _ hk=>hk) trivial (Below.refl _ _) (Nat.le_refl _) (by simp) ?_;(case hd=>rfl);(case hg=>rfl);(case hr=>first|(go_simp;done)|(go_simp;rfl));(case hp=>exact (Reps.none _ _));intro v376 w5 ho6 hb hg_ hnew_;clear hg_ hnew_;(first|rw [← Ny375.out] at ho6|(simp only [Int.reduceToNat] at ho6;rw [← Ny375.out] at ho6));have HO377:=mA (Kd.R_lower ho6 (bpS HB));replace BK373:=bK BK373 hb;replace BK374:=bK BK374 hb;replace HB:=spS HB hb;clear hb ho6;have hcz8_0:=fun i_=>blk_cell BK373.out i_;have hfz8_0:=fun i_=>blk_frozen BK373.out i_)|((with_reducible refine gate_builtin (b:=.append) (xs:=#[.tmp 3,.tmp 5]) rfl ?_);at_builtin;refine Kd.R_append_rows (Kd.int .i64) (w0:=w) w.heap.size rfl (.tmp 3) (.tmp 5) 58 3 (.int .i64 0) 8 rfl Try.underlying58 info3 rfl aD (by omega) v376 y375 l0_25 _ _ _ (fun _=>True) (fun _=>False) rfl rfl ?aO ?aR (fun _ _ h=>h) (fun _ h=>h.elim) ?aF ?aB ?aS ?aL ?_;(case aR=>exact cB HR0_25 HB);(case aB=>exact (pS HB.out));(case aF=>exact (fun _ _=>trivial));(case aO=>exact (pR HO377.out));(case aS=>exact (bpS HB));(case aL=>have:=LMc2.out;omega);intro v379 w9 ho hb hg hat;rw [← Ny378.out] at ho;have HO380:=mA ho;replace BK373:=mA (blk_grown (pK BK373.out) hg (rN HO377 BK373));replace BK374:=mA (blk_grown (pK BK374.out) hg (rN HO377 BK374));replace HB:=mA hb;clear HO377;clear ho hb hg hat;obtain ⟨Ao10,co10,rfl⟩:=Kd.R_slice HO380.out;have hcz11_0:=fun i_=>blk_cell BK373.out i_;have hfz11_0:=fun i_=>blk_frozen BK373.out i_;have hcz12_0:=fun i_=>blk_cell BK374.out i_;have hfz12_0:=fun i_=>blk_frozen BK374.out i_))
  refine bodyPost_ret (results_cell_row rfl _ _ gb374 66 #[.int .i64 a0_0,.int .i64 a0_1,.int .i64 a0_2,.int .i64 a0_3,.int .i64 a0_4,.int .i64 a0_5,.int .i64 a0_6,.int .i64 a0_7,.int .i64 a0_8,.int .i64 a0_9,.int .i64 a0_10,.int .i64 a0_11,.int .i64 a0_12,.int .i64 a0_13,.int .i64 a0_14,.int .i64 a0_15,.int .i64 a0_16,.int .i64 a0_17,.int .i64 a0_18,.int .i64 a0_19,.int .i64 a0_20,.int .i64 a0_21,.int .i64 a0_22,.int .i64 a0_23,.int .i64 a0_24,.slice Ao10 y378.length co10] (0,0) _ rfl (pP BK374) Try.underlying66 rfl aK) rfl ?_
  exact ⟨_,by first|rfl|(simp [errW_none,errW_some]<;>rfl)|(simp [*,errW_none,errW_some]<;>rfl),pUU HO380 BK373 BK374,pS HB.out⟩
 ·rw [if_neg c2] at H
  exact absurd H (by simp)
end Go.Proofs.Ytoieojmfkkidnaa.P
