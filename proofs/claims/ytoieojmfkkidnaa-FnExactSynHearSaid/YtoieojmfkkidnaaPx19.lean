-- printed by pprint.py (this session's program over the kit's printer) out of the translation. Lean checks it.
import Derived.Test.YtoieojmfkkidnaaPx0
import Derived.Test.YtoieojmfkkidnaaPx1
import Derived.Test.YtoieojmfkkidnaaPx2
import Derived.Test.YtoieojmfkkidnaaPx16
import Derived.Test.YtoieojmfkkidnaaPx18
namespace Go.Proofs.Ytoieojmfkkidnaa.P
open Go.RowKit Go.Proofs.YtoieojmfkkidnaaX Go.Proofs.YtoieojmfkkidnaaW.PrintWords Go.Proofs.YtoieojmfkkidnaaW.PrintLast Go.Proofs.YtoieojmfkkidnaaW.PrintMore
attribute [local go_sem] max2_int min2_int max_two min_two max_three min_three max_four min_four   -- for this text's walks alone
set_option linter.unusedVariables false
set_option linter.unusedSimpArgs false
attribute [local go_sem high] eqA24 eqA64
/-! ### impl_seekerNone: function 93 -/
def impl_seekerNone.f (a0_0 a0_1 a0_2 a0_3 a0_4 a0_5 a0_6 a0_7 a0_8 a0_9 a0_10 a0_11 a0_12 a0_13 a0_14 a0_15 a0_16 a0_17 a0_18 a0_19 a0_20 a0_21 a0_22 a0_23 a0_24 : Int) (l0_25 : List Int) : Option (Bool) := if a0_0 = 0 then (if a0_1 = 0 then (if a0_2 = 0 then (if (a0_3 == 0 && (a0_4 == 0 && (a0_5 == 0 && (a0_6 == 0 && (a0_7 == 0 && (a0_8 == 0 && (a0_9 == 0 && (a0_10 == 0 && (a0_11 == 0 && (a0_12 == 0)))))))))) = true then (if (a0_13 == 0 && (a0_14 == 0 && ((a0_15 == 0 && (a0_16 == 0 && (a0_17 == 0 && (a0_18 == 0 && (a0_19 == 0 && (a0_20 == 0 && (a0_21 == 0 && (a0_22 == 0 && (a0_23 == 0 && (a0_24 == 0))))))))))))) = true then (some ((l0_25.length : Int) == 0)) else (some false)) else (some false)) else (some false)) else (some false)) else (some false)
set_option maxHeartbeats 8000000 in
set_option maxRecDepth 100000 in
theorem impl_seekerNone.calls {a0_0 a0_1 a0_2 a0_3 a0_4 a0_5 a0_6 a0_7 a0_8 a0_9 a0_10 a0_11 a0_12 a0_13 a0_14 a0_15 a0_16 a0_17 a0_18 a0_19 a0_20 a0_21 a0_22 a0_23 a0_24 : Int} {A0_25 : Option Addr} {c0_25 : Nat} {l0_25 : List Int} {r : Bool} {w : World} (hr0_25 : Kd.C (Kd.int .i64) w A0_25 l0_25.length l0_25) (hc0_25 : l0_25.length ≤ c0_25) (h : impl_seekerNone.f a0_0 a0_1 a0_2 a0_3 a0_4 a0_5 a0_6 a0_7 a0_8 a0_9 a0_10 a0_11 a0_12 a0_13 a0_14 a0_15 a0_16 a0_17 a0_18 a0_19 a0_20 a0_21 a0_22 a0_23 a0_24 l0_25 = some r) :
  Calls Try.prog 93 #[.agg #[.int .i64 a0_0,.int .i64 a0_1,.int .i64 a0_2,.int .i64 a0_3,.int .i64 a0_4,.int .i64 a0_5,.int .i64 a0_6,.int .i64 a0_7,.int .i64 a0_8,.int .i64 a0_9,.int .i64 a0_10,.int .i64 a0_11,.int .i64 a0_12,.int .i64 a0_13,.int .i64 a0_14,.int .i64 a0_15,.int .i64 a0_16,.int .i64 a0_17,.int .i64 a0_18,.int .i64 a0_19,.int .i64 a0_20,.int .i64 a0_21,.int .i64 a0_22,.int .i64 a0_23,.int .i64 a0_24,.slice A0_25 l0_25.length c0_25]] w fun e w'=>e=.returned (.bool r)∧Below w.heap.size w w':=by
 have hu66:=Try.underlying66;have hu24:=Try.underlying24;have hu64:=Try.underlying64;have HR0_25:=mA hr0_25;have HC0_25:=mA hc0_25;clear hr0_25 hc0_25;have HB:=mA (Below.refl w.heap.size w);have H:(if a0_0=0 then (if a0_1=0 then (if a0_2=0 then (if (a0_3 == 0 && (a0_4 == 0 && (a0_5 == 0 && (a0_6 == 0 && (a0_7 == 0 && (a0_8 == 0 && (a0_9 == 0 && (a0_10 == 0 && (a0_11 == 0 && (a0_12 == 0))))))))))=true then (if (a0_13 == 0 && (a0_14 == 0 && ((a0_15 == 0 && (a0_16 == 0 && (a0_17 == 0 && (a0_18 == 0 && (a0_19 == 0 && (a0_20 == 0 && (a0_21 == 0 && (a0_22 == 0 && (a0_23 == 0 && (a0_24 == 0)))))))))))))=true then (some ((l0_25.length:Int) == 0)) else (some false)) else (some false)) else (some false)) else (some false)) else (some false))=some r:=h;clear h
 by_cases c2:a0_0=0
 ·rw [if_pos c2] at H;obtain ⟨c2b0,c2b1⟩:=eqB c2;clear c2
  by_cases c3:a0_1=0
  ·rw [if_pos c3] at H;obtain ⟨c3b0,c3b1⟩:=eqB c3;clear c3
   by_cases c4:a0_2=0
   ·rw [if_pos c4] at H;obtain ⟨c4b0,c4b1⟩:=eqB c4;clear c4
    by_cases c5:(a0_3 == 0 && (a0_4 == 0 && (a0_5 == 0 && (a0_6 == 0 && (a0_7 == 0 && (a0_8 == 0 && (a0_9 == 0 && (a0_10 == 0 && (a0_11 == 0 && (a0_12 == 0))))))))))=true
    ·rw [if_pos c5] at H;have c5b0:(a0_3 == 0 && (a0_4 == 0 && (a0_5 == 0 && (a0_6 == 0 && (a0_7 == 0 && (a0_8 == 0 && (a0_9 == 0 && (a0_10 == 0 && (a0_11 == 0 && (a0_12 == 0))))))))))=true:=c5
     (try (have c5b1:decide (a0_3=0 && (a0_4 == 0 && (a0_5 == 0 && (a0_6 == 0 && (a0_7 == 0 && (a0_8 == 0 && (a0_9 == 0 && (a0_10 == 0 && (a0_11 == 0 && (a0_12 == 0))))))))))=true:=by simpa using c5))
     (try (have c5b2:(a0_3 == 0 && (a0_4 == 0 && (a0_5 == 0 && (a0_6 == 0 && (a0_7 == 0 && (a0_8 == 0 && (a0_9 == 0 && (a0_10 == 0 && (a0_11 == 0 && (a0_12 == 0))))))))))=true:=by simpa using c5))
     clear c5
     by_cases c6:(a0_13 == 0 && (a0_14 == 0 && ((a0_15 == 0 && (a0_16 == 0 && (a0_17 == 0 && (a0_18 == 0 && (a0_19 == 0 && (a0_20 == 0 && (a0_21 == 0 && (a0_22 == 0 && (a0_23 == 0 && (a0_24 == 0)))))))))))))=true
     ·rw [if_pos c6] at H;have c6b0:(a0_13 == 0 && (a0_14 == 0 && ((a0_15 == 0 && (a0_16 == 0 && (a0_17 == 0 && (a0_18 == 0 && (a0_19 == 0 && (a0_20 == 0 && (a0_21 == 0 && (a0_22 == 0 && (a0_23 == 0 && (a0_24 == 0)))))))))))))=true:=c6
      (try (have c6b1:decide (a0_13=0 && (a0_14 == 0 && ((a0_15 == 0 && (a0_16 == 0 && (a0_17 == 0 && (a0_18 == 0 && (a0_19 == 0 && (a0_20 == 0 && (a0_21 == 0 && (a0_22 == 0 && (a0_23 == 0 && (a0_24 == 0)))))))))))))=true:=by simpa using c6))
      (try (have c6b2:(a0_13 == 0 && (a0_14 == 0 && ((a0_15 == 0 && (a0_16 == 0 && (a0_17 == 0 && (a0_18 == 0 && (a0_19 == 0 && (a0_20 == 0 && (a0_21 == 0 && (a0_22 == 0 && (a0_23 == 0 && (a0_24 == 0)))))))))))))=true:=by simpa using c6))
      clear c6;obtain rfl:=Option.some.inj H
      go_enter Try.func93,Try.ntmps93
      go_wp2_with (first|((with_reducible refine gLd rfl rfl (by assumption) ?_);refine ldV ?_)|((with_reducible refine gSt rfl (by assumption) ?_);refine stV ?_)|((with_reducible refine gT 1 rfl ?_);(try (refine gate_guard (by rfl) ?_;dsimp only));refine bX 1 ?_;intro gb547 hg w7 hbox hb;have BK547:=mA hbox;have GW547:=gbpB HB hg;have GE547:=gbpB HB hg;replace HB:=spB HB hb;clear hb hbox hg;have hcz8_0:=fun i_=>blk_cell BK547.out i_;have hfz8_0:=fun i_=>blk_frozen BK547.out i_))
      go_ret
      exact rZ (pS HB.out)
     ·rw [if_neg c6] at H
      have c6b0:(a0_13 == 0 && (a0_14 == 0 && ((a0_15 == 0 && (a0_16 == 0 && (a0_17 == 0 && (a0_18 == 0 && (a0_19 == 0 && (a0_20 == 0 && (a0_21 == 0 && (a0_22 == 0 && (a0_23 == 0 && (a0_24 == 0)))))))))))))=false:=by simpa using c6
      (try (have c6b1:decide (a0_13=0 && (a0_14 == 0 && ((a0_15 == 0 && (a0_16 == 0 && (a0_17 == 0 && (a0_18 == 0 && (a0_19 == 0 && (a0_20 == 0 && (a0_21 == 0 && (a0_22 == 0 && (a0_23 == 0 && (a0_24 == 0)))))))))))))=false:=by simpa using c6))
      (try (have c6b2:(a0_13 == 0 && (a0_14 == 0 && ((a0_15 == 0 && (a0_16 == 0 && (a0_17 == 0 && (a0_18 == 0 && (a0_19 == 0 && (a0_20 == 0 && (a0_21 == 0 && (a0_22 == 0 && (a0_23 == 0 && (a0_24 == 0)))))))))))))=false:=by simpa using c6))
      (try (have c6b3:¬ (a0_13=0 && (a0_14 == 0 && ((a0_15 == 0 && (a0_16 == 0 && (a0_17 == 0 && (a0_18 == 0 && (a0_19 == 0 && (a0_20 == 0 && (a0_21 == 0 && (a0_22 == 0 && (a0_23 == 0 && (a0_24 == 0))))))))))))):=by simpa using c6))
      clear c6;obtain rfl:=Option.some.inj H
      go_enter Try.func93,Try.ntmps93
      go_wp2_with (first|((with_reducible refine gLd rfl rfl (by assumption) ?_);refine ldV ?_)|((with_reducible refine gSt rfl (by assumption) ?_);refine stV ?_)|((with_reducible refine gT 1 rfl ?_);(try (refine gate_guard (by rfl) ?_;dsimp only));refine bX 1 ?_;intro gb547 hg w9 hbox hb;have BK547:=mA hbox;have GW547:=gbpB HB hg;have GE547:=gbpB HB hg;replace HB:=spB HB hb;clear hb hbox hg;have hcz10_0:=fun i_=>blk_cell BK547.out i_;have hfz10_0:=fun i_=>blk_frozen BK547.out i_))
      go_ret
      exact rZ (pS HB.out)
    ·rw [if_neg c5] at H
     have c5b0:(a0_3 == 0 && (a0_4 == 0 && (a0_5 == 0 && (a0_6 == 0 && (a0_7 == 0 && (a0_8 == 0 && (a0_9 == 0 && (a0_10 == 0 && (a0_11 == 0 && (a0_12 == 0))))))))))=false:=by simpa using c5
     (try (have c5b1:decide (a0_3=0 && (a0_4 == 0 && (a0_5 == 0 && (a0_6 == 0 && (a0_7 == 0 && (a0_8 == 0 && (a0_9 == 0 && (a0_10 == 0 && (a0_11 == 0 && (a0_12 == 0))))))))))=false:=by simpa using c5))
     (try (have c5b2:(a0_3 == 0 && (a0_4 == 0 && (a0_5 == 0 && (a0_6 == 0 && (a0_7 == 0 && (a0_8 == 0 && (a0_9 == 0 && (a0_10 == 0 && (a0_11 == 0 && (a0_12 == 0))))))))))=false:=by simpa using c5))
     (try (have c5b3:¬ (a0_3=0 && (a0_4 == 0 && (a0_5 == 0 && (a0_6 == 0 && (a0_7 == 0 && (a0_8 == 0 && (a0_9 == 0 && (a0_10 == 0 && (a0_11 == 0 && (a0_12 == 0)))))))))):=by simpa using c5))
     clear c5;obtain rfl:=Option.some.inj H
     go_enter Try.func93,Try.ntmps93
     go_wp2_with (first|((with_reducible refine gLd rfl rfl (by assumption) ?_);refine ldV ?_)|((with_reducible refine gSt rfl (by assumption) ?_);refine stV ?_)|((with_reducible refine gT 1 rfl ?_);(try (refine gate_guard (by rfl) ?_;dsimp only));refine bX 1 ?_;intro gb547 hg w11 hbox hb;have BK547:=mA hbox;have GW547:=gbpB HB hg;have GE547:=gbpB HB hg;replace HB:=spB HB hb;clear hb hbox hg;have hcz12_0:=fun i_=>blk_cell BK547.out i_;have hfz12_0:=fun i_=>blk_frozen BK547.out i_))
     go_ret
     exact rZ (pS HB.out)
   ·rw [if_neg c4] at H;have c4b0:(a0_2 == 0)=false:=beq_eq_false_iff_ne.mpr c4;have c4b1:(a0_2 != 0)=true:=bne_iff_ne.mpr c4;obtain rfl:=Option.some.inj H
    go_enter Try.func93,Try.ntmps93
    go_wp2_with (first|((with_reducible refine gLd rfl rfl (by assumption) ?_);refine ldV ?_)|((with_reducible refine gSt rfl (by assumption) ?_);refine stV ?_)|((with_reducible refine gT 1 rfl ?_);(try (refine gate_guard (by rfl) ?_;dsimp only));refine bX 1 ?_;intro gb547 hg w13 hbox hb;have BK547:=mA hbox;have GW547:=gbpB HB hg;have GE547:=gbpB HB hg;replace HB:=spB HB hb;clear hb hbox hg;have hcz14_0:=fun i_=>blk_cell BK547.out i_;have hfz14_0:=fun i_=>blk_frozen BK547.out i_))
    go_ret
    exact rZ (pS HB.out)
  ·rw [if_neg c3] at H;have c3b0:(a0_1 == 0)=false:=beq_eq_false_iff_ne.mpr c3;have c3b1:(a0_1 != 0)=true:=bne_iff_ne.mpr c3;obtain rfl:=Option.some.inj H
   go_enter Try.func93,Try.ntmps93
   go_wp2_with (first|((with_reducible refine gLd rfl rfl (by assumption) ?_);refine ldV ?_)|((with_reducible refine gSt rfl (by assumption) ?_);refine stV ?_)|((with_reducible refine gT 1 rfl ?_);(try (refine gate_guard (by rfl) ?_;dsimp only));refine bX 1 ?_;intro gb547 hg w15 hbox hb;have BK547:=mA hbox;have GW547:=gbpB HB hg;have GE547:=gbpB HB hg;replace HB:=spB HB hb;clear hb hbox hg;have hcz16_0:=fun i_=>blk_cell BK547.out i_;have hfz16_0:=fun i_=>blk_frozen BK547.out i_))
   go_ret
   exact rZ (pS HB.out)
 ·rw [if_neg c2] at H;have c2b0:(a0_0 == 0)=false:=beq_eq_false_iff_ne.mpr c2;have c2b1:(a0_0 != 0)=true:=bne_iff_ne.mpr c2;obtain rfl:=Option.some.inj H
  go_enter Try.func93,Try.ntmps93
  go_wp2_with (first|((with_reducible refine gLd rfl rfl (by assumption) ?_);refine ldV ?_)|((with_reducible refine gSt rfl (by assumption) ?_);refine stV ?_)|((with_reducible refine gT 1 rfl ?_);(try (refine gate_guard (by rfl) ?_;dsimp only));refine bX 1 ?_;intro gb547 hg w17 hbox hb;have BK547:=mA hbox;have GW547:=gbpB HB hg;have GE547:=gbpB HB hg;replace HB:=spB HB hb;clear hb hbox hg;have hcz18_0:=fun i_=>blk_cell BK547.out i_;have hfz18_0:=fun i_=>blk_frozen BK547.out i_))
  go_ret
  exact rZ (pS HB.out)
/-! ### impl_isVoter: function 94 -/
def impl_isVoter.f (a0 : Int) : Option (Bool) := (impl_in.f a0 0 2).bind fun t548 => (some t548)
set_option maxHeartbeats 8000000 in
set_option maxRecDepth 100000 in
theorem impl_isVoter.calls {a0 : Int} {r : Bool} {w : World} (h : impl_isVoter.f a0 = some r) :
  Calls Try.prog 94 #[.int .i64 a0] w fun e w'=>e=.returned (.bool r)∧Drawn0 w w':=by
 have H:((impl_in.f a0 0 2).bind fun t548=>(some t548))=some r:=h;clear h;obtain ⟨t548,A2,H⟩:=bI H;(try dsimp only at H);obtain rfl:=Option.some.inj H
 go_enter Try.func94,Try.ntmps94
 go_wp2_with (first|((with_reducible refine gT 4 rfl ?_);refine gC (some 4) Try.func74 (impl_in.calls A2.out) ?_;rintro e w' ⟨rfl,⟨nd,rfl⟩⟩;refine ⟨_,rfl,?_⟩))
 go_ret
 exact ⟨by first|rfl|(simp;done)|(simp [*];done),by repeat (first|exact Drawn0.refl _|apply Drawn0.step)⟩
/-! ### impl_SynSeekerOk: function 33 -/
mutual
def impl_SynSeekerOk.j0 : Nat → Int → Int → Int → Int → Int → Int → Int → Int → Int → Int → Int → Int → Int → Int → Int → Int → Int → Int → Int → Int → Int → Int → Int → Int → Int → List Int → Option (Bool)
 | 0,_,_,_,_,_,_,_,_,_,_,_,_,_,_,_,_,_,_,_,_,_,_,_,_,_,_=>none
 | k+1,x550000,x550001,x550002,x550003,x550004,x550005,x550006,x550007,x550008,x550009,x550010,x550011,x550012,x550013,x550014,x550015,x550016,x550017,x550018,x550019,x550020,x550021,x550022,x550023,x550024,x550025=>(impl_in.f x550000 1 60).bind fun t551=>(if t551=true then ((impl_in.f x550001 1 99999).bind fun t552=>(if t552=true then ((impl_in.f x550002 1 2).bind fun t553=>(if t553=true then ((impl_cmdOk.f k x550003 x550004 x550005 x550006 x550007 x550008 x550009 x550010 x550011 x550012).bind fun t554=>(if t554=true then (if (x550025.length:Int) > 1 then (impl_SynSeekerOk.j1 k true x550000 x550001 x550002 x550003 x550004 x550005 x550006 x550007 x550008 x550009 x550010 x550011 x550012 x550013 x550014 x550015 x550016 x550017 x550018 x550019 x550020 x550021 x550022 x550023 x550024 x550025) else (if (x550025.length:Int)=1 then (if 0<(x550025.length:Int) then ((impl_isVoter.f (rd x550025 0)).bind fun t556=>(impl_SynSeekerOk.j1 k (!t556) x550000 x550001 x550002 x550003 x550004 x550005 x550006 x550007 x550008 x550009 x550010 x550011 x550012 x550013 x550014 x550015 x550016 x550017 x550018 x550019 x550020 x550021 x550022 x550023 x550024 x550025)) else (none)) else (impl_SynSeekerOk.j1 k false x550000 x550001 x550002 x550003 x550004 x550005 x550006 x550007 x550008 x550009 x550010 x550011 x550012 x550013 x550014 x550015 x550016 x550017 x550018 x550019 x550020 x550021 x550022 x550023 x550024 x550025))) else (impl_SynSeekerOk.j1 k true x550000 x550001 x550002 x550003 x550004 x550005 x550006 x550007 x550008 x550009 x550010 x550011 x550012 x550013 x550014 x550015 x550016 x550017 x550018 x550019 x550020 x550021 x550022 x550023 x550024 x550025))) else (impl_SynSeekerOk.j1 k true x550000 x550001 x550002 x550003 x550004 x550005 x550006 x550007 x550008 x550009 x550010 x550011 x550012 x550013 x550014 x550015 x550016 x550017 x550018 x550019 x550020 x550021 x550022 x550023 x550024 x550025))) else (impl_SynSeekerOk.j1 k true x550000 x550001 x550002 x550003 x550004 x550005 x550006 x550007 x550008 x550009 x550010 x550011 x550012 x550013 x550014 x550015 x550016 x550017 x550018 x550019 x550020 x550021 x550022 x550023 x550024 x550025))) else (impl_SynSeekerOk.j1 k true x550000 x550001 x550002 x550003 x550004 x550005 x550006 x550007 x550008 x550009 x550010 x550011 x550012 x550013 x550014 x550015 x550016 x550017 x550018 x550019 x550020 x550021 x550022 x550023 x550024 x550025))
def impl_SynSeekerOk.j1 : Nat → Bool → Int → Int → Int → Int → Int → Int → Int → Int → Int → Int → Int → Int → Int → Int → Int → Int → Int → Int → Int → Int → Int → Int → Int → Int → Int → List Int → Option (Bool)
 | 0,_,_,_,_,_,_,_,_,_,_,_,_,_,_,_,_,_,_,_,_,_,_,_,_,_,_,_=>none
 | k+1,x46,x550000,x550001,x550002,x550003,x550004,x550005,x550006,x550007,x550008,x550009,x550010,x550011,x550012,x550013,x550014,x550015,x550016,x550017,x550018,x550019,x550020,x550021,x550022,x550023,x550024,x550025=>if x46=true then (some false) else (if (x550013 == 0 && (x550014 == 0 && ((x550015 == 0 && (x550016 == 0 && (x550017 == 0 && (x550018 == 0 && (x550019 == 0 && (x550020 == 0 && (x550021 == 0 && (x550022 == 0 && (x550023 == 0 && (x550024 == 0)))))))))))))=true then (some true) else ((impl_paperOk.f k x550013 x550014 x550015 x550016 x550017 x550018 x550019 x550020 x550021 x550022 x550023 x550024).bind fun t557=>(if t557=true then (if x550013=x550000 then (some (decide (x550014<x550001))) else (some false)) else (some false))))
end
def impl_SynSeekerOk.f (k : Nat) (a0_0 a0_1 a0_2 a0_3 a0_4 a0_5 a0_6 a0_7 a0_8 a0_9 a0_10 a0_11 a0_12 a0_13 a0_14 a0_15 a0_16 a0_17 a0_18 a0_19 a0_20 a0_21 a0_22 a0_23 a0_24 : Int) (l0_25 : List Int) : Option (Bool) := (impl_seekerNone.f a0_0 a0_1 a0_2 a0_3 a0_4 a0_5 a0_6 a0_7 a0_8 a0_9 a0_10 a0_11 a0_12 a0_13 a0_14 a0_15 a0_16 a0_17 a0_18 a0_19 a0_20 a0_21 a0_22 a0_23 a0_24 l0_25).bind fun t550 => (if t550 = true then (some true) else (impl_SynSeekerOk.j0 k a0_0 a0_1 a0_2 a0_3 a0_4 a0_5 a0_6 a0_7 a0_8 a0_9 a0_10 a0_11 a0_12 a0_13 a0_14 a0_15 a0_16 a0_17 a0_18 a0_19 a0_20 a0_21 a0_22 a0_23 a0_24 l0_25))
set_option maxHeartbeats 8000000 in
set_option maxRecDepth 100000 in
theorem impl_SynSeekerOk.calls {k : Nat} {a0_0 a0_1 a0_2 a0_3 a0_4 a0_5 a0_6 a0_7 a0_8 a0_9 a0_10 a0_11 a0_12 a0_13 a0_14 a0_15 a0_16 a0_17 a0_18 a0_19 a0_20 a0_21 a0_22 a0_23 a0_24 : Int} {A0_25 : Option Addr} {c0_25 : Nat} {l0_25 : List Int} {r : Bool} {w : World} (hr0_25 : Kd.C (Kd.int .i64) w A0_25 l0_25.length l0_25) (hc0_25 : l0_25.length ≤ c0_25) (h : impl_SynSeekerOk.f k a0_0 a0_1 a0_2 a0_3 a0_4 a0_5 a0_6 a0_7 a0_8 a0_9 a0_10 a0_11 a0_12 a0_13 a0_14 a0_15 a0_16 a0_17 a0_18 a0_19 a0_20 a0_21 a0_22 a0_23 a0_24 l0_25 = some r) :
  Calls Try.prog 33 #[.agg #[.int .i64 a0_0,.int .i64 a0_1,.int .i64 a0_2,.int .i64 a0_3,.int .i64 a0_4,.int .i64 a0_5,.int .i64 a0_6,.int .i64 a0_7,.int .i64 a0_8,.int .i64 a0_9,.int .i64 a0_10,.int .i64 a0_11,.int .i64 a0_12,.int .i64 a0_13,.int .i64 a0_14,.int .i64 a0_15,.int .i64 a0_16,.int .i64 a0_17,.int .i64 a0_18,.int .i64 a0_19,.int .i64 a0_20,.int .i64 a0_21,.int .i64 a0_22,.int .i64 a0_23,.int .i64 a0_24,.slice A0_25 l0_25.length c0_25]] w fun e w'=>e=.returned (.bool r)∧Below w.heap.size w w':=by
 have hu66:=Try.underlying66;have hu24:=Try.underlying24;have hu64:=Try.underlying64;have HR0_25:=mA hr0_25;have HC0_25:=mA hc0_25;clear hr0_25 hc0_25;have HB:=mA (Below.refl w.heap.size w);have H:((impl_seekerNone.f a0_0 a0_1 a0_2 a0_3 a0_4 a0_5 a0_6 a0_7 a0_8 a0_9 a0_10 a0_11 a0_12 a0_13 a0_14 a0_15 a0_16 a0_17 a0_18 a0_19 a0_20 a0_21 a0_22 a0_23 a0_24 l0_25).bind fun t550=>(if t550=true then (some true) else (impl_SynSeekerOk.j0 k a0_0 a0_1 a0_2 a0_3 a0_4 a0_5 a0_6 a0_7 a0_8 a0_9 a0_10 a0_11 a0_12 a0_13 a0_14 a0_15 a0_16 a0_17 a0_18 a0_19 a0_20 a0_21 a0_22 a0_23 a0_24 l0_25)))=some r:=h;clear h;obtain ⟨t550,A2,H⟩:=bI H;(try dsimp only at H);have HC3:=mA H;clear H
 go_enter Try.func33,Try.ntmps33
 go_upto_if 4 with (first|((with_reducible refine gLd rfl rfl (by assumption) ?_);refine ldV ?_)|((with_reducible refine gSt rfl (by assumption) ?_);refine stV ?_)|((with_reducible refine gT 1 rfl ?_);(try (refine gate_guard (by rfl) ?_;dsimp only));refine bX 1 ?_;intro gb549 hg w4 hbox hb;have BK549:=mA hbox;have GW549:=gbpB HB hg;have GE549:=gbpB HB hg;replace HB:=spB HB hb;clear hb hbox hg;have hcz5_0:=fun i_=>blk_cell BK549.out i_;have hfz5_0:=fun i_=>blk_frozen BK549.out i_)|((with_reducible refine gT 4 rfl ?_);refine gC (some 4) Try.func93 (impl_seekerNone.calls (cB HR0_25 HB) HC0_25.out A2.out) ?_;rintro e w6 ⟨rfl,hb⟩;refine ⟨_,rfl,?_⟩;replace BK549:=bK BK549 hb;replace HB:=spS HB hb;(try clear hb)))
 (try simp only [Act.put,List.setIfInBounds_toArray,List.set_cons_zero,List.set_cons_succ])
 go_cut [] (fun wc=>∃ (kq:Nat),Aside0 (impl_SynSeekerOk.j0 kq a0_0 a0_1 a0_2 a0_3 a0_4 a0_5 a0_6 a0_7 a0_8 a0_9 a0_10 a0_11 a0_12 a0_13 a0_14 a0_15 a0_16 a0_17 a0_18 a0_19 a0_20 a0_21 a0_22 a0_23 a0_24 l0_25=some r)∧Aside0 (kq≤k)∧Aside0 (wc.heap[gb549]?=some (.cells #[.int .i64 a0_0,.int .i64 a0_1,.int .i64 a0_2,.int .i64 a0_3,.int .i64 a0_4,.int .i64 a0_5,.int .i64 a0_6,.int .i64 a0_7,.int .i64 a0_8,.int .i64 a0_9,.int .i64 a0_10,.int .i64 a0_11,.int .i64 a0_12,.int .i64 a0_13,.int .i64 a0_14,.int .i64 a0_15,.int .i64 a0_16,.int .i64 a0_17,.int .i64 a0_18,.int .i64 a0_19,.int .i64 a0_20,.int .i64 a0_21,.int .i64 a0_22,.int .i64 a0_23,.int .i64 a0_24,(.slice A0_25 l0_25.length c0_25)] 66 (0,0)))∧Aside0 (Below w.heap.size w wc))
 case first =>
  have H:=HC3.out;clear HC3
  by_cases c7:t550=true
  ·subst c7;rw [if_pos rfl] at H;obtain rfl:=Option.some.inj H
   go_wp2_with (first|((with_reducible refine gLd rfl rfl (by assumption) ?_);refine ldV ?_)|((with_reducible refine gSt rfl (by assumption) ?_);refine stV ?_))
   go_ret
   exact rZ (pS HB.out)
  ·replace c7:=Bool.eq_false_iff.mpr c7;subst c7
   rw [if_neg nFT] at H
   have H':=mA H;clear H
   go_wp2_with (first|((with_reducible refine gLd rfl rfl (by assumption) ?_);refine ldV ?_)|((with_reducible refine gSt rfl (by assumption) ?_);refine stV ?_))
   go_meet
   case rel=>exact ⟨_,H',⟨by first|omega|exact Nat.le_refl _⟩,⟨pK BK549.out⟩,⟨pS HB.out⟩⟩
 case rest =>
  clear HC3
  (try clear hcz5_0);(try clear hfz5_0)
  obtain ⟨kq,HA,HJ2,BK549,HB⟩:=hcut
  cases kq with
  | zero=>exact absurd HA.out (by simp [impl_SynSeekerOk.j0])
  | succ kj2 =>
   have H:=HA.out;clear HA;simp only [impl_SynSeekerOk.j0] at H;have HC8:=mA H;clear H
   go_upto_region 3 with (fail)
   go_cut [46] (fun v46 wc=>∃ (kq:Nat) (x46_7:Bool),v46=.bool x46_7∧Aside0 (impl_SynSeekerOk.j1 kq x46_7 a0_0 a0_1 a0_2 a0_3 a0_4 a0_5 a0_6 a0_7 a0_8 a0_9 a0_10 a0_11 a0_12 a0_13 a0_14 a0_15 a0_16 a0_17 a0_18 a0_19 a0_20 a0_21 a0_22 a0_23 a0_24 l0_25=some r)∧Aside0 (kq≤kj2)∧Aside0 (wc.heap[gb549]?=some (.cells #[.int .i64 a0_0,.int .i64 a0_1,.int .i64 a0_2,.int .i64 a0_3,.int .i64 a0_4,.int .i64 a0_5,.int .i64 a0_6,.int .i64 a0_7,.int .i64 a0_8,.int .i64 a0_9,.int .i64 a0_10,.int .i64 a0_11,.int .i64 a0_12,.int .i64 a0_13,.int .i64 a0_14,.int .i64 a0_15,.int .i64 a0_16,.int .i64 a0_17,.int .i64 a0_18,.int .i64 a0_19,.int .i64 a0_20,.int .i64 a0_21,.int .i64 a0_22,.int .i64 a0_23,.int .i64 a0_24,(.slice A0_25 l0_25.length c0_25)] 66 (0,0)))∧Aside0 (Below w.heap.size w wc))
   case first =>
    have H:=HC8.out;clear HC8;obtain ⟨t551,A9,H⟩:=bI H;(try dsimp only at H)
    by_cases c10:t551=true
    ·subst c10;rw [if_pos rfl] at H;obtain ⟨t552,A11,H⟩:=bI H;(try dsimp only at H)
     by_cases c12:t552=true
     ·subst c12;rw [if_pos rfl] at H;obtain ⟨t553,A13,H⟩:=bI H;(try dsimp only at H)
      by_cases c14:t553=true
      ·subst c14;rw [if_pos rfl] at H;obtain ⟨t554,A15,H⟩:=bI H;(try dsimp only at H)
       by_cases c16:t554=true
       ·subst c16;rw [if_pos rfl] at H
        by_cases c17:(l0_25.length:Int) > 1
        ·rw [if_pos c17] at H;have c17b0:decide (1<(l0_25.length:Int))=true:=decide_eq_true c17
         have c17b1:decide (1<l0_25.length)=true:=decide_eq_true (by omega)
         clear c17
         (first|rw [c17b0]|(simp only [i64_w,i32_w];rw [c17b0])|skip)
         have H':=mA H;clear H;have hcz18_0:=fun i_=>blk_cell BK549.out i_;have hfz18_0:=fun i_=>blk_frozen BK549.out i_
         go_wp2_with (first|((with_reducible refine gLd rfl rfl (by assumption) ?_);refine ldV ?_)|((with_reducible refine gSt rfl (by assumption) ?_);refine stV ?_)|((with_reducible refine gT 7 rfl ?_);refine gC (some 7) Try.func74 (impl_in.calls A9.out) ?_;rintro e w' ⟨rfl,⟨nd,rfl⟩⟩;refine ⟨_,rfl,?_⟩)|(go_at_call 74;(with_reducible refine (impl_in.calls A11.out).mono ?_);rintro e w' ⟨rfl,⟨nd,rfl⟩⟩)|(go_at_call 74;(with_reducible refine (impl_in.calls A13.out).mono ?_);rintro e w' ⟨rfl,⟨nd,rfl⟩⟩)|(go_at_call 76;(with_reducible refine (impl_cmdOk.calls A15.out).mono ?_);rintro e w19 ⟨rfl,hb⟩;replace BK549:=bK BK549 hb;replace HB:=spS HB hb;(try clear hb);have hcz20_0:=fun i_=>blk_cell BK549.out i_;have hfz20_0:=fun i_=>blk_frozen BK549.out i_))
         go_meet
         case rel=>exact ⟨_,(true),bZ,H',⟨by have:=HJ2.out;first|omega|exact Nat.le_refl _⟩,⟨pK BK549.out⟩,⟨pS HB.out⟩⟩
        ·rw [if_neg c17] at H;have c17b0:decide (1<(l0_25.length:Int))=false:=decide_eq_false c17
         have c17b1:decide (1<l0_25.length)=false:=decide_eq_false (by omega)
         clear c17
         (first|rw [c17b0]|(simp only [i64_w,i32_w];rw [c17b0])|skip)
         by_cases c21:(l0_25.length:Int)=1
         ·rw [if_pos c21] at H;obtain ⟨c21b0,c21b1⟩:=eqB c21;clear c21
          by_cases c22:0<(l0_25.length:Int)
          ·rw [if_pos c22] at H;have c22b0:decide (0<(l0_25.length:Int))=true:=decide_eq_true c22
           have c22b1:decide (0<l0_25.length)=true:=decide_eq_true (by omega)
           clear c22;obtain ⟨t556,A23,H⟩:=bI H;(try dsimp only at H);have H':=mA H;clear H;have hcz24_0:=fun i_=>blk_cell BK549.out i_;have hfz24_0:=fun i_=>blk_frozen BK549.out i_
           go_wp2_with (first|((with_reducible refine gLd rfl rfl (by assumption) ?_);refine ldV ?_)|((with_reducible refine gSt rfl (by assumption) ?_);refine stV ?_)|((with_reducible refine gT 7 rfl ?_);refine gC (some 7) Try.func74 (impl_in.calls A9.out) ?_;rintro e w' ⟨rfl,⟨nd,rfl⟩⟩;refine ⟨_,rfl,?_⟩)|(go_at_call 74;(with_reducible refine (impl_in.calls A11.out).mono ?_);rintro e w' ⟨rfl,⟨nd,rfl⟩⟩)|(go_at_call 74;(with_reducible refine (impl_in.calls A13.out).mono ?_);rintro e w' ⟨rfl,⟨nd,rfl⟩⟩)|(go_at_call 76;(with_reducible refine (impl_cmdOk.calls A15.out).mono ?_);rintro e w25 ⟨rfl,hb⟩;replace BK549:=bK BK549 hb;replace HB:=spS HB hb;(try clear hb);have hcz26_0:=fun i_=>blk_cell BK549.out i_;have hfz26_0:=fun i_=>blk_frozen BK549.out i_;have p555:0≤(0:Int):=(by omega);have q555:0<(l0_25.length:Int):=of_decide_eq_true bA;obtain ⟨ad555,e555,hx555_0⟩:=Kd.at_int HR0_25.out 0 p555 q555;cases e555;have qi555:(0<l0_25.length)=True:=eq_true (by omega);(try rw [show ((0:Int)).toNat=0 from rfl] at hx555_0);(try rw [Addr.add_zero'] at hx555_0);replace hx555_0:=hC HB hx555_0;replace p555:=eq_true p555;replace q555:=eq_true q555)|(go_at_call 94;(with_reducible refine (impl_isVoter.calls A23.out).mono ?_);rintro e w' ⟨rfl,⟨nd,rfl⟩⟩))
           go_meet
           case rel=>exact ⟨_,(!t556),bZ,H',⟨by have:=HJ2.out;first|omega|exact Nat.le_refl _⟩,⟨pK BK549.out⟩,⟨pS HB.out⟩⟩
          ·rw [if_neg c22] at H
           exact absurd H (by simp)
         ·rw [if_neg c21] at H;have c21b0:((l0_25.length:Int) == 1)=false:=beq_eq_false_iff_ne.mpr c21;have c21b1:((l0_25.length:Int) != 1)=true:=bne_iff_ne.mpr c21;have H':=mA H;clear H;have hcz27_0:=fun i_=>blk_cell BK549.out i_;have hfz27_0:=fun i_=>blk_frozen BK549.out i_
          go_wp2_with (first|((with_reducible refine gLd rfl rfl (by assumption) ?_);refine ldV ?_)|((with_reducible refine gSt rfl (by assumption) ?_);refine stV ?_)|((with_reducible refine gT 7 rfl ?_);refine gC (some 7) Try.func74 (impl_in.calls A9.out) ?_;rintro e w' ⟨rfl,⟨nd,rfl⟩⟩;refine ⟨_,rfl,?_⟩)|(go_at_call 74;(with_reducible refine (impl_in.calls A11.out).mono ?_);rintro e w' ⟨rfl,⟨nd,rfl⟩⟩)|(go_at_call 74;(with_reducible refine (impl_in.calls A13.out).mono ?_);rintro e w' ⟨rfl,⟨nd,rfl⟩⟩)|(go_at_call 76;(with_reducible refine (impl_cmdOk.calls A15.out).mono ?_);rintro e w28 ⟨rfl,hb⟩;replace BK549:=bK BK549 hb;replace HB:=spS HB hb;(try clear hb);have hcz29_0:=fun i_=>blk_cell BK549.out i_;have hfz29_0:=fun i_=>blk_frozen BK549.out i_))
          go_meet
          case rel=>exact ⟨_,(false),bZ,H',⟨by have:=HJ2.out;first|omega|exact Nat.le_refl _⟩,⟨pK BK549.out⟩,⟨pS HB.out⟩⟩
       ·replace c16:=Bool.eq_false_iff.mpr c16;subst c16
        rw [if_neg nFT] at H
        have H':=mA H;clear H;have hcz30_0:=fun i_=>blk_cell BK549.out i_;have hfz30_0:=fun i_=>blk_frozen BK549.out i_
        go_wp2_with (first|((with_reducible refine gLd rfl rfl (by assumption) ?_);refine ldV ?_)|((with_reducible refine gSt rfl (by assumption) ?_);refine stV ?_)|((with_reducible refine gT 7 rfl ?_);refine gC (some 7) Try.func74 (impl_in.calls A9.out) ?_;rintro e w' ⟨rfl,⟨nd,rfl⟩⟩;refine ⟨_,rfl,?_⟩)|(go_at_call 74;(with_reducible refine (impl_in.calls A11.out).mono ?_);rintro e w' ⟨rfl,⟨nd,rfl⟩⟩)|(go_at_call 74;(with_reducible refine (impl_in.calls A13.out).mono ?_);rintro e w' ⟨rfl,⟨nd,rfl⟩⟩)|(go_at_call 76;(with_reducible refine (impl_cmdOk.calls A15.out).mono ?_);rintro e w31 ⟨rfl,hb⟩;replace BK549:=bK BK549 hb;replace HB:=spS HB hb;(try clear hb)))
        go_meet
        case rel=>exact ⟨_,(true),bZ,H',⟨by have:=HJ2.out;first|omega|exact Nat.le_refl _⟩,⟨pK BK549.out⟩,⟨pS HB.out⟩⟩
      ·replace c14:=Bool.eq_false_iff.mpr c14;subst c14
       rw [if_neg nFT] at H
       have H':=mA H;clear H;have hcz32_0:=fun i_=>blk_cell BK549.out i_;have hfz32_0:=fun i_=>blk_frozen BK549.out i_
       go_wp2_with (first|((with_reducible refine gLd rfl rfl (by assumption) ?_);refine ldV ?_)|((with_reducible refine gSt rfl (by assumption) ?_);refine stV ?_)|((with_reducible refine gT 7 rfl ?_);refine gC (some 7) Try.func74 (impl_in.calls A9.out) ?_;rintro e w' ⟨rfl,⟨nd,rfl⟩⟩;refine ⟨_,rfl,?_⟩)|(go_at_call 74;(with_reducible refine (impl_in.calls A11.out).mono ?_);rintro e w' ⟨rfl,⟨nd,rfl⟩⟩)|(go_at_call 74;(with_reducible refine (impl_in.calls A13.out).mono ?_);rintro e w' ⟨rfl,⟨nd,rfl⟩⟩))
       go_meet
       case rel=>exact ⟨_,(true),bZ,H',⟨by have:=HJ2.out;first|omega|exact Nat.le_refl _⟩,⟨pK BK549.out⟩,⟨pS HB.out⟩⟩
     ·replace c12:=Bool.eq_false_iff.mpr c12;subst c12
      rw [if_neg nFT] at H
      have H':=mA H;clear H;have hcz33_0:=fun i_=>blk_cell BK549.out i_;have hfz33_0:=fun i_=>blk_frozen BK549.out i_
      go_wp2_with (first|((with_reducible refine gLd rfl rfl (by assumption) ?_);refine ldV ?_)|((with_reducible refine gSt rfl (by assumption) ?_);refine stV ?_)|((with_reducible refine gT 7 rfl ?_);refine gC (some 7) Try.func74 (impl_in.calls A9.out) ?_;rintro e w' ⟨rfl,⟨nd,rfl⟩⟩;refine ⟨_,rfl,?_⟩)|(go_at_call 74;(with_reducible refine (impl_in.calls A11.out).mono ?_);rintro e w' ⟨rfl,⟨nd,rfl⟩⟩))
      go_meet
      case rel=>exact ⟨_,(true),bZ,H',⟨by have:=HJ2.out;first|omega|exact Nat.le_refl _⟩,⟨pK BK549.out⟩,⟨pS HB.out⟩⟩
    ·replace c10:=Bool.eq_false_iff.mpr c10;subst c10
     rw [if_neg nFT] at H
     have H':=mA H;clear H;have hcz34_0:=fun i_=>blk_cell BK549.out i_;have hfz34_0:=fun i_=>blk_frozen BK549.out i_
     go_wp2_with (first|((with_reducible refine gLd rfl rfl (by assumption) ?_);refine ldV ?_)|((with_reducible refine gSt rfl (by assumption) ?_);refine stV ?_)|((with_reducible refine gT 7 rfl ?_);refine gC (some 7) Try.func74 (impl_in.calls A9.out) ?_;rintro e w' ⟨rfl,⟨nd,rfl⟩⟩;refine ⟨_,rfl,?_⟩))
     go_meet
     case rel=>exact ⟨_,(true),bZ,H',⟨by have:=HJ2.out;first|omega|exact Nat.le_refl _⟩,⟨pK BK549.out⟩,⟨pS HB.out⟩⟩
   case rest =>
    clear HC8
    (try clear hcz5_0);(try clear hfz5_0)
    obtain ⟨kq,x46_7,rfl,HA,HJ7,BK549,HB⟩:=hcut
    cases kq with
    | zero=>exact absurd HA.out (by simp [impl_SynSeekerOk.j1])
    | succ kj7 =>
     have H:=HA.out;clear HA;simp only [impl_SynSeekerOk.j1] at H
     by_cases c35:x46_7=true
     ·subst c35;rw [if_pos rfl] at H;obtain rfl:=Option.some.inj H
      go_wp2_with (first|((with_reducible refine gLd rfl rfl (by assumption) ?_);refine ldV ?_)|((with_reducible refine gSt rfl (by assumption) ?_);refine stV ?_))
      go_ret
      exact rZ (pS HB.out)
     ·replace c35:=Bool.eq_false_iff.mpr c35;subst c35
      rw [if_neg nFT] at H
      by_cases c36:(a0_13 == 0 && (a0_14 == 0 && ((a0_15 == 0 && (a0_16 == 0 && (a0_17 == 0 && (a0_18 == 0 && (a0_19 == 0 && (a0_20 == 0 && (a0_21 == 0 && (a0_22 == 0 && (a0_23 == 0 && (a0_24 == 0)))))))))))))=true
      ·rw [if_pos c36] at H;have c36b0:(a0_13 == 0 && (a0_14 == 0 && ((a0_15 == 0 && (a0_16 == 0 && (a0_17 == 0 && (a0_18 == 0 && (a0_19 == 0 && (a0_20 == 0 && (a0_21 == 0 && (a0_22 == 0 && (a0_23 == 0 && (a0_24 == 0)))))))))))))=true:=c36
       (try (have c36b1:decide (a0_13=0 && (a0_14 == 0 && ((a0_15 == 0 && (a0_16 == 0 && (a0_17 == 0 && (a0_18 == 0 && (a0_19 == 0 && (a0_20 == 0 && (a0_21 == 0 && (a0_22 == 0 && (a0_23 == 0 && (a0_24 == 0)))))))))))))=true:=by simpa using c36))
       (try (have c36b2:(a0_13 == 0 && (a0_14 == 0 && ((a0_15 == 0 && (a0_16 == 0 && (a0_17 == 0 && (a0_18 == 0 && (a0_19 == 0 && (a0_20 == 0 && (a0_21 == 0 && (a0_22 == 0 && (a0_23 == 0 && (a0_24 == 0)))))))))))))=true:=by simpa using c36))
       clear c36;obtain rfl:=Option.some.inj H;have hcz37_0:=fun i_=>blk_cell BK549.out i_;have hfz37_0:=fun i_=>blk_frozen BK549.out i_
       go_wp2_with (first|((with_reducible refine gLd rfl rfl (by assumption) ?_);refine ldV ?_)|((with_reducible refine gSt rfl (by assumption) ?_);refine stV ?_))
       go_ret
       exact rZ (pS HB.out)
      ·rw [if_neg c36] at H
       have c36b0:(a0_13 == 0 && (a0_14 == 0 && ((a0_15 == 0 && (a0_16 == 0 && (a0_17 == 0 && (a0_18 == 0 && (a0_19 == 0 && (a0_20 == 0 && (a0_21 == 0 && (a0_22 == 0 && (a0_23 == 0 && (a0_24 == 0)))))))))))))=false:=by simpa using c36
       (try (have c36b1:decide (a0_13=0 && (a0_14 == 0 && ((a0_15 == 0 && (a0_16 == 0 && (a0_17 == 0 && (a0_18 == 0 && (a0_19 == 0 && (a0_20 == 0 && (a0_21 == 0 && (a0_22 == 0 && (a0_23 == 0 && (a0_24 == 0)))))))))))))=false:=by simpa using c36))
       (try (have c36b2:(a0_13 == 0 && (a0_14 == 0 && ((a0_15 == 0 && (a0_16 == 0 && (a0_17 == 0 && (a0_18 == 0 && (a0_19 == 0 && (a0_20 == 0 && (a0_21 == 0 && (a0_22 == 0 && (a0_23 == 0 && (a0_24 == 0)))))))))))))=false:=by simpa using c36))
       (try (have c36b3:¬ (a0_13=0 && (a0_14 == 0 && ((a0_15 == 0 && (a0_16 == 0 && (a0_17 == 0 && (a0_18 == 0 && (a0_19 == 0 && (a0_20 == 0 && (a0_21 == 0 && (a0_22 == 0 && (a0_23 == 0 && (a0_24 == 0))))))))))))):=by simpa using c36))
       clear c36;obtain ⟨t557,A38,H⟩:=bI H;(try dsimp only at H)
       by_cases c39:t557=true
       ·subst c39;rw [if_pos rfl] at H
        by_cases c40:a0_13=a0_0
        ·rw [if_pos c40] at H;obtain ⟨c40b0,c40b1⟩:=eqB c40;clear c40;obtain rfl:=Option.some.inj H;have hcz41_0:=fun i_=>blk_cell BK549.out i_;have hfz41_0:=fun i_=>blk_frozen BK549.out i_
         go_wp2_with (first|((with_reducible refine gLd rfl rfl (by assumption) ?_);refine ldV ?_)|((with_reducible refine gSt rfl (by assumption) ?_);refine stV ?_)|(go_at_call 88;(with_reducible refine (impl_paperOk.calls A38.out).mono ?_);rintro e w42 ⟨rfl,hb⟩;replace BK549:=bK BK549 hb;replace HB:=spS HB hb;(try clear hb);have hcz43_0:=fun i_=>blk_cell BK549.out i_;have hfz43_0:=fun i_=>blk_frozen BK549.out i_))
         go_ret
         exact rZ (pS HB.out)
        ·rw [if_neg c40] at H;have c40b0:(a0_13 == a0_0)=false:=beq_eq_false_iff_ne.mpr c40;have c40b1:(a0_13 != a0_0)=true:=bne_iff_ne.mpr c40;obtain rfl:=Option.some.inj H;have hcz44_0:=fun i_=>blk_cell BK549.out i_;have hfz44_0:=fun i_=>blk_frozen BK549.out i_
         go_wp2_with (first|((with_reducible refine gLd rfl rfl (by assumption) ?_);refine ldV ?_)|((with_reducible refine gSt rfl (by assumption) ?_);refine stV ?_)|(go_at_call 88;(with_reducible refine (impl_paperOk.calls A38.out).mono ?_);rintro e w45 ⟨rfl,hb⟩;replace BK549:=bK BK549 hb;replace HB:=spS HB hb;(try clear hb);have hcz46_0:=fun i_=>blk_cell BK549.out i_;have hfz46_0:=fun i_=>blk_frozen BK549.out i_))
         go_ret
         exact rZ (pS HB.out)
       ·replace c39:=Bool.eq_false_iff.mpr c39;subst c39
        rw [if_neg nFT] at H
        obtain rfl:=Option.some.inj H;have hcz47_0:=fun i_=>blk_cell BK549.out i_;have hfz47_0:=fun i_=>blk_frozen BK549.out i_
        go_wp2_with (first|((with_reducible refine gLd rfl rfl (by assumption) ?_);refine ldV ?_)|((with_reducible refine gSt rfl (by assumption) ?_);refine stV ?_)|(go_at_call 88;(with_reducible refine (impl_paperOk.calls A38.out).mono ?_);rintro e w48 ⟨rfl,hb⟩;replace BK549:=bK BK549 hb;replace HB:=spS HB hb;(try clear hb)))
        go_ret
        exact rZ (pS HB.out)
/-! ### impl_copied_Word: function 136 -/
def impl_copied_Word.f (l0 : List S9028) : Option (List S9028) := if l0.length ≤ 1172812402961 then some l0 else none
set_option maxHeartbeats 8000000 in
set_option maxRecDepth 100000 in
theorem impl_copied_Word.calls (A0 : Option Addr) (c0 : Nat) (l0 : List S9028) (r : List S9028) (w : World) (hr0 : Kd.C k9028 w A0 l0.length l0) (hc0 : l0.length ≤ c0) (h : impl_copied_Word.f l0 = some r) :
    Calls Try.prog 136 #[.slice A0 l0.length c0] w fun e w' => ∃ v0_ : Value, e = .returned (v0_) ∧ Kd.R k9028 28 w' w.heap.size (fun _ => True) v0_ r ∧ Below w.heap.size w w' := by
  unfold impl_copied_Word.f at h
  by_cases hz : l0.length ≤ 1172812402961
  · rw [if_pos hz] at h
    obtain rfl := Option.some.inj h
    have HR := Aside0.mk hr0
    have HZ := Aside0.mk hz
    clear hr0 hc0 h hz
    by_cases h0 : l0.length = 0
    · obtain rfl := List.eq_nil_of_length_eq_zero h0
      clear h0
      go_enter Try.func136, Try.ntmps136
      go_wp2
      go_ret
      exact ⟨_, rfl, Kd.R_nil _ _ _ _ _, Below.refl _ _⟩
    · have c0b : ((l0.length : Int) == 0) = false := beq_eq_false_iff_ne.mpr (by omega)
      have c0c : ((l0.length : Int) != 0) = true := bne_iff_ne.mpr (by omega)
      have c0d : ¬ (l0 = []) := fun h_ => h0 (by rw [h_]; rfl)
      clear h0
      have HB := Aside0.mk (Below.refl w.heap.size w)
      go_enter Try.func136, Try.ntmps136
      go_wp2_with (first
        | (refine Kd.R_make k9028 _ 28 rfl (N := 9) rfl 70 _ _ rfl (l0.length : Int) rfl rfl Try.underlying70 (.agg #[(.int .i64 0), (.int .i64 0), (.int .i64 0), (.int .i64 0), (.int .i64 0), (.int .i64 0), (.int .i64 0), (.int .i64 0), (.int .i64 0), (.int .i64 0), (.int .i64 0), (.int .i64 0), (.int .i64 0), (.int .i64 0), (.int .i64 0), (.int .i64 0), (.int .i64 0), (.int .i64 0), (.int .i64 0), (.int .i64 0), (.int .i64 0), (.int .i64 0), (.int .i64 0), (.int .i64 0), (.slice none 0 0), (.slice none 0 0)]) 240 info28 rfl (by decide) (by omega) z9028 (ok := fun _ => True) (okp := fun _ => True) (k9028_mkM _ _ _ z9028) (fun _ hk => hk) trivial (Int.natCast_nonneg _) (by have hz := HZ.out; rw [Int.toNat_natCast]; omega) HB.out (Nat.le_refl _) ?_
           intro v1 w1 hR1 hB1 hg1 hn1
           rw [Int.toNat_natCast] at hR1
           have HR1 := Aside0.mk hR1
           have HB1 := Aside0.mk hB1
           have HC1 := Aside0.mk (Kd.C_below HR.out (below_of_grown hg1))
           clear hR1 hB1 hg1 hn1)
        | (refine R_copy k9028 flat9028 w.heap.size rfl _ _ 70 70 28 rfl Try.underlying70 (by rw [show (Try.prog.info? 28).map (·.size) = ((Try.prog.info? 28).map (fun i => (i.zero, i.size, i.bytes))).map (fun x => x.2.1) from by rw [Option.map_map]; rfl, info28]; rfl) _ _ _ _ _ l0 (fun _ => True) rfl rfl rfl (by simp) HR1.out HC1.out HB1.out ?_
           intro w2 hR2 hB2 _
           have HR2 := Aside0.mk hR2
           have HB2 := Aside0.mk hB2
           clear hR2 hB2))
      go_ret
      exact ⟨_, rfl, HR2.out, HB2.out⟩
  · rw [if_neg hz] at h; cases h
/-! ### impl_askAll: function 99 -/
def impl_askAll.l0 : Nat → List (S9028) → Int → Int → Int → Int → Int → Int → Int → Int → Int → Int → Int → Int → Int → Int → Int → Int → Int → Int → Int → Int → Int → Int → Int → Int → Int → Unit → Unit → Option ((List (S9028)))
 | 0,_,_,_,_,_,_,_,_,_,_,_,_,_,_,_,_,_,_,_,_,_,_,_,_,_,_,_,_=>none
 | k+1,x3,x4,x559000,x559001,x559002,x559003,x559004,x559005,x559006,x559007,x559008,x559009,x559010,x559011,x559012,x559013,x559014,x559015,x559016,x559017,x559018,x559019,x559020,x559021,x559022,x559023,x559024,x559025=>if x4<3 then (if x3.length<586406201480 then (impl_askAll.l0 k (x3 ++ [(⟨x559000,x559001,x4,x559003,x559004,x559005,(⟨x559006,x559007,x559008,x559009,x559010,x559011,x559012,x559013,x559014,x559015⟩:S24),x559016,x559017,x559018,x559019,x559020,x559021,x559022,x559023,x559024,x559025⟩:S9028)]) (wrap64 (x4+1)) x559000 x559001 x4 x559003 x559004 x559005 x559006 x559007 x559008 x559009 x559010 x559011 x559012 x559013 x559014 x559015 x559016 x559017 x559018 x559019 x559020 x559021 x559022 x559023 x559024 x559025) else (none)) else ((impl_copied_Word.f x3).bind fun t562=>(some t562))
def impl_askAll.f (k : Nat) (a0_0 a0_1 a0_2 a0_3 a0_4 a0_5 a0_6 a0_7 a0_8 a0_9 a0_10 a0_11 a0_12 a0_13 a0_14 a0_15 a0_16 a0_17 a0_18 a0_19 a0_20 a0_21 a0_22 a0_23 : Int) (a0_24 : Unit) (a0_25 : Unit) : Option ((List (S9028))) := impl_askAll.l0 k ([] : List (S9028)) 0 a0_0 a0_1 a0_2 a0_3 a0_4 a0_5 a0_6 a0_7 a0_8 a0_9 a0_10 a0_11 a0_12 a0_13 a0_14 a0_15 a0_16 a0_17 a0_18 a0_19 a0_20 a0_21 a0_22 a0_23 a0_24 a0_25
theorem impl_askAll.mono_l : ∀ k, (∀ y0 y1 y2 y3 y4 y5 y6 y7 y8 y9 y10 y11 y12 y13 y14 y15 y16 y17 y18 y19 y20 y21 y22 y23 y24 y25 y26 y27, LeO (impl_askAll.l0 k y0 y1 y2 y3 y4 y5 y6 y7 y8 y9 y10 y11 y12 y13 y14 y15 y16 y17 y18 y19 y20 y21 y22 y23 y24 y25 y26 y27) (impl_askAll.l0 (k + 1) y0 y1 y2 y3 y4 y5 y6 y7 y8 y9 y10 y11 y12 y13 y14 y15 y16 y17 y18 y19 y20 y21 y22 y23 y24 y25 y26 y27))
 | 0=>fun _ _ _ _ _ _ _ _ _ _ _ _ _ _ _ _ _ _ _ _ _ _ _ _ _ _ _ _ r h=>by simp [impl_askAll.l0] at h
 | k+1=>by
  have ih0:=impl_askAll.mono_l k
  ·intros
   unfold impl_askAll.l0
   repeat' first
   | (with_reducible first|apply ih0|exact LeO.refl _|exact LeO.none _|refine LeO.ite ?_ ?_|refine LeO.bind ?_ (fun _=>?_))|exact LeO.none _|refine LeO.ite ?_ ?_|refine LeO.bind ?_ (fun _=>?_)
theorem impl_askAll.mono : ∀ a0 a1 a2 a3 a4 a5 a6 a7 a8 a9 a10 a11 a12 a13 a14 a15 a16 a17 a18 a19 a20 a21 a22 a23 a24 a25 k, LeO (impl_askAll.f k a0 a1 a2 a3 a4 a5 a6 a7 a8 a9 a10 a11 a12 a13 a14 a15 a16 a17 a18 a19 a20 a21 a22 a23 a24 a25) (impl_askAll.f (k + 1) a0 a1 a2 a3 a4 a5 a6 a7 a8 a9 a10 a11 a12 a13 a14 a15 a16 a17 a18 a19 a20 a21 a22 a23 a24 a25) := by
 intro a0 a1 a2 a3 a4 a5 a6 a7 a8 a9 a10 a11 a12 a13 a14 a15 a16 a17 a18 a19 a20 a21 a22 a23 a24 a25 k;have ih0:=impl_askAll.mono_l k
 unfold impl_askAll.f
 repeat' first
   | (with_reducible first|apply ih0|exact LeO.refl _|exact LeO.none _|refine LeO.ite ?_ ?_|refine LeO.bind ?_ (fun _=>?_))|exact LeO.none _|refine LeO.ite ?_ ?_|refine LeO.bind ?_ (fun _=>?_)
set_option maxHeartbeats 8000000 in
set_option maxRecDepth 100000 in
theorem impl_askAll.calls {k : Nat} {a0_0 a0_1 a0_2 a0_3 a0_4 a0_5 a0_6 a0_7 a0_8 a0_9 a0_10 a0_11 a0_12 a0_13 a0_14 a0_15 a0_16 a0_17 a0_18 a0_19 a0_20 a0_21 a0_22 a0_23 : Int} {a0_24 a0_25 : Unit} {r : List (S9028)} {w : World} (h : impl_askAll.f k a0_0 a0_1 a0_2 a0_3 a0_4 a0_5 a0_6 a0_7 a0_8 a0_9 a0_10 a0_11 a0_12 a0_13 a0_14 a0_15 a0_16 a0_17 a0_18 a0_19 a0_20 a0_21 a0_22 a0_23 a0_24 a0_25 = some r) :
  Calls Try.prog 99 #[.agg #[.int .i64 a0_0,.int .i64 a0_1,.int .i64 a0_2,.int .i64 a0_3,.int .i64 a0_4,.int .i64 a0_5,.int .i64 a0_6,.int .i64 a0_7,.int .i64 a0_8,.int .i64 a0_9,.int .i64 a0_10,.int .i64 a0_11,.int .i64 a0_12,.int .i64 a0_13,.int .i64 a0_14,.int .i64 a0_15,.int .i64 a0_16,.int .i64 a0_17,.int .i64 a0_18,.int .i64 a0_19,.int .i64 a0_20,.int .i64 a0_21,.int .i64 a0_22,.int .i64 a0_23,.slice none 0 0,.slice none 0 0]] w fun e w'=>∃ v0_:Value,e=.returned (v0_)∧Kd.R k9028 28 w' w.heap.size (fun _=>True) v0_ r∧Below w.heap.size w w':=by
 have hu28:=Try.underlying28;have HB:=mA (Below.refl w.heap.size w);have H:(impl_askAll.l0 k ([]:List (S9028)) 0 a0_0 a0_1 a0_2 a0_3 a0_4 a0_5 a0_6 a0_7 a0_8 a0_9 a0_10 a0_11 a0_12 a0_13 a0_14 a0_15 a0_16 a0_17 a0_18 a0_19 a0_20 a0_21 a0_22 a0_23 a0_24 a0_25)=some r:=h;clear h;have H':=mA H;clear H
 go_enter Try.func99,Try.ntmps99
 go_wp2_with (first|((with_reducible refine gLg rfl (by assumption) ?_);refine ldV ?_)|((with_reducible refine gSt rfl (by assumption) ?_);refine stV ?_)|((with_reducible refine gT 1 rfl ?_);refine bX 1 ?_;intro gb558 hg w2 hbox hb;have BK558:=mA hbox;have GW558:=gbpB HB hg;have GE558:=gbpB HB hg;replace HB:=spB HB hb;clear hb hbox hg))
 go_loopg [3,4] k (fun kq v3 v4 w'=>∃ (x3_1:List (S9028)) (x4_1:Int) (x559002_1:Int),v4=.int .i64 x4_1∧Aside0 (impl_askAll.l0 kq x3_1 x4_1 a0_0 a0_1 x559002_1 a0_3 a0_4 a0_5 a0_6 a0_7 a0_8 a0_9 a0_10 a0_11 a0_12 a0_13 a0_14 a0_15 a0_16 a0_17 a0_18 a0_19 a0_20 a0_21 a0_22 a0_23 a0_24 a0_25=some r)∧Aside0 (kq≤k)∧Aside0 (Kd.R k9028 28 w' w.heap.size (fun k_=>k_≠gb558) v3 x3_1)∧Aside0 (w'.heap[gb558]?=some (.cells #[.int .i64 a0_0,.int .i64 a0_1,.int .i64 x559002_1,.int .i64 a0_3,.int .i64 a0_4,.int .i64 a0_5,.int .i64 a0_6,.int .i64 a0_7,.int .i64 a0_8,.int .i64 a0_9,.int .i64 a0_10,.int .i64 a0_11,.int .i64 a0_12,.int .i64 a0_13,.int .i64 a0_14,.int .i64 a0_15,.int .i64 a0_16,.int .i64 a0_17,.int .i64 a0_18,.int .i64 a0_19,.int .i64 a0_20,.int .i64 a0_21,.int .i64 a0_22,.int .i64 a0_23,.slice none 0 0,.slice none 0 0] 28 (0,0)))∧Aside0 (Below w.heap.size w w'))
 case atStart=>exact ⟨(([]:List (S9028))),(0),(a0_2),bZ,H',⟨Nat.le_refl _⟩,⟨aN⟩,⟨pK BK558.out⟩,⟨pS HB.out⟩⟩
 case round =>
  clear H'
  obtain ⟨x3_1,x4_1,x559002_1,rfl,HA,HK1,HO_3,BK558,HB⟩:=hrel
  cases gk with
  | zero=>exact absurd HA.out (by simp [impl_askAll.l0])
  | succ k1 =>
   have H:=HA.out;clear HA;simp only [impl_askAll.l0] at H
   by_cases c3:x4_1<3
   ·rw [if_pos c3] at H;have c3b0:decide (x4_1<3)=true:=decide_eq_true c3;clear c3
    by_cases c4:x3_1.length<586406201480
    ·rw [if_pos c4] at H;have LMc4:=mA c4;clear c4;obtain ⟨y559,hy559⟩:∃ y_:List (S9028),y_=(x3_1 ++ [(⟨a0_0,a0_1,x4_1,a0_3,a0_4,a0_5,(⟨a0_6,a0_7,a0_8,a0_9,a0_10,a0_11,a0_12,a0_13,a0_14,a0_15⟩:S24),a0_16,a0_17,a0_18,a0_19,a0_20,a0_21,a0_22,a0_23,a0_24,a0_25⟩:S9028)]):=⟨_,rfl⟩
     replace H:(impl_askAll.l0 k1 y559 (wrap64 (x4_1+1)) a0_0 a0_1 x4_1 a0_3 a0_4 a0_5 a0_6 a0_7 a0_8 a0_9 a0_10 a0_11 a0_12 a0_13 a0_14 a0_15 a0_16 a0_17 a0_18 a0_19 a0_20 a0_21 a0_22 a0_23 a0_24 a0_25)=some r:=qH hy559 H
     have Ny559:=mA hy559;clear hy559;have H':=mA H;clear H;have hcz5_0:=fun i_=>blk_cell BK558.out i_;have hfz5_0:=fun i_=>blk_frozen BK558.out i_
     go_wp2_with (first|((with_reducible refine gLg rfl (by assumption) ?_);refine ldV ?_)|((with_reducible refine gSt rfl (by assumption) ?_);refine stV ?_)|((with_reducible refine gate_builtin (b:=.append) (xs:=#[.tmp 11,.tmp 13]) rfl ?_);at_builtin;refine Kd.R_append k9028 (w0:=w) w.heap.size rfl (.tmp 11) (.tmp 13) 70 28 (.agg #[(.int .i64 0),(.int .i64 0),(.int .i64 0),(.int .i64 0),(.int .i64 0),(.int .i64 0),(.int .i64 0),(.int .i64 0),(.int .i64 0),(.int .i64 0),(.int .i64 0),(.int .i64 0),(.int .i64 0),(.int .i64 0),(.int .i64 0),(.int .i64 0),(.int .i64 0),(.int .i64 0),(.int .i64 0),(.int .i64 0),(.int .i64 0),(.int .i64 0),(.int .i64 0),(.int .i64 0),(.slice none 0 0),(.slice none 0 0)]) 240 rfl Try.underlying70 info28 rfl aD (by omega) u3 x3_1 (⟨a0_0,a0_1,x4_1,a0_3,a0_4,a0_5,(⟨a0_6,a0_7,a0_8,a0_9,a0_10,a0_11,a0_12,a0_13,a0_14,a0_15⟩:S24),a0_16,a0_17,a0_18,a0_19,a0_20,a0_21,a0_22,a0_23,a0_24,a0_25⟩:S9028) [.int .i64 a0_0,.int .i64 a0_1,.int .i64 x4_1,.int .i64 a0_3,.int .i64 a0_4,.int .i64 a0_5,.int .i64 a0_6,.int .i64 a0_7,.int .i64 a0_8,.int .i64 a0_9,.int .i64 a0_10,.int .i64 a0_11,.int .i64 a0_12,.int .i64 a0_13,.int .i64 a0_14,.int .i64 a0_15,.int .i64 a0_16,.int .i64 a0_17,.int .i64 a0_18,.int .i64 a0_19,.int .i64 a0_20,.int .i64 a0_21,.int .i64 a0_22,.int .i64 a0_23,.slice none 0 0,.slice none 0 0] (fun k_=>k_≠gb558) (fun _=>False) rfl (by first|(go_simp;done)|(go_simp;rfl)) ?aP (fun _ hk=>hk.elim) ?aF ?aO ?aB ?aS ?aL ?_;(case aP=>exact k9028_mkM _ _ _ (⟨a0_0,a0_1,x4_1,a0_3,a0_4,a0_5,(⟨a0_6,a0_7,a0_8,a0_9,a0_10,a0_11,a0_12,a0_13,a0_14,a0_15⟩:S24),a0_16,a0_17,a0_18,a0_19,a0_20,a0_21,a0_22,a0_23,a0_24,a0_25⟩:S9028));(case aB=>exact (pS HB.out));(case aF=>exact (fun k_ hk=>Kd.freshB (g:=gb558) (o:=.cells #[.int .i64 a0_0,.int .i64 a0_1,.int .i64 x4_1,.int .i64 a0_3,.int .i64 a0_4,.int .i64 a0_5,.int .i64 a0_6,.int .i64 a0_7,.int .i64 a0_8,.int .i64 a0_9,.int .i64 a0_10,.int .i64 a0_11,.int .i64 a0_12,.int .i64 a0_13,.int .i64 a0_14,.int .i64 a0_15,.int .i64 a0_16,.int .i64 a0_17,.int .i64 a0_18,.int .i64 a0_19,.int .i64 a0_20,.int .i64 a0_21,.int .i64 a0_22,.int .i64 a0_23,.slice none 0 0,.slice none 0 0] 28 (0,0)) (pP BK558) k_ hk));(case aO=>exact (pR (Kd.R_mono (Kd.R_far (p:=⟨gb558,2,none⟩) (Kd.R_mono HO_3.out (fun k_ hk=>(⟨hk,hk⟩:_∧k_≠gb558))) (fun _ hk=>hk.2) (.int .i64 x4_1)) (fun _ hk=>hk.1))));(case aS=>exact (bpS HB));(case aL=>have:=LMc4.out;omega);intro v560 w6 ho hb hg hat;rw [← Ny559.out] at ho;have HO561:=mA ho;replace BK558:=mA (blk_grown (g:=gb558) (o:=.cells #[.int .i64 a0_0,.int .i64 a0_1,.int .i64 x4_1,.int .i64 a0_3,.int .i64 a0_4,.int .i64 a0_5,.int .i64 a0_6,.int .i64 a0_7,.int .i64 a0_8,.int .i64 a0_9,.int .i64 a0_10,.int .i64 a0_11,.int .i64 a0_12,.int .i64 a0_13,.int .i64 a0_14,.int .i64 a0_15,.int .i64 a0_16,.int .i64 a0_17,.int .i64 a0_18,.int .i64 a0_19,.int .i64 a0_20,.int .i64 a0_21,.int .i64 a0_22,.int .i64 a0_23,.slice none 0 0,.slice none 0 0] 28 (0,0)) (pP BK558) hg (Kd.R_away HO_3.out (fun _ hk=>hk)));replace HB:=mA hb;clear HO_3;clear ho hb hg hat))
     go_roundg k1
     case measure=>have:=HK1.out;omega
     case rel=>exact ⟨(y559),(wrap64 (x4_1+1)),(x4_1),bZ,H',⟨by have:=HK1.out;omega⟩,⟨pR HO561.out⟩,⟨pK BK558.out⟩,⟨pS HB.out⟩⟩
    ·rw [if_neg c4] at H
     exact absurd H (by simp)
   ·rw [if_neg c3] at H;have c3b0:decide (x4_1<3)=false:=decide_eq_false c3;clear c3;obtain ⟨t562,A7,H⟩:=bI H;(try dsimp only at H);obtain rfl:=Option.some.inj H;obtain ⟨Ao8,co8,rfl⟩:=Kd.R_slice HO_3.out
    go_wp2_with (first|((with_reducible refine gLg rfl (by assumption) ?_);refine ldV ?_)|((with_reducible refine gSt rfl (by assumption) ?_);refine stV ?_)|((with_reducible refine gT 16 rfl ?_);refine gC (some 16) Try.func136 (impl_copied_Word.calls _ _ x3_1 t562 _ (cR HO_3) (cL HO_3) A7.out) ?_;rintro e w9 ⟨v563,rfl,ho0,hb⟩;refine ⟨_,rfl,?_⟩;have HO564:=mA (Kd.R_lower (Kd.R_newB (Kd.R_new' ho0 (rL HO_3)) (g:=gb558) (o:=.cells #[.int .i64 a0_0,.int .i64 a0_1,.int .i64 x559002_1,.int .i64 a0_3,.int .i64 a0_4,.int .i64 a0_5,.int .i64 a0_6,.int .i64 a0_7,.int .i64 a0_8,.int .i64 a0_9,.int .i64 a0_10,.int .i64 a0_11,.int .i64 a0_12,.int .i64 a0_13,.int .i64 a0_14,.int .i64 a0_15,.int .i64 a0_16,.int .i64 a0_17,.int .i64 a0_18,.int .i64 a0_19,.int .i64 a0_20,.int .i64 a0_21,.int .i64 a0_22,.int .i64 a0_23,.slice none 0 0,.slice none 0 0] 28 (0,0)) (pK BK558.out)) (bpS HB));replace HO_3:=rE HO_3 ho0 hb;replace BK558:=bK BK558 hb;replace HB:=spS HB hb;(try clear hb);(try clear ho0)))
    go_ret
    exact ⟨_,by first|rfl|(simp [errW_none,errW_some]<;>rfl)|(simp [*,errW_none,errW_some]<;>rfl),pR (Kd.R_mono HO564.out (fun _ hk=>trivial)),pS HB.out⟩
/-! ### impl_copied_int: function 138 -/
def impl_copied_int.f (l0 : List Int) : Option (List Int) := if l0.length ≤ 35184372088832 then some l0 else none
set_option maxHeartbeats 8000000 in
set_option maxRecDepth 100000 in
theorem impl_copied_int.calls (A0 : Option Addr) (c0 : Nat) (l0 : List Int) (r : List Int) (w : World) (hr0 : Kd.C (Kd.int .i64) w A0 l0.length l0) (hc0 : l0.length ≤ c0) (h : impl_copied_int.f l0 = some r) :
    Calls Try.prog 138 #[.slice A0 l0.length c0] w fun e w' => ∃ v0_ : Value, e = .returned (v0_) ∧ Kd.R (Kd.int .i64) 3 w' w.heap.size (fun _ => True) v0_ r ∧ Below w.heap.size w w' := by
  unfold impl_copied_int.f at h
  by_cases hz : l0.length ≤ 35184372088832
  · rw [if_pos hz] at h
    obtain rfl := Option.some.inj h
    have HR := Aside0.mk hr0
    have HZ := Aside0.mk hz
    clear hr0 hc0 h hz
    by_cases h0 : l0.length = 0
    · obtain rfl := List.eq_nil_of_length_eq_zero h0
      clear h0
      go_enter Try.func138, Try.ntmps138
      go_wp2
      go_ret
      exact ⟨_, rfl, Kd.R_nil _ _ _ _ _, Below.refl _ _⟩
    · have c0b : ((l0.length : Int) == 0) = false := beq_eq_false_iff_ne.mpr (by omega)
      have c0c : ((l0.length : Int) != 0) = true := bne_iff_ne.mpr (by omega)
      have c0d : ¬ (l0 = []) := fun h_ => h0 (by rw [h_]; rfl)
      clear h0
      have HB := Aside0.mk (Below.refl w.heap.size w)
      go_enter Try.func138, Try.ntmps138
      go_wp2_with (first
        | (refine Kd.R_make (Kd.int .i64) _ 3 rfl (N := 9) rfl 58 _ _ rfl (l0.length : Int) rfl rfl Try.underlying58 (.int .i64 0) 8 info3 rfl (by decide) (by omega) 0 (ok := fun _ => True) (okp := fun _ => True) rfl (fun _ hk => hk) trivial (Int.natCast_nonneg _) (by have hz := HZ.out; rw [Int.toNat_natCast]; omega) HB.out (Nat.le_refl _) ?_
           intro v1 w1 hR1 hB1 hg1 hn1
           rw [Int.toNat_natCast] at hR1
           have HR1 := Aside0.mk hR1
           have HB1 := Aside0.mk hB1
           have HC1 := Aside0.mk (Kd.C_below HR.out (below_of_grown hg1))
           clear hR1 hB1 hg1 hn1)
        | (refine R_copy (Kd.int .i64) (flat_int _) w.heap.size rfl _ _ 58 58 3 rfl Try.underlying58 (by rw [show (Try.prog.info? 3).map (·.size) = ((Try.prog.info? 3).map (fun i => (i.zero, i.size, i.bytes))).map (fun x => x.2.1) from by rw [Option.map_map]; rfl, info3]; rfl) _ _ _ _ _ l0 (fun _ => True) rfl rfl rfl (by simp) HR1.out HC1.out HB1.out ?_
           intro w2 hR2 hB2 _
           have HR2 := Aside0.mk hR2
           have HB2 := Aside0.mk hB2
           clear hR2 hB2))
      go_ret
      exact ⟨_, rfl, HR2.out, HB2.out⟩
  · rw [if_neg hz] at h; cases h
end Go.Proofs.Ytoieojmfkkidnaa.P
