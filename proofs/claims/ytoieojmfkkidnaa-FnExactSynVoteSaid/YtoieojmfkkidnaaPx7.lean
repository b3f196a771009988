-- printed by pprint.py (this session's program over the kit's printer) out of the translation. Lean checks it.
import Derived.Test.YtoieojmfkkidnaaPx0
import Derived.Test.YtoieojmfkkidnaaPx6
namespace Go.Proofs.Ytoieojmfkkidnaa.P
open Go.RowKit Go.Proofs.YtoieojmfkkidnaaX Go.Proofs.YtoieojmfkkidnaaW.PrintWords Go.Proofs.YtoieojmfkkidnaaW.PrintLast Go.Proofs.YtoieojmfkkidnaaW.PrintMore
attribute [local go_sem] max2_int min2_int max_two min_two max_three min_three max_four min_four   -- for this text's walks alone
set_option linter.unusedVariables false
set_option linter.unusedSimpArgs false
/-! ### impl_WordOk: function 19 -/
def impl_WordOk.f (k : Nat) (a0_0 a0_1 a0_2 a0_3 a0_4 a0_5 a0_6 a0_7 a0_8 a0_9 a0_10 a0_11 a0_12 a0_13 a0_14 a0_15 a0_16 a0_17 a0_18 a0_19 a0_20 a0_21 a0_22 a0_23 : Int) (l0_24 : List (S138)) (l0_25 : List (S140)) : Option (Bool) := (impl_in.f a0_0 1 15).bind fun t412 => (if t412 = true then ((impl_isPlace.f a0_1).bind fun t413 => (if t413 = true then ((impl_isPlace.f a0_2).bind fun t414 => (if t414 = true then ((impl_cmdOk.f k a0_6 a0_7 a0_8 a0_9 a0_10 a0_11 a0_12 a0_13 a0_14 a0_15).bind fun t415 => (if t415 = true then ((impl_BlkOk.f k l0_24).bind fun t416 => (if t416 = true then ((impl_lastOk.f k l0_25).bind fun t417 => (if t417 = true then ((impl_wordNumbers.f k a0_0 a0_1 a0_2 a0_3 a0_4 a0_5 a0_6 a0_7 a0_8 a0_9 a0_10 a0_11 a0_12 a0_13 a0_14 a0_15 a0_16 a0_17 a0_18 a0_19 a0_20 a0_21 a0_22 a0_23 l0_24 l0_25).bind fun t418 => ((impl_numbersOk.f k t418).bind fun t421 => (some t421))) else (some false))) else (some false))) else (some false))) else (some false))) else (some false))) else (some false))
set_option maxHeartbeats 8000000 in
set_option maxRecDepth 100000 in
theorem impl_WordOk.calls {k : Nat} {a0_0 a0_1 a0_2 a0_3 a0_4 a0_5 a0_6 a0_7 a0_8 a0_9 a0_10 a0_11 a0_12 a0_13 a0_14 a0_15 a0_16 a0_17 a0_18 a0_19 a0_20 a0_21 a0_22 a0_23 : Int} {A0_24 : Option Addr} {c0_24 : Nat} {l0_24 : List (S138)} {A0_25 : Option Addr} {c0_25 : Nat} {l0_25 : List (S140)} {r : Bool} {w : World} (hr0_24 : Kd.C k138 w A0_24 l0_24.length l0_24) (hc0_24 : l0_24.length ≤ c0_24) (hr0_25 : Kd.C k140 w A0_25 l0_25.length l0_25) (hc0_25 : l0_25.length ≤ c0_25) (h : impl_WordOk.f k a0_0 a0_1 a0_2 a0_3 a0_4 a0_5 a0_6 a0_7 a0_8 a0_9 a0_10 a0_11 a0_12 a0_13 a0_14 a0_15 a0_16 a0_17 a0_18 a0_19 a0_20 a0_21 a0_22 a0_23 l0_24 l0_25 = some r) :
  Calls Try.prog 19 #[.agg #[.int .i64 a0_0,.int .i64 a0_1,.int .i64 a0_2,.int .i64 a0_3,.int .i64 a0_4,.int .i64 a0_5,.int .i64 a0_6,.int .i64 a0_7,.int .i64 a0_8,.int .i64 a0_9,.int .i64 a0_10,.int .i64 a0_11,.int .i64 a0_12,.int .i64 a0_13,.int .i64 a0_14,.int .i64 a0_15,.int .i64 a0_16,.int .i64 a0_17,.int .i64 a0_18,.int .i64 a0_19,.int .i64 a0_20,.int .i64 a0_21,.int .i64 a0_22,.int .i64 a0_23,.slice A0_24 l0_24.length c0_24,.slice A0_25 l0_25.length c0_25]] w fun e w'=>e=.returned (.bool r)∧Below w.heap.size w w':=by
 have hu28:=Try.underlying28;have hu24:=Try.underlying24;have HR0_24:=mA hr0_24;have HC0_24:=mA hc0_24;clear hr0_24 hc0_24;have HR0_25:=mA hr0_25;have HC0_25:=mA hc0_25;clear hr0_25 hc0_25;have HB:=mA (Below.refl w.heap.size w);have H:((impl_in.f a0_0 1 15).bind fun t412=>(if t412=true then ((impl_isPlace.f a0_1).bind fun t413=>(if t413=true then ((impl_isPlace.f a0_2).bind fun t414=>(if t414=true then ((impl_cmdOk.f k a0_6 a0_7 a0_8 a0_9 a0_10 a0_11 a0_12 a0_13 a0_14 a0_15).bind fun t415=>(if t415=true then ((impl_BlkOk.f k l0_24).bind fun t416=>(if t416=true then ((impl_lastOk.f k l0_25).bind fun t417=>(if t417=true then ((impl_wordNumbers.f k a0_0 a0_1 a0_2 a0_3 a0_4 a0_5 a0_6 a0_7 a0_8 a0_9 a0_10 a0_11 a0_12 a0_13 a0_14 a0_15 a0_16 a0_17 a0_18 a0_19 a0_20 a0_21 a0_22 a0_23 l0_24 l0_25).bind fun t418=>((impl_numbersOk.f k t418).bind fun t421=>(some t421))) else (some false))) else (some false))) else (some false))) else (some false))) else (some false))) else (some false)))=some r:=h;clear h;obtain ⟨t412,A2,H⟩:=bI H;(try dsimp only at H)
 by_cases c3:t412=true
 ·subst c3;rw [if_pos rfl] at H;obtain ⟨t413,A4,H⟩:=bI H;(try dsimp only at H)
  by_cases c5:t413=true
  ·subst c5;rw [if_pos rfl] at H;obtain ⟨t414,A6,H⟩:=bI H;(try dsimp only at H)
   by_cases c7:t414=true
   ·subst c7;rw [if_pos rfl] at H;obtain ⟨t415,A8,H⟩:=bI H;(try dsimp only at H)
    by_cases c9:t415=true
    ·subst c9;rw [if_pos rfl] at H;obtain ⟨t416,A10,H⟩:=bI H;(try dsimp only at H)
     by_cases c11:t416=true
     ·subst c11;rw [if_pos rfl] at H;obtain ⟨t417,A12,H⟩:=bI H;(try dsimp only at H)
      by_cases c13:t417=true
      ·subst c13;rw [if_pos rfl] at H;obtain ⟨t418,A14,H⟩:=bI H;(try dsimp only at H);obtain ⟨t421,A15,H⟩:=bI H;(try dsimp only at H);obtain rfl:=Option.some.inj H
       go_enter Try.func19,Try.ntmps19
       go_wp2_with (first|((with_reducible refine gLg rfl (by assumption) ?_);refine ldV ?_)|((with_reducible refine gSt rfl (by assumption) ?_);refine stV ?_)|((with_reducible refine gT 1 rfl ?_);refine bX 1 ?_;intro gb411 hg w16 hbox hb;have BK411:=mA hbox;have GW411:=gbpB HB hg;have GE411:=gbpB HB hg;replace HB:=spB HB hb;clear hb hbox hg;have hcz17_0:=fun i_=>blk_cell BK411.out i_;have hfz17_0:=fun i_=>blk_frozen BK411.out i_)|((with_reducible refine gT 5 rfl ?_);refine gC (some 5) Try.func74 (impl_in.calls A2.out) ?_;rintro e w' ⟨rfl,⟨nd,rfl⟩⟩;refine ⟨_,rfl,?_⟩)|(go_at_call 75;(with_reducible refine (impl_isPlace.calls A4.out).mono ?_);rintro e w' ⟨rfl,⟨nd,rfl⟩⟩)|(go_at_call 75;(with_reducible refine (impl_isPlace.calls A6.out).mono ?_);rintro e w' ⟨rfl,⟨nd,rfl⟩⟩)|(go_at_call 76;(with_reducible refine (impl_cmdOk.calls A8.out).mono ?_);rintro e w18 ⟨rfl,hb⟩;replace BK411:=bK BK411 hb;replace HB:=spS HB hb;(try clear hb);have hcz19_0:=fun i_=>blk_cell BK411.out i_;have hfz19_0:=fun i_=>blk_frozen BK411.out i_)|(go_at_call 77;(with_reducible refine (impl_BlkOk.calls ?s1 ?s2 A10.out).mono ?_);(case s1=>exact cB HR0_24 HB);(case s2=>exact HC0_24.out);rintro e w20 ⟨rfl,hb⟩;replace BK411:=bK BK411 hb;replace HB:=spS HB hb;(try clear hb);have hcz21_0:=fun i_=>blk_cell BK411.out i_;have hfz21_0:=fun i_=>blk_frozen BK411.out i_)|(go_at_call 78;(with_reducible refine (impl_lastOk.calls ?s1 ?s2 A12.out).mono ?_);(case s1=>exact cB HR0_25 HB);(case s2=>exact HC0_25.out);rintro e w22 ⟨rfl,hb⟩;replace BK411:=bK BK411 hb;replace HB:=spS HB hb;(try clear hb);have hcz23_0:=fun i_=>blk_cell BK411.out i_;have hfz23_0:=fun i_=>blk_frozen BK411.out i_)|(go_at_call 62;(with_reducible refine (impl_wordNumbers.calls ?s1 ?s2 ?s3 ?s4 A14.out).mono ?_);(case s1=>exact cB HR0_24 HB);(case s2=>exact HC0_24.out);(case s3=>exact cB HR0_25 HB);(case s4=>exact HC0_25.out);rintro e w24 ⟨v419,rfl,ho0,hb⟩;have HO420:=mA (Kd.R_lower ho0 (bpS HB));replace BK411:=bK BK411 hb;replace HB:=spS HB hb;(try clear hb);(try clear ho0);obtain ⟨Ao25,co25,rfl⟩:=Kd.R_slice HO420.out)|(go_at_call 79;(with_reducible refine (impl_numbersOk.calls ?s1 ?s2 A15.out).mono ?_);(case s1=>exact cR HO420);(case s2=>exact cL HO420);rintro e w' ⟨rfl,⟨nd,rfl⟩⟩))
       go_ret
       exact rZ (pS HB.out)
      ·replace c13:=Bool.eq_false_iff.mpr c13;subst c13
       rw [if_neg nFT] at H
       obtain rfl:=Option.some.inj H
       go_enter Try.func19,Try.ntmps19
       go_wp2_with (first|((with_reducible refine gLg rfl (by assumption) ?_);refine ldV ?_)|((with_reducible refine gSt rfl (by assumption) ?_);refine stV ?_)|((with_reducible refine gT 1 rfl ?_);refine bX 1 ?_;intro gb411 hg w26 hbox hb;have BK411:=mA hbox;have GW411:=gbpB HB hg;have GE411:=gbpB HB hg;replace HB:=spB HB hb;clear hb hbox hg;have hcz27_0:=fun i_=>blk_cell BK411.out i_;have hfz27_0:=fun i_=>blk_frozen BK411.out i_)|((with_reducible refine gT 5 rfl ?_);refine gC (some 5) Try.func74 (impl_in.calls A2.out) ?_;rintro e w' ⟨rfl,⟨nd,rfl⟩⟩;refine ⟨_,rfl,?_⟩)|(go_at_call 75;(with_reducible refine (impl_isPlace.calls A4.out).mono ?_);rintro e w' ⟨rfl,⟨nd,rfl⟩⟩)|(go_at_call 75;(with_reducible refine (impl_isPlace.calls A6.out).mono ?_);rintro e w' ⟨rfl,⟨nd,rfl⟩⟩)|(go_at_call 76;(with_reducible refine (impl_cmdOk.calls A8.out).mono ?_);rintro e w28 ⟨rfl,hb⟩;replace BK411:=bK BK411 hb;replace HB:=spS HB hb;(try clear hb);have hcz29_0:=fun i_=>blk_cell BK411.out i_;have hfz29_0:=fun i_=>blk_frozen BK411.out i_)|(go_at_call 77;(with_reducible refine (impl_BlkOk.calls ?s1 ?s2 A10.out).mono ?_);(case s1=>exact cB HR0_24 HB);(case s2=>exact HC0_24.out);rintro e w30 ⟨rfl,hb⟩;replace BK411:=bK BK411 hb;replace HB:=spS HB hb;(try clear hb);have hcz31_0:=fun i_=>blk_cell BK411.out i_;have hfz31_0:=fun i_=>blk_frozen BK411.out i_)|(go_at_call 78;(with_reducible refine (impl_lastOk.calls ?s1 ?s2 A12.out).mono ?_);(case s1=>exact cB HR0_25 HB);(case s2=>exact HC0_25.out);rintro e w32 ⟨rfl,hb⟩;replace BK411:=bK BK411 hb;replace HB:=spS HB hb;(try clear hb)))
       go_ret
       exact rZ (pS HB.out)
     ·replace c11:=Bool.eq_false_iff.mpr c11;subst c11
      rw [if_neg nFT] at H
      obtain rfl:=Option.some.inj H
      go_enter Try.func19,Try.ntmps19
      go_wp2_with (first|((with_reducible refine gLg rfl (by assumption) ?_);refine ldV ?_)|((with_reducible refine gSt rfl (by assumption) ?_);refine stV ?_)|((with_reducible refine gT 1 rfl ?_);refine bX 1 ?_;intro gb411 hg w33 hbox hb;have BK411:=mA hbox;have GW411:=gbpB HB hg;have GE411:=gbpB HB hg;replace HB:=spB HB hb;clear hb hbox hg;have hcz34_0:=fun i_=>blk_cell BK411.out i_;have hfz34_0:=fun i_=>blk_frozen BK411.out i_)|((with_reducible refine gT 5 rfl ?_);refine gC (some 5) Try.func74 (impl_in.calls A2.out) ?_;rintro e w' ⟨rfl,⟨nd,rfl⟩⟩;refine ⟨_,rfl,?_⟩)|(go_at_call 75;(with_reducible refine (impl_isPlace.calls A4.out).mono ?_);rintro e w' ⟨rfl,⟨nd,rfl⟩⟩)|(go_at_call 75;(with_reducible refine (impl_isPlace.calls A6.out).mono ?_);rintro e w' ⟨rfl,⟨nd,rfl⟩⟩)|(go_at_call 76;(with_reducible refine (impl_cmdOk.calls A8.out).mono ?_);rintro e w35 ⟨rfl,hb⟩;replace BK411:=bK BK411 hb;replace HB:=spS HB hb;(try clear hb);have hcz36_0:=fun i_=>blk_cell BK411.out i_;have hfz36_0:=fun i_=>blk_frozen BK411.out i_)|(go_at_call 77;(with_reducible refine (impl_BlkOk.calls ?s1 ?s2 A10.out).mono ?_);(case s1=>exact cB HR0_24 HB);(case s2=>exact HC0_24.out);rintro e w37 ⟨rfl,hb⟩;replace BK411:=bK BK411 hb;replace HB:=spS HB hb;(try clear hb)))
      go_ret
      exact rZ (pS HB.out)
    ·replace c9:=Bool.eq_false_iff.mpr c9;subst c9
     rw [if_neg nFT] at H
     obtain rfl:=Option.some.inj H
     go_enter Try.func19,Try.ntmps19
     go_wp2_with (first|((with_reducible refine gLg rfl (by assumption) ?_);refine ldV ?_)|((with_reducible refine gSt rfl (by assumption) ?_);refine stV ?_)|((with_reducible refine gT 1 rfl ?_);refine bX 1 ?_;intro gb411 hg w38 hbox hb;have BK411:=mA hbox;have GW411:=gbpB HB hg;have GE411:=gbpB HB hg;replace HB:=spB HB hb;clear hb hbox hg;have hcz39_0:=fun i_=>blk_cell BK411.out i_;have hfz39_0:=fun i_=>blk_frozen BK411.out i_)|((with_reducible refine gT 5 rfl ?_);refine gC (some 5) Try.func74 (impl_in.calls A2.out) ?_;rintro e w' ⟨rfl,⟨nd,rfl⟩⟩;refine ⟨_,rfl,?_⟩)|(go_at_call 75;(with_reducible refine (impl_isPlace.calls A4.out).mono ?_);rintro e w' ⟨rfl,⟨nd,rfl⟩⟩)|(go_at_call 75;(with_reducible refine (impl_isPlace.calls A6.out).mono ?_);rintro e w' ⟨rfl,⟨nd,rfl⟩⟩)|(go_at_call 76;(with_reducible refine (impl_cmdOk.calls A8.out).mono ?_);rintro e w40 ⟨rfl,hb⟩;replace BK411:=bK BK411 hb;replace HB:=spS HB hb;(try clear hb)))
     go_ret
     exact rZ (pS HB.out)
   ·replace c7:=Bool.eq_false_iff.mpr c7;subst c7
    rw [if_neg nFT] at H
    obtain rfl:=Option.some.inj H
    go_enter Try.func19,Try.ntmps19
    go_wp2_with (first|((with_reducible refine gLg rfl (by assumption) ?_);refine ldV ?_)|((with_reducible refine gSt rfl (by assumption) ?_);refine stV ?_)|((with_reducible refine gT 1 rfl ?_);refine bX 1 ?_;intro gb411 hg w41 hbox hb;have BK411:=mA hbox;have GW411:=gbpB HB hg;have GE411:=gbpB HB hg;replace HB:=spB HB hb;clear hb hbox hg;have hcz42_0:=fun i_=>blk_cell BK411.out i_;have hfz42_0:=fun i_=>blk_frozen BK411.out i_)|((with_reducible refine gT 5 rfl ?_);refine gC (some 5) Try.func74 (impl_in.calls A2.out) ?_;rintro e w' ⟨rfl,⟨nd,rfl⟩⟩;refine ⟨_,rfl,?_⟩)|(go_at_call 75;(with_reducible refine (impl_isPlace.calls A4.out).mono ?_);rintro e w' ⟨rfl,⟨nd,rfl⟩⟩)|(go_at_call 75;(with_reducible refine (impl_isPlace.calls A6.out).mono ?_);rintro e w' ⟨rfl,⟨nd,rfl⟩⟩))
    go_ret
    exact rZ (pS HB.out)
  ·replace c5:=Bool.eq_false_iff.mpr c5;subst c5
   rw [if_neg nFT] at H
   obtain rfl:=Option.some.inj H
   go_enter Try.func19,Try.ntmps19
   go_wp2_with (first|((with_reducible refine gLg rfl (by assumption) ?_);refine ldV ?_)|((with_reducible refine gSt rfl (by assumption) ?_);refine stV ?_)|((with_reducible refine gT 1 rfl ?_);refine bX 1 ?_;intro gb411 hg w43 hbox hb;have BK411:=mA hbox;have GW411:=gbpB HB hg;have GE411:=gbpB HB hg;replace HB:=spB HB hb;clear hb hbox hg;have hcz44_0:=fun i_=>blk_cell BK411.out i_;have hfz44_0:=fun i_=>blk_frozen BK411.out i_)|((with_reducible refine gT 5 rfl ?_);refine gC (some 5) Try.func74 (impl_in.calls A2.out) ?_;rintro e w' ⟨rfl,⟨nd,rfl⟩⟩;refine ⟨_,rfl,?_⟩)|(go_at_call 75;(with_reducible refine (impl_isPlace.calls A4.out).mono ?_);rintro e w' ⟨rfl,⟨nd,rfl⟩⟩))
   go_ret
   exact rZ (pS HB.out)
 ·replace c3:=Bool.eq_false_iff.mpr c3;subst c3
  rw [if_neg nFT] at H
  obtain rfl:=Option.some.inj H
  go_enter Try.func19,Try.ntmps19
  go_wp2_with (first|((with_reducible refine gLg rfl (by assumption) ?_);refine ldV ?_)|((with_reducible refine gSt rfl (by assumption) ?_);refine stV ?_)|((with_reducible refine gT 1 rfl ?_);refine bX 1 ?_;intro gb411 hg w45 hbox hb;have BK411:=mA hbox;have GW411:=gbpB HB hg;have GE411:=gbpB HB hg;replace HB:=spB HB hb;clear hb hbox hg;have hcz46_0:=fun i_=>blk_cell BK411.out i_;have hfz46_0:=fun i_=>blk_frozen BK411.out i_)|((with_reducible refine gT 5 rfl ?_);refine gC (some 5) Try.func74 (impl_in.calls A2.out) ?_;rintro e w' ⟨rfl,⟨nd,rfl⟩⟩;refine ⟨_,rfl,?_⟩))
  go_ret
  exact rZ (pS HB.out)
/-! ### impl_paperOk: function 88 -/
def impl_paperOk.f (k : Nat) (a0_0 a0_1 a0_2 a0_3 a0_4 a0_5 a0_6 a0_7 a0_8 a0_9 a0_10 a0_11 : Int) : Option (Bool) := (impl_in.f a0_0 1 60).bind fun t423 => (if t423 = true then ((impl_in.f a0_1 1 99999).bind fun t424 => (if t424 = true then ((impl_cmdOk.f k a0_2 a0_3 a0_4 a0_5 a0_6 a0_7 a0_8 a0_9 a0_10 a0_11).bind fun t425 => (some t425)) else (some false))) else (some false))
set_option maxHeartbeats 8000000 in
set_option maxRecDepth 100000 in
theorem impl_paperOk.calls {k : Nat} {a0_0 a0_1 a0_2 a0_3 a0_4 a0_5 a0_6 a0_7 a0_8 a0_9 a0_10 a0_11 : Int} {r : Bool} {w : World} (h : impl_paperOk.f k a0_0 a0_1 a0_2 a0_3 a0_4 a0_5 a0_6 a0_7 a0_8 a0_9 a0_10 a0_11 = some r) :
  Calls Try.prog 88 #[.agg #[.int .i64 a0_0,.int .i64 a0_1,.int .i64 a0_2,.int .i64 a0_3,.int .i64 a0_4,.int .i64 a0_5,.int .i64 a0_6,.int .i64 a0_7,.int .i64 a0_8,.int .i64 a0_9,.int .i64 a0_10,.int .i64 a0_11]] w fun e w'=>e=.returned (.bool r)∧Below w.heap.size w w':=by
 have hu64:=Try.underlying64;have hu24:=Try.underlying24;have HB:=mA (Below.refl w.heap.size w);have H:((impl_in.f a0_0 1 60).bind fun t423=>(if t423=true then ((impl_in.f a0_1 1 99999).bind fun t424=>(if t424=true then ((impl_cmdOk.f k a0_2 a0_3 a0_4 a0_5 a0_6 a0_7 a0_8 a0_9 a0_10 a0_11).bind fun t425=>(some t425)) else (some false))) else (some false)))=some r:=h;clear h;obtain ⟨t423,A2,H⟩:=bI H;(try dsimp only at H)
 by_cases c3:t423=true
 ·subst c3;rw [if_pos rfl] at H;obtain ⟨t424,A4,H⟩:=bI H;(try dsimp only at H)
  by_cases c5:t424=true
  ·subst c5;rw [if_pos rfl] at H;obtain ⟨t425,A6,H⟩:=bI H;(try dsimp only at H);obtain rfl:=Option.some.inj H
   go_enter Try.func88,Try.ntmps88
   go_wp2_with (first|((with_reducible refine gLg rfl (by assumption) ?_);refine ldV ?_)|((with_reducible refine gSt rfl (by assumption) ?_);refine stV ?_)|((with_reducible refine gT 1 rfl ?_);refine bX 1 ?_;intro gb422 hg w7 hbox hb;have BK422:=mA hbox;have GW422:=gbpB HB hg;have GE422:=gbpB HB hg;replace HB:=spB HB hb;clear hb hbox hg;have hcz8_0:=fun i_=>blk_cell BK422.out i_;have hfz8_0:=fun i_=>blk_frozen BK422.out i_)|((with_reducible refine gT 5 rfl ?_);refine gC (some 5) Try.func74 (impl_in.calls A2.out) ?_;rintro e w' ⟨rfl,⟨nd,rfl⟩⟩;refine ⟨_,rfl,?_⟩)|(go_at_call 74;(with_reducible refine (impl_in.calls A4.out).mono ?_);rintro e w' ⟨rfl,⟨nd,rfl⟩⟩)|(go_at_call 76;(with_reducible refine (impl_cmdOk.calls A6.out).mono ?_);rintro e w9 ⟨rfl,hb⟩;replace BK422:=bK BK422 hb;replace HB:=spS HB hb;(try clear hb)))
   go_ret
   exact rZ (pS HB.out)
  ·replace c5:=Bool.eq_false_iff.mpr c5;subst c5
   rw [if_neg nFT] at H
   obtain rfl:=Option.some.inj H
   go_enter Try.func88,Try.ntmps88
   go_wp2_with (first|((with_reducible refine gLg rfl (by assumption) ?_);refine ldV ?_)|((with_reducible refine gSt rfl (by assumption) ?_);refine stV ?_)|((with_reducible refine gT 1 rfl ?_);refine bX 1 ?_;intro gb422 hg w10 hbox hb;have BK422:=mA hbox;have GW422:=gbpB HB hg;have GE422:=gbpB HB hg;replace HB:=spB HB hb;clear hb hbox hg;have hcz11_0:=fun i_=>blk_cell BK422.out i_;have hfz11_0:=fun i_=>blk_frozen BK422.out i_)|((with_reducible refine gT 5 rfl ?_);refine gC (some 5) Try.func74 (impl_in.calls A2.out) ?_;rintro e w' ⟨rfl,⟨nd,rfl⟩⟩;refine ⟨_,rfl,?_⟩)|(go_at_call 74;(with_reducible refine (impl_in.calls A4.out).mono ?_);rintro e w' ⟨rfl,⟨nd,rfl⟩⟩))
   go_ret
   exact rZ (pS HB.out)
 ·replace c3:=Bool.eq_false_iff.mpr c3;subst c3
  rw [if_neg nFT] at H
  obtain rfl:=Option.some.inj H
  go_enter Try.func88,Try.ntmps88
  go_wp2_with (first|((with_reducible refine gLg rfl (by assumption) ?_);refine ldV ?_)|((with_reducible refine gSt rfl (by assumption) ?_);refine stV ?_)|((with_reducible refine gT 1 rfl ?_);refine bX 1 ?_;intro gb422 hg w12 hbox hb;have BK422:=mA hbox;have GW422:=gbpB HB hg;have GE422:=gbpB HB hg;replace HB:=spB HB hb;clear hb hbox hg;have hcz13_0:=fun i_=>blk_cell BK422.out i_;have hfz13_0:=fun i_=>blk_frozen BK422.out i_)|((with_reducible refine gT 5 rfl ?_);refine gC (some 5) Try.func74 (impl_in.calls A2.out) ?_;rintro e w' ⟨rfl,⟨nd,rfl⟩⟩;refine ⟨_,rfl,?_⟩))
  go_ret
  exact rZ (pS HB.out)
/-! ### impl_SynVoterOk: function 28 -/
def impl_SynVoterOk.l0 : Nat → List (S64) → Int → Int → Int → List (S64) → Option (Bool)
 | 0,_,_,_,_,_=>none
 | k+1,x6,x7,x8,x427000,x427001=>if x8<x7 then (if 0≤x8 then (if x8<(x6.length:Int) then ((impl_paperOk.f k ((rd_T64 x6 x8).f0) ((rd_T64 x6 x8).f1) ((rd_T64 x6 x8).f2.f0) ((rd_T64 x6 x8).f2.f1) ((rd_T64 x6 x8).f2.f2) ((rd_T64 x6 x8).f2.f3) ((rd_T64 x6 x8).f2.f4) ((rd_T64 x6 x8).f2.f5) ((rd_T64 x6 x8).f2.f6) ((rd_T64 x6 x8).f2.f7) ((rd_T64 x6 x8).f2.f8) ((rd_T64 x6 x8).f2.f9)).bind fun t429=>(if t429=true then (if ((rd_T64 x6 x8).f1) > x427000 then (some false) else (if x8 > 0 then (if 0≤(wrap64 (x8 - 1)) then (if (wrap64 (x8 - 1))<(x427001.length:Int) then (if ((rd_T64 x427001 (wrap64 (x8 - 1))).f0) ≥ ((rd_T64 x6 x8).f0) then (some false) else (impl_SynVoterOk.l0 k x6 x7 (wrap64 (x8+1)) x427000 x427001)) else (none)) else (none)) else (impl_SynVoterOk.l0 k x6 x7 (wrap64 (x8+1)) x427000 x427001))) else (some false))) else (none)) else (none)) else ((impl_in.f x427000 0 99999).bind fun t431=>(if t431=true then (some (decide ((x427001.length:Int)≤60))) else (some false)))
def impl_SynVoterOk.f (k : Nat) (a0_0 : Int) (l0_1 : List (S64)) : Option (Bool) := impl_SynVoterOk.l0 k l0_1 (l0_1.length : Int) 0 a0_0 l0_1
def impl_SynVoterOk.T4 : Bool × List (List Nat × List Nat) := (true, [([], []), ([0], [0]), ([1], [1]), ([2, 1], [2]), ([3], [3]), ([4, 3], [3, 4]), ([3], [3]), ([6, 3], [3, 6]), ([5, 7, 3], [3, 5, 7]), ([3, 8], [3, 8]), ([9, 3], [9]), ([10], [10]), ([11, 10], [10, 11]), ([12, 10, 10], [10, 12]), ([13], [13]), ([14, 13], [13, 14]), ([13], [13]), ([16, 13], [13, 16]), ([15, 17, 13], [13, 15, 17]), ([18, 13], [13, 18]), ([19, 13], [13, 19]), ([13], [13]), ([21, 13], [13, 21]), ([20, 22, 13], [13, 20, 22]), ([13, 23, 10], [10, 13, 23]), ([10, 24], [10, 24])])
def impl_SynVoterOk.B4 : List Nat := [0, 1, 3, 7, 15, 31, 15, 79, 255, 511, 1023, 2047, 4095, 8191, 16383, 32767, 16383, 81919, 262143, 524287, 1048575, 16383, 2113535, 8388607, 16777215, 33554431]
theorem impl_SynVoterOk.tab4 : rtab .any (opsOf Try.f28 4) = impl_SynVoterOk.T4 := by kernel_rfl
theorem impl_SynVoterOk.bits4 : waitsOk impl_SynVoterOk.T4.2 impl_SynVoterOk.B4 = true := by kernel_rfl
set_option maxHeartbeats 8000000 in
set_option maxRecDepth 100000 in
theorem impl_SynVoterOk.calls {k : Nat} {a0_0 : Int} {A0_1 : Option Addr} {c0_1 : Nat} {l0_1 : List (S64)} {r : Bool} {w : World} (hr0_1 : Kd.C k64 w A0_1 l0_1.length l0_1) (hc0_1 : l0_1.length ≤ c0_1) (h : impl_SynVoterOk.f k a0_0 l0_1 = some r) :
  Calls Try.prog 28 #[.agg #[.int .i64 a0_0,.slice A0_1 l0_1.length c0_1]] w fun e w'=>e=.returned (.bool r)∧Below w.heap.size w w':=by
 have hu52:=Try.underlying52;have hu64:=Try.underlying64;have HR0_1:=mA hr0_1;have HC0_1:=mA hc0_1;clear hr0_1 hc0_1;have HB:=mA (Below.refl w.heap.size w);have H:(impl_SynVoterOk.l0 k l0_1 (l0_1.length:Int) 0 a0_0 l0_1)=some r:=h;clear h;have H':=mA H;clear H
 go_enter Try.func28,Try.ntmps28
 go_wp2_with (first|((with_reducible refine gLg rfl (by assumption) ?_);first|refine ldW ?_|refine ldX ?_)|((with_reducible refine gLg rfl (by assumption) ?_);refine ldV ?_)|((with_reducible refine gSt rfl (by assumption) ?_);refine stV ?_)|((with_reducible refine gT 1 rfl ?_);(try (refine gate_guard (by rfl) ?_;dsimp only));refine bE 1 #[.int .i64 a0_0,.slice A0_1 l0_1.length c0_1] 52 ?_;intro gb426 hg w2 hbox hb;have BK426:=mA hbox;have GW426:=gbpB HB hg;have GE426:=gbpB HB hg;replace HB:=spB HB hb;clear hb hbox hg;obtain ⟨hcz3_0,hcz3_1,hfz3_0,hfz3_1⟩:=box2 BK426.out))
 go_loopg [8] k (fun kq v8 w'=>∃ (x8_1:Int),v8=.int .i64 x8_1∧Aside0 (impl_SynVoterOk.l0 kq l0_1 (l0_1.length:Int) x8_1 a0_0 l0_1=some r)∧Aside0 (kq≤k)∧Aside0 (w'.heap[gb426]?=some (.cells #[.int .i64 a0_0,(.slice A0_1 l0_1.length c0_1)] 52 (0,0)))∧Aside0 (Below w.heap.size w w'))
 case atStart=>exact ⟨(0),bZ,H',⟨Nat.le_refl _⟩,⟨pK BK426.out⟩,⟨pS HB.out⟩⟩
 case round =>
  clear H'
  (try clear hcz3_0);(try clear hcz3_1);(try clear hfz3_0);(try clear hfz3_1)
  obtain ⟨x8_1,rfl,HA,HK1,BK426,HB⟩:=hrel
  cases gk with
  | zero=>exact absurd HA.out (by simp [impl_SynVoterOk.l0])
  | succ k1 =>
   have H:=HA.out;clear HA;simp only [impl_SynVoterOk.l0] at H
   by_cases c4:x8_1<(l0_1.length:Int)
   ·rw [if_pos c4] at H;have c4b0:decide (x8_1<(l0_1.length:Int))=true:=decide_eq_true c4;clear c4
    by_cases c5:0≤x8_1
    ·rw [if_pos c5] at H;have c5b0:decide (0≤x8_1)=true:=decide_eq_true c5;clear c5
     by_cases c6:x8_1<(l0_1.length:Int)
     ·rw [if_pos c6] at H;have c6b0:decide (x8_1<(l0_1.length:Int))=true:=decide_eq_true c6;clear c6;obtain ⟨t429,A7,H⟩:=bI H;(try dsimp only at H)
      by_cases c8:t429=true
      ·subst c8;rw [if_pos rfl] at H
       by_cases c9:((rd_T64 l0_1 x8_1).f1) > a0_0
       ·rw [if_pos c9] at H;have c9b0:decide (a0_0<((rd_T64 l0_1 x8_1).f1))=true:=decide_eq_true c9;clear c9;obtain rfl:=Option.some.inj H;have p427:0≤(x8_1:Int):=of_decide_eq_true bA;have q427:x8_1<(l0_1.length:Int):=of_decide_eq_true bA;obtain ⟨ad427,e427,hs427⟩:=at_R64 HR0_1.out x8_1 p427 q427;have hx427_0:=RS.hd hs427 rfl;cases e427;replace hx427_0:=hC HB hx427_0;replace hs427:=rS HB hs427;obtain ⟨hx427_1,hx427_2,hx427_3,hx427_4,hx427_5,hx427_6,hx427_7,hx427_8,hx427_9,hx427_10,hx427_11,_⟩:=RS.cs hs427;replace p427:=eq_true p427;replace q427:=eq_true q427
        try go_wp2_with (first|((with_reducible refine gLg rfl (by assumption) ?_);first|refine ldW ?_|refine ldX ?_)|((with_reducible refine gLg rfl (by assumption) ?_);refine ldV ?_)|((with_reducible refine gSt rfl (by assumption) ?_);refine stV ?_)|((with_reducible refine gT 4 rfl ?_);(try (refine gate_guard (by rfl) ?_;dsimp only));refine bJ 4 y64 ?_;intro gb428 hg w10 hbox hb;have BK428:=mA hbox;have GW428:=gbpS HB hg;have GE428:=gbpS HB hg;replace HB:=spS HB hb;have NB426_428:=mA (lN (blk_lt (pK BK426.out)) hg);have hN426_428:=NB426_428.out;have NB428_426:=nS NB426_428;have hN428_426:=NB428_426.out;replace BK426:=bK BK426 hb;clear hb hbox hg;have hcz12_0:=fun i_=>blk_cell BK428.out i_;have hfz12_0:=fun i_=>blk_frozen BK428.out i_))
        generalize hW_:((((((((((((w10.setCell ⟨gb428,0,none⟩ (.int .i64 ((rd_T64 l0_1 x8_1).f0))).setCell ⟨gb428,1,none⟩ (.int .i64 ((rd_T64 l0_1 x8_1).f1))).setCell ⟨gb428,2,none⟩ (.int .i64 ((rd_T64 l0_1 x8_1).f2.f0))).setCell ⟨gb428,3,none⟩ (.int .i64 ((rd_T64 l0_1 x8_1).f2.f1))).setCell ⟨gb428,4,none⟩ (.int .i64 ((rd_T64 l0_1 x8_1).f2.f2))).setCell ⟨gb428,5,none⟩ (.int .i64 ((rd_T64 l0_1 x8_1).f2.f3))).setCell ⟨gb428,6,none⟩ (.int .i64 ((rd_T64 l0_1 x8_1).f2.f4))).setCell ⟨gb428,7,none⟩ (.int .i64 ((rd_T64 l0_1 x8_1).f2.f5))).setCell ⟨gb428,8,none⟩ (.int .i64 ((rd_T64 l0_1 x8_1).f2.f6))).setCell ⟨gb428,9,none⟩ (.int .i64 ((rd_T64 l0_1 x8_1).f2.f7))).setCell ⟨gb428,10,none⟩ (.int .i64 ((rd_T64 l0_1 x8_1).f2.f8))).setCell ⟨gb428,11,none⟩ (.int .i64 ((rd_T64 l0_1 x8_1).f2.f9)))=w13
        have n0_:Aside0 (w13.heap[gb426]?=some (.cells #[.int .i64 a0_0,.slice (some ad427) l0_1.length c0_1] 52 (0,0))):=⟨by rw [← hW_];exact pF BK426.out⟩;have n1_:Aside0 (w13.heap[gb428]?=some (.cells #[.int .i64 ((rd_T64 l0_1 x8_1).f0),.int .i64 ((rd_T64 l0_1 x8_1).f1),.int .i64 ((rd_T64 l0_1 x8_1).f2.f0),.int .i64 ((rd_T64 l0_1 x8_1).f2.f1),.int .i64 ((rd_T64 l0_1 x8_1).f2.f2),.int .i64 ((rd_T64 l0_1 x8_1).f2.f3),.int .i64 ((rd_T64 l0_1 x8_1).f2.f4),.int .i64 ((rd_T64 l0_1 x8_1).f2.f5),.int .i64 ((rd_T64 l0_1 x8_1).f2.f6),.int .i64 ((rd_T64 l0_1 x8_1).f2.f7),.int .i64 ((rd_T64 l0_1 x8_1).f2.f8),.int .i64 ((rd_T64 l0_1 x8_1).f2.f9)] 64 (0,0))):=⟨by rw [← hW_];exact pP BK428⟩;have n2_:Aside0 (Below w.heap.size w w13):=⟨by rw [← hW_];exact pS HB.out⟩
        (try clear BK426);(try clear BK428);(try clear HB);clear hW_
        have BK426:=n0_;have BK428:=n1_;have HB:=n2_;clear n0_ n1_ n2_;replace BK426:=mA (blk_drew BK426.out);replace BK428:=mA (blk_drew BK428.out);replace HB:=mA (below_drew1 HB.out)
        refine start_ (n:=26) (S:=fun w'=>w'.heap[gb428]?=some (.cells #[.int .i64 ((rd_T64 l0_1 x8_1).f0),.int .i64 ((rd_T64 l0_1 x8_1).f1),.int .i64 ((rd_T64 l0_1 x8_1).f2.f0),.int .i64 ((rd_T64 l0_1 x8_1).f2.f1),.int .i64 ((rd_T64 l0_1 x8_1).f2.f2),.int .i64 ((rd_T64 l0_1 x8_1).f2.f3),.int .i64 ((rd_T64 l0_1 x8_1).f2.f4),.int .i64 ((rd_T64 l0_1 x8_1).f2.f5),.int .i64 ((rd_T64 l0_1 x8_1).f2.f6),.int .i64 ((rd_T64 l0_1 x8_1).f2.f7),.int .i64 ((rd_T64 l0_1 x8_1).f2.f8),.int .i64 ((rd_T64 l0_1 x8_1).f2.f9)] 64 (0,0))∧w'.heap[gb426]?=some (.cells #[.int .i64 a0_0,.slice (some ad427) l0_1.length c0_1] 52 (0,0))) (ds:=[]) _ aK rfl rfl ⟨BK428.out,BK426.out⟩ (fun hHeld=>?_);refine with_tabW impl_SynVoterOk.tab4 impl_SynVoterOk.bits4 (fun HT_ HW_=>?_)
        generalize w13.drew=w14 at BK426 BK428 HB hHeld ⊢
        refine qt 0 ?_
        refine qo 1 ?_;intro K hK
        refine gD Try.func88 (impl_paperOk.calls A7.out) ?_
        rintro e w15 ⟨rfl,hb⟩;refine ⟨_,rfl,?_⟩;replace BK426:=bK BK426 hb;replace BK428:=bK BK428 hb;replace HB:=spS HB hb
        (try clear hb)
        refine hK.out _ _ ⟨BK428.out,BK426.out⟩ (fun hHeld=>?_);clear hK K;refine no_ (some 14) ?_;refine qu 2 ?_;refine qu 3 ?_;refine qu 4 ?_;refine qu 6 ?_;refine qt 5 ?_;refine qt 7 ?_;refine qu 8 ?_;refine qu 9 ?_;refine qu 10 ?_;refine qd 11 ?_;refine qd 12 ?_;refine qd 13 ?_;refine qd 14 ?_;refine qd 15 ?_;refine qd 16 ?_;refine qd 17 ?_;refine qd 18 ?_;refine qd 19 ?_;refine qd 20 ?_;refine qd 21 ?_;refine qd 22 ?_;refine qd 23 ?_;refine qd 24 ?_;refine qu 25 ?_;refine qe ?_
        try go_wp2_with (first|((with_reducible refine gLg rfl (by assumption) ?_);first|refine ldW ?_|refine ldX ?_)|((with_reducible refine gLg rfl (by assumption) ?_);refine ldV ?_)|((with_reducible refine gSt rfl (by assumption) ?_);refine stV ?_))
        go_ret
        exact rZ (pS HB.out)
       ·rw [if_neg c9] at H;have c9b0:decide (a0_0<((rd_T64 l0_1 x8_1).f1))=false:=decide_eq_false c9;clear c9
        by_cases c16:x8_1 > 0
        ·rw [if_pos c16] at H;have c16b0:decide (0<x8_1)=true:=decide_eq_true c16;clear c16;obtain ⟨ji17,hji17⟩:∃ j_:Int,(wrap64 (x8_1 - 1))=j_:=⟨_,rfl⟩
         replace H:(if 0≤(ji17) then (if (ji17)<(l0_1.length:Int) then (if ((rd_T64 l0_1 (ji17)).f0) ≥ ((rd_T64 l0_1 x8_1).f0) then (some false) else (impl_SynVoterOk.l0 k1 l0_1 (l0_1.length:Int) (wrap64 (x8_1+1)) a0_0 l0_1)) else (none)) else (none))=some r:=by first|(rw [hji17] at H;exact H)|(simp only [hji17] at H ⊢;exact H)
         (try rw [hji17] at A7)
         have hji17w:(IntKind.i64.wrap (x8_1 - 1))=ji17:=(i64_w _).trans hji17
         by_cases c18:0≤(ji17)
         ·rw [if_pos c18] at H;have c18b0:decide (0≤(ji17))=true:=decide_eq_true c18;clear c18
          by_cases c19:(ji17)<(l0_1.length:Int)
          ·rw [if_pos c19] at H;have c19b0:decide ((ji17)<(l0_1.length:Int))=true:=decide_eq_true c19;clear c19
           by_cases c20:((rd_T64 l0_1 (ji17)).f0) ≥ ((rd_T64 l0_1 x8_1).f0)
           ·rw [if_pos c20] at H;have c20b0:decide (((rd_T64 l0_1 x8_1).f0)≤((rd_T64 l0_1 (ji17)).f0))=true:=decide_eq_true c20;clear c20;obtain rfl:=Option.some.inj H;have p427:0≤(x8_1:Int):=of_decide_eq_true bA;have q427:x8_1<(l0_1.length:Int):=of_decide_eq_true bA;obtain ⟨ad427,e427,hs427⟩:=at_R64 HR0_1.out x8_1 p427 q427;have hx427_0:=RS.hd hs427 rfl;cases e427;replace hx427_0:=hC HB hx427_0;replace hs427:=rS HB hs427;obtain ⟨hx427_1,hx427_2,hx427_3,hx427_4,hx427_5,hx427_6,hx427_7,hx427_8,hx427_9,hx427_10,hx427_11,_⟩:=RS.cs hs427;replace p427:=eq_true p427;replace q427:=eq_true q427
            try go_wp2_with (first|((with_reducible refine gLg rfl (by assumption) ?_);first|refine ldW ?_|refine ldX ?_)|((with_reducible refine gLg rfl (by assumption) ?_);refine ldV ?_)|((with_reducible refine gSt rfl (by assumption) ?_);refine stV ?_)|((with_reducible refine gT 4 rfl ?_);(try (refine gate_guard (by rfl) ?_;dsimp only));refine bJ 4 y64 ?_;intro gb428 hg w21 hbox hb;have BK428:=mA hbox;have GW428:=gbpS HB hg;have GE428:=gbpS HB hg;replace HB:=spS HB hb;have NB426_428:=mA (lN (blk_lt (pK BK426.out)) hg);have hN426_428:=NB426_428.out;have NB428_426:=nS NB426_428;have hN428_426:=NB428_426.out;replace BK426:=bK BK426 hb;clear hb hbox hg;have hcz23_0:=fun i_=>blk_cell BK428.out i_;have hfz23_0:=fun i_=>blk_frozen BK428.out i_))
            generalize hW_:((((((((((((w21.setCell ⟨gb428,0,none⟩ (.int .i64 ((rd_T64 l0_1 x8_1).f0))).setCell ⟨gb428,1,none⟩ (.int .i64 ((rd_T64 l0_1 x8_1).f1))).setCell ⟨gb428,2,none⟩ (.int .i64 ((rd_T64 l0_1 x8_1).f2.f0))).setCell ⟨gb428,3,none⟩ (.int .i64 ((rd_T64 l0_1 x8_1).f2.f1))).setCell ⟨gb428,4,none⟩ (.int .i64 ((rd_T64 l0_1 x8_1).f2.f2))).setCell ⟨gb428,5,none⟩ (.int .i64 ((rd_T64 l0_1 x8_1).f2.f3))).setCell ⟨gb428,6,none⟩ (.int .i64 ((rd_T64 l0_1 x8_1).f2.f4))).setCell ⟨gb428,7,none⟩ (.int .i64 ((rd_T64 l0_1 x8_1).f2.f5))).setCell ⟨gb428,8,none⟩ (.int .i64 ((rd_T64 l0_1 x8_1).f2.f6))).setCell ⟨gb428,9,none⟩ (.int .i64 ((rd_T64 l0_1 x8_1).f2.f7))).setCell ⟨gb428,10,none⟩ (.int .i64 ((rd_T64 l0_1 x8_1).f2.f8))).setCell ⟨gb428,11,none⟩ (.int .i64 ((rd_T64 l0_1 x8_1).f2.f9)))=w24
            have n0_:Aside0 (w24.heap[gb426]?=some (.cells #[.int .i64 a0_0,.slice (some ad427) l0_1.length c0_1] 52 (0,0))):=⟨by rw [← hW_];exact pF BK426.out⟩;have n1_:Aside0 (w24.heap[gb428]?=some (.cells #[.int .i64 ((rd_T64 l0_1 x8_1).f0),.int .i64 ((rd_T64 l0_1 x8_1).f1),.int .i64 ((rd_T64 l0_1 x8_1).f2.f0),.int .i64 ((rd_T64 l0_1 x8_1).f2.f1),.int .i64 ((rd_T64 l0_1 x8_1).f2.f2),.int .i64 ((rd_T64 l0_1 x8_1).f2.f3),.int .i64 ((rd_T64 l0_1 x8_1).f2.f4),.int .i64 ((rd_T64 l0_1 x8_1).f2.f5),.int .i64 ((rd_T64 l0_1 x8_1).f2.f6),.int .i64 ((rd_T64 l0_1 x8_1).f2.f7),.int .i64 ((rd_T64 l0_1 x8_1).f2.f8),.int .i64 ((rd_T64 l0_1 x8_1).f2.f9)] 64 (0,0))):=⟨by rw [← hW_];exact pP BK428⟩;have n2_:Aside0 (Below w.heap.size w w24):=⟨by rw [← hW_];exact pS HB.out⟩
            (try clear BK426);(try clear BK428);(try clear HB);clear hW_
            have BK426:=n0_;have BK428:=n1_;have HB:=n2_;clear n0_ n1_ n2_;replace BK426:=mA (blk_drew BK426.out);replace BK428:=mA (blk_drew BK428.out);replace HB:=mA (below_drew1 HB.out);have p430:0≤((ji17):Int):=of_decide_eq_true bA;have q430:(ji17)<(l0_1.length:Int):=of_decide_eq_true bA;obtain ⟨ad430,e430,hs430⟩:=at_R64 HR0_1.out (ji17) p430 q430
            obtain rfl:ad427=ad430:=(by injection e430)
            replace p430:=eq_true p430;replace q430:=eq_true q430
            refine start_ (n:=26) (S:=fun w'=>w'.cell? ⟨gb428,0,none⟩=some (.int .i64 ((rd_T64 l0_1 x8_1).f0))∧w'.cell? ⟨gb428,1,none⟩=some (.int .i64 ((rd_T64 l0_1 x8_1).f1))∧w'.cell? ⟨gb428,2,none⟩=some (.int .i64 ((rd_T64 l0_1 x8_1).f2.f0))∧w'.cell? ⟨gb428,3,none⟩=some (.int .i64 ((rd_T64 l0_1 x8_1).f2.f1))∧w'.cell? ⟨gb428,4,none⟩=some (.int .i64 ((rd_T64 l0_1 x8_1).f2.f2))∧w'.cell? ⟨gb428,5,none⟩=some (.int .i64 ((rd_T64 l0_1 x8_1).f2.f3))∧w'.cell? ⟨gb428,6,none⟩=some (.int .i64 ((rd_T64 l0_1 x8_1).f2.f4))∧w'.cell? ⟨gb428,7,none⟩=some (.int .i64 ((rd_T64 l0_1 x8_1).f2.f5))∧w'.cell? ⟨gb428,8,none⟩=some (.int .i64 ((rd_T64 l0_1 x8_1).f2.f6))∧w'.cell? ⟨gb428,9,none⟩=some (.int .i64 ((rd_T64 l0_1 x8_1).f2.f7))∧w'.cell? ⟨gb428,10,none⟩=some (.int .i64 ((rd_T64 l0_1 x8_1).f2.f8))∧w'.cell? ⟨gb428,11,none⟩=some (.int .i64 ((rd_T64 l0_1 x8_1).f2.f9))∧w'.cell? ⟨gb426,0,none⟩=some (.int .i64 a0_0)∧w'.cell? ⟨gb426,1,none⟩=some (.slice (some ad427) l0_1.length c0_1)∧RS w' (ad427.add (((ji17)).toNat * 12)) (d64 (rd_T64 l0_1 (ji17)))) (ds:=[]) _ aK rfl rfl ⟨eC BK428 0,eC BK428 1,eC BK428 2,eC BK428 3,eC BK428 4,eC BK428 5,eC BK428 6,eC BK428 7,eC BK428 8,eC BK428 9,eC BK428 10,eC BK428 11,eC BK426 0,eC BK426 1,rS HB hs430⟩ (fun hHeld=>?_);refine with_tabW impl_SynVoterOk.tab4 impl_SynVoterOk.bits4 (fun HT_ HW_=>?_)
            generalize w24.drew=w25 at BK426 BK428 HB hHeld ⊢
            refine qt 0 ?_
            refine qo 1 ?_;intro K hK
            refine gD Try.func88 (impl_paperOk.calls A7.out) ?_
            rintro e w26 ⟨rfl,hb⟩;refine ⟨_,rfl,?_⟩;replace BK426:=bK BK426 hb;replace BK428:=bK BK428 hb;replace HB:=spS HB hb
            (try clear hb)
            refine hK.out _ _ ⟨eC BK428 0,eC BK428 1,eC BK428 2,eC BK428 3,eC BK428 4,eC BK428 5,eC BK428 6,eC BK428 7,eC BK428 8,eC BK428 9,eC BK428 10,eC BK428 11,eC BK426 0,eC BK426 1,rS HB hs430⟩ (fun hHeld=>?_);clear hK K;refine no_ (some 14) ?_;refine qu 2 ?_;refine qu 3 ?_;refine qu 4 ?_;refine qu 6 ?_;refine qt 5 ?_;refine qt 7 ?_;refine qu 8 ?_;refine qu 9 ?_;refine qu 10 ?_;refine qu 11 ?_;refine qu 12 ?_;refine qu 13 ?_;refine qu 14 ?_;refine qu 16 ?_;refine qu 17 ?_;refine qu 21 ?_;refine qt 15 ?_;refine qu 18 ?_;refine qu 19 ?_;refine qt 20 ?_;refine qt 22 ?_;refine qu 23 ?_;refine qu 24 ?_;refine qu 25 ?_;refine qe ?_
            try go_wp2_with (first|((with_reducible refine gLg rfl (by assumption) ?_);first|refine ldW ?_|refine ldX ?_)|((with_reducible refine gLg rfl (by assumption) ?_);refine ldV ?_)|((with_reducible refine gSt rfl (by assumption) ?_);refine stV ?_))
            go_ret
            exact ⟨by first|rfl|(simp [errW_none,errW_some]<;>rfl)|(simp only [← hji17];first|rfl|(simp [errW_none,errW_some]<;>rfl))|(simp [*,errW_none,errW_some]<;>rfl),pS HB.out⟩
           ·rw [if_neg c20] at H;have c20b0:decide (((rd_T64 l0_1 x8_1).f0)≤((rd_T64 l0_1 (ji17)).f0))=false:=decide_eq_false c20;clear c20;have H':=mA H;clear H;have p427:0≤(x8_1:Int):=of_decide_eq_true bA;have q427:x8_1<(l0_1.length:Int):=of_decide_eq_true bA;obtain ⟨ad427,e427,hs427⟩:=at_R64 HR0_1.out x8_1 p427 q427;have hx427_0:=RS.hd hs427 rfl;cases e427;replace hx427_0:=hC HB hx427_0;replace hs427:=rS HB hs427;obtain ⟨hx427_1,hx427_2,hx427_3,hx427_4,hx427_5,hx427_6,hx427_7,hx427_8,hx427_9,hx427_10,hx427_11,_⟩:=RS.cs hs427;replace p427:=eq_true p427;replace q427:=eq_true q427
            try go_wp2_with (first|((with_reducible refine gLg rfl (by assumption) ?_);first|refine ldW ?_|refine ldX ?_)|((with_reducible refine gLg rfl (by assumption) ?_);refine ldV ?_)|((with_reducible refine gSt rfl (by assumption) ?_);refine stV ?_)|((with_reducible refine gT 4 rfl ?_);(try (refine gate_guard (by rfl) ?_;dsimp only));refine bJ 4 y64 ?_;intro gb428 hg w27 hbox hb;have BK428:=mA hbox;have GW428:=gbpS HB hg;have GE428:=gbpS HB hg;replace HB:=spS HB hb;have NB426_428:=mA (lN (blk_lt (pK BK426.out)) hg);have hN426_428:=NB426_428.out;have NB428_426:=nS NB426_428;have hN428_426:=NB428_426.out;replace BK426:=bK BK426 hb;clear hb hbox hg;have hcz29_0:=fun i_=>blk_cell BK428.out i_;have hfz29_0:=fun i_=>blk_frozen BK428.out i_))
            generalize hW_:((((((((((((w27.setCell ⟨gb428,0,none⟩ (.int .i64 ((rd_T64 l0_1 x8_1).f0))).setCell ⟨gb428,1,none⟩ (.int .i64 ((rd_T64 l0_1 x8_1).f1))).setCell ⟨gb428,2,none⟩ (.int .i64 ((rd_T64 l0_1 x8_1).f2.f0))).setCell ⟨gb428,3,none⟩ (.int .i64 ((rd_T64 l0_1 x8_1).f2.f1))).setCell ⟨gb428,4,none⟩ (.int .i64 ((rd_T64 l0_1 x8_1).f2.f2))).setCell ⟨gb428,5,none⟩ (.int .i64 ((rd_T64 l0_1 x8_1).f2.f3))).setCell ⟨gb428,6,none⟩ (.int .i64 ((rd_T64 l0_1 x8_1).f2.f4))).setCell ⟨gb428,7,none⟩ (.int .i64 ((rd_T64 l0_1 x8_1).f2.f5))).setCell ⟨gb428,8,none⟩ (.int .i64 ((rd_T64 l0_1 x8_1).f2.f6))).setCell ⟨gb428,9,none⟩ (.int .i64 ((rd_T64 l0_1 x8_1).f2.f7))).setCell ⟨gb428,10,none⟩ (.int .i64 ((rd_T64 l0_1 x8_1).f2.f8))).setCell ⟨gb428,11,none⟩ (.int .i64 ((rd_T64 l0_1 x8_1).f2.f9)))=w30
            have n0_:Aside0 (w30.heap[gb426]?=some (.cells #[.int .i64 a0_0,.slice (some ad427) l0_1.length c0_1] 52 (0,0))):=⟨by rw [← hW_];exact pF BK426.out⟩;have n1_:Aside0 (w30.heap[gb428]?=some (.cells #[.int .i64 ((rd_T64 l0_1 x8_1).f0),.int .i64 ((rd_T64 l0_1 x8_1).f1),.int .i64 ((rd_T64 l0_1 x8_1).f2.f0),.int .i64 ((rd_T64 l0_1 x8_1).f2.f1),.int .i64 ((rd_T64 l0_1 x8_1).f2.f2),.int .i64 ((rd_T64 l0_1 x8_1).f2.f3),.int .i64 ((rd_T64 l0_1 x8_1).f2.f4),.int .i64 ((rd_T64 l0_1 x8_1).f2.f5),.int .i64 ((rd_T64 l0_1 x8_1).f2.f6),.int .i64 ((rd_T64 l0_1 x8_1).f2.f7),.int .i64 ((rd_T64 l0_1 x8_1).f2.f8),.int .i64 ((rd_T64 l0_1 x8_1).f2.f9)] 64 (0,0))):=⟨by rw [← hW_];exact pP BK428⟩;have n2_:Aside0 (Below w.heap.size w w30):=⟨by rw [← hW_];exact pS HB.out⟩
            (try clear BK426);(try clear BK428);(try clear HB);clear hW_
            have BK426:=n0_;have BK428:=n1_;have HB:=n2_;clear n0_ n1_ n2_;replace BK426:=mA (blk_drew BK426.out);replace BK428:=mA (blk_drew BK428.out);replace HB:=mA (below_drew1 HB.out);have p430:0≤((ji17):Int):=of_decide_eq_true bA;have q430:(ji17)<(l0_1.length:Int):=of_decide_eq_true bA;obtain ⟨ad430,e430,hs430⟩:=at_R64 HR0_1.out (ji17) p430 q430
            obtain rfl:ad427=ad430:=(by injection e430)
            replace p430:=eq_true p430;replace q430:=eq_true q430
            refine start_ (n:=26) (S:=fun w'=>w'.cell? ⟨gb428,0,none⟩=some (.int .i64 ((rd_T64 l0_1 x8_1).f0))∧w'.cell? ⟨gb428,1,none⟩=some (.int .i64 ((rd_T64 l0_1 x8_1).f1))∧w'.cell? ⟨gb428,2,none⟩=some (.int .i64 ((rd_T64 l0_1 x8_1).f2.f0))∧w'.cell? ⟨gb428,3,none⟩=some (.int .i64 ((rd_T64 l0_1 x8_1).f2.f1))∧w'.cell? ⟨gb428,4,none⟩=some (.int .i64 ((rd_T64 l0_1 x8_1).f2.f2))∧w'.cell? ⟨gb428,5,none⟩=some (.int .i64 ((rd_T64 l0_1 x8_1).f2.f3))∧w'.cell? ⟨gb428,6,none⟩=some (.int .i64 ((rd_T64 l0_1 x8_1).f2.f4))∧w'.cell? ⟨gb428,7,none⟩=some (.int .i64 ((rd_T64 l0_1 x8_1).f2.f5))∧w'.cell? ⟨gb428,8,none⟩=some (.int .i64 ((rd_T64 l0_1 x8_1).f2.f6))∧w'.cell? ⟨gb428,9,none⟩=some (.int .i64 ((rd_T64 l0_1 x8_1).f2.f7))∧w'.cell? ⟨gb428,10,none⟩=some (.int .i64 ((rd_T64 l0_1 x8_1).f2.f8))∧w'.cell? ⟨gb428,11,none⟩=some (.int .i64 ((rd_T64 l0_1 x8_1).f2.f9))∧w'.cell? ⟨gb426,0,none⟩=some (.int .i64 a0_0)∧w'.cell? ⟨gb426,1,none⟩=some (.slice (some ad427) l0_1.length c0_1)∧RS w' (ad427.add (((ji17)).toNat * 12)) (d64 (rd_T64 l0_1 (ji17)))) (ds:=[]) _ aK rfl rfl ⟨eC BK428 0,eC BK428 1,eC BK428 2,eC BK428 3,eC BK428 4,eC BK428 5,eC BK428 6,eC BK428 7,eC BK428 8,eC BK428 9,eC BK428 10,eC BK428 11,eC BK426 0,eC BK426 1,rS HB hs430⟩ (fun hHeld=>?_);refine with_tabW impl_SynVoterOk.tab4 impl_SynVoterOk.bits4 (fun HT_ HW_=>?_)
            generalize w30.drew=w31 at BK426 BK428 HB hHeld ⊢
            refine qt 0 ?_
            refine qo 1 ?_;intro K hK
            refine gD Try.func88 (impl_paperOk.calls A7.out) ?_
            rintro e w32 ⟨rfl,hb⟩;refine ⟨_,rfl,?_⟩;replace BK426:=bK BK426 hb;replace BK428:=bK BK428 hb;replace HB:=spS HB hb
            (try clear hb)
            refine hK.out _ _ ⟨eC BK428 0,eC BK428 1,eC BK428 2,eC BK428 3,eC BK428 4,eC BK428 5,eC BK428 6,eC BK428 7,eC BK428 8,eC BK428 9,eC BK428 10,eC BK428 11,eC BK426 0,eC BK426 1,rS HB hs430⟩ (fun hHeld=>?_);clear hK K;refine no_ (some 14) ?_;refine qu 2 ?_;refine qu 3 ?_;refine qu 4 ?_;refine qu 6 ?_;refine qt 5 ?_;refine qt 7 ?_;refine qu 8 ?_;refine qu 9 ?_;refine qu 10 ?_;refine qu 11 ?_;refine qu 12 ?_;refine qu 13 ?_;refine qu 14 ?_;refine qu 16 ?_;refine qu 17 ?_;refine qu 21 ?_;refine qt 15 ?_;refine qu 18 ?_;refine qu 19 ?_;refine qt 20 ?_;refine qt 22 ?_;refine qu 23 ?_;refine qu 24 ?_;refine qu 25 ?_;refine qe ?_
            try go_wp2_with (first|((with_reducible refine gLg rfl (by assumption) ?_);first|refine ldW ?_|refine ldX ?_)|((with_reducible refine gLg rfl (by assumption) ?_);refine ldV ?_)|((with_reducible refine gSt rfl (by assumption) ?_);refine stV ?_))
            go_roundg k1
            case measure=>have:=HK1.out;omega
            case rel=>exact ⟨(wrap64 (x8_1+1)),bZ,H',⟨by have:=HK1.out;omega⟩,⟨pK BK426.out⟩,⟨pS HB.out⟩⟩
          ·rw [if_neg c19] at H
           exact absurd H (by simp)
         ·rw [if_neg c18] at H
          exact absurd H (by simp)
        ·rw [if_neg c16] at H;have c16b0:decide (0<x8_1)=false:=decide_eq_false c16;clear c16;have H':=mA H;clear H;have p427:0≤(x8_1:Int):=of_decide_eq_true bA;have q427:x8_1<(l0_1.length:Int):=of_decide_eq_true bA;obtain ⟨ad427,e427,hs427⟩:=at_R64 HR0_1.out x8_1 p427 q427;have hx427_0:=RS.hd hs427 rfl;cases e427;replace hx427_0:=hC HB hx427_0;replace hs427:=rS HB hs427;obtain ⟨hx427_1,hx427_2,hx427_3,hx427_4,hx427_5,hx427_6,hx427_7,hx427_8,hx427_9,hx427_10,hx427_11,_⟩:=RS.cs hs427;replace p427:=eq_true p427;replace q427:=eq_true q427
         try go_wp2_with (first|((with_reducible refine gLg rfl (by assumption) ?_);first|refine ldW ?_|refine ldX ?_)|((with_reducible refine gLg rfl (by assumption) ?_);refine ldV ?_)|((with_reducible refine gSt rfl (by assumption) ?_);refine stV ?_)|((with_reducible refine gT 4 rfl ?_);(try (refine gate_guard (by rfl) ?_;dsimp only));refine bJ 4 y64 ?_;intro gb428 hg w33 hbox hb;have BK428:=mA hbox;have GW428:=gbpS HB hg;have GE428:=gbpS HB hg;replace HB:=spS HB hb;have NB426_428:=mA (lN (blk_lt (pK BK426.out)) hg);have hN426_428:=NB426_428.out;have NB428_426:=nS NB426_428;have hN428_426:=NB428_426.out;replace BK426:=bK BK426 hb;clear hb hbox hg;have hcz35_0:=fun i_=>blk_cell BK428.out i_;have hfz35_0:=fun i_=>blk_frozen BK428.out i_))
         generalize hW_:((((((((((((w33.setCell ⟨gb428,0,none⟩ (.int .i64 ((rd_T64 l0_1 x8_1).f0))).setCell ⟨gb428,1,none⟩ (.int .i64 ((rd_T64 l0_1 x8_1).f1))).setCell ⟨gb428,2,none⟩ (.int .i64 ((rd_T64 l0_1 x8_1).f2.f0))).setCell ⟨gb428,3,none⟩ (.int .i64 ((rd_T64 l0_1 x8_1).f2.f1))).setCell ⟨gb428,4,none⟩ (.int .i64 ((rd_T64 l0_1 x8_1).f2.f2))).setCell ⟨gb428,5,none⟩ (.int .i64 ((rd_T64 l0_1 x8_1).f2.f3))).setCell ⟨gb428,6,none⟩ (.int .i64 ((rd_T64 l0_1 x8_1).f2.f4))).setCell ⟨gb428,7,none⟩ (.int .i64 ((rd_T64 l0_1 x8_1).f2.f5))).setCell ⟨gb428,8,none⟩ (.int .i64 ((rd_T64 l0_1 x8_1).f2.f6))).setCell ⟨gb428,9,none⟩ (.int .i64 ((rd_T64 l0_1 x8_1).f2.f7))).setCell ⟨gb428,10,none⟩ (.int .i64 ((rd_T64 l0_1 x8_1).f2.f8))).setCell ⟨gb428,11,none⟩ (.int .i64 ((rd_T64 l0_1 x8_1).f2.f9)))=w36
         have n0_:Aside0 (w36.heap[gb426]?=some (.cells #[.int .i64 a0_0,.slice (some ad427) l0_1.length c0_1] 52 (0,0))):=⟨by rw [← hW_];exact pF BK426.out⟩;have n1_:Aside0 (w36.heap[gb428]?=some (.cells #[.int .i64 ((rd_T64 l0_1 x8_1).f0),.int .i64 ((rd_T64 l0_1 x8_1).f1),.int .i64 ((rd_T64 l0_1 x8_1).f2.f0),.int .i64 ((rd_T64 l0_1 x8_1).f2.f1),.int .i64 ((rd_T64 l0_1 x8_1).f2.f2),.int .i64 ((rd_T64 l0_1 x8_1).f2.f3),.int .i64 ((rd_T64 l0_1 x8_1).f2.f4),.int .i64 ((rd_T64 l0_1 x8_1).f2.f5),.int .i64 ((rd_T64 l0_1 x8_1).f2.f6),.int .i64 ((rd_T64 l0_1 x8_1).f2.f7),.int .i64 ((rd_T64 l0_1 x8_1).f2.f8),.int .i64 ((rd_T64 l0_1 x8_1).f2.f9)] 64 (0,0))):=⟨by rw [← hW_];exact pP BK428⟩;have n2_:Aside0 (Below w.heap.size w w36):=⟨by rw [← hW_];exact pS HB.out⟩
         (try clear BK426);(try clear BK428);(try clear HB);clear hW_
         have BK426:=n0_;have BK428:=n1_;have HB:=n2_;clear n0_ n1_ n2_;replace BK426:=mA (blk_drew BK426.out);replace BK428:=mA (blk_drew BK428.out);replace HB:=mA (below_drew1 HB.out)
         refine start_ (n:=26) (S:=fun w'=>w'.heap[gb428]?=some (.cells #[.int .i64 ((rd_T64 l0_1 x8_1).f0),.int .i64 ((rd_T64 l0_1 x8_1).f1),.int .i64 ((rd_T64 l0_1 x8_1).f2.f0),.int .i64 ((rd_T64 l0_1 x8_1).f2.f1),.int .i64 ((rd_T64 l0_1 x8_1).f2.f2),.int .i64 ((rd_T64 l0_1 x8_1).f2.f3),.int .i64 ((rd_T64 l0_1 x8_1).f2.f4),.int .i64 ((rd_T64 l0_1 x8_1).f2.f5),.int .i64 ((rd_T64 l0_1 x8_1).f2.f6),.int .i64 ((rd_T64 l0_1 x8_1).f2.f7),.int .i64 ((rd_T64 l0_1 x8_1).f2.f8),.int .i64 ((rd_T64 l0_1 x8_1).f2.f9)] 64 (0,0))∧w'.heap[gb426]?=some (.cells #[.int .i64 a0_0,.slice (some ad427) l0_1.length c0_1] 52 (0,0))) (ds:=[]) _ aK rfl rfl ⟨BK428.out,BK426.out⟩ (fun hHeld=>?_);refine with_tabW impl_SynVoterOk.tab4 impl_SynVoterOk.bits4 (fun HT_ HW_=>?_)
         generalize w36.drew=w37 at BK426 BK428 HB hHeld ⊢
         refine qt 0 ?_
         refine qo 1 ?_;intro K hK
         refine gD Try.func88 (impl_paperOk.calls A7.out) ?_
         rintro e w38 ⟨rfl,hb⟩;refine ⟨_,rfl,?_⟩;replace BK426:=bK BK426 hb;replace BK428:=bK BK428 hb;replace HB:=spS HB hb
         (try clear hb)
         refine hK.out _ _ ⟨BK428.out,BK426.out⟩ (fun hHeld=>?_);clear hK K;refine no_ (some 14) ?_;refine qu 2 ?_;refine qu 3 ?_;refine qu 4 ?_;refine qu 6 ?_;refine qt 5 ?_;refine qt 7 ?_;refine qu 8 ?_;refine qu 9 ?_;refine qu 10 ?_;refine qu 11 ?_;refine qu 12 ?_;refine qu 13 ?_;refine qd 14 ?_;refine qd 15 ?_;refine qd 16 ?_;refine qd 17 ?_;refine qd 18 ?_;refine qd 19 ?_;refine qd 20 ?_;refine qd 21 ?_;refine qd 22 ?_;refine qd 23 ?_;refine qu 24 ?_;refine qu 25 ?_;refine qe ?_
         try go_wp2_with (first|((with_reducible refine gLg rfl (by assumption) ?_);first|refine ldW ?_|refine ldX ?_)|((with_reducible refine gLg rfl (by assumption) ?_);refine ldV ?_)|((with_reducible refine gSt rfl (by assumption) ?_);refine stV ?_))
         go_roundg k1
         case measure=>have:=HK1.out;omega
         case rel=>exact ⟨(wrap64 (x8_1+1)),bZ,H',⟨by have:=HK1.out;omega⟩,⟨pK BK426.out⟩,⟨pS HB.out⟩⟩
      ·replace c8:=Bool.eq_false_iff.mpr c8;subst c8
       rw [if_neg nFT] at H
       obtain rfl:=Option.some.inj H;have p427:0≤(x8_1:Int):=of_decide_eq_true bA;have q427:x8_1<(l0_1.length:Int):=of_decide_eq_true bA;obtain ⟨ad427,e427,hs427⟩:=at_R64 HR0_1.out x8_1 p427 q427;have hx427_0:=RS.hd hs427 rfl;cases e427;replace hx427_0:=hC HB hx427_0;replace hs427:=rS HB hs427;obtain ⟨hx427_1,hx427_2,hx427_3,hx427_4,hx427_5,hx427_6,hx427_7,hx427_8,hx427_9,hx427_10,hx427_11,_⟩:=RS.cs hs427;replace p427:=eq_true p427;replace q427:=eq_true q427
       try go_wp2_with (first|((with_reducible refine gLg rfl (by assumption) ?_);first|refine ldW ?_|refine ldX ?_)|((with_reducible refine gLg rfl (by assumption) ?_);refine ldV ?_)|((with_reducible refine gSt rfl (by assumption) ?_);refine stV ?_)|((with_reducible refine gT 4 rfl ?_);(try (refine gate_guard (by rfl) ?_;dsimp only));refine bJ 4 y64 ?_;intro gb428 hg w39 hbox hb;have BK428:=mA hbox;have GW428:=gbpS HB hg;have GE428:=gbpS HB hg;replace HB:=spS HB hb;have NB426_428:=mA (lN (blk_lt (pK BK426.out)) hg);have hN426_428:=NB426_428.out;have NB428_426:=nS NB426_428;have hN428_426:=NB428_426.out;replace BK426:=bK BK426 hb;clear hb hbox hg;have hcz41_0:=fun i_=>blk_cell BK428.out i_;have hfz41_0:=fun i_=>blk_frozen BK428.out i_))
       generalize hW_:((((((((((((w39.setCell ⟨gb428,0,none⟩ (.int .i64 ((rd_T64 l0_1 x8_1).f0))).setCell ⟨gb428,1,none⟩ (.int .i64 ((rd_T64 l0_1 x8_1).f1))).setCell ⟨gb428,2,none⟩ (.int .i64 ((rd_T64 l0_1 x8_1).f2.f0))).setCell ⟨gb428,3,none⟩ (.int .i64 ((rd_T64 l0_1 x8_1).f2.f1))).setCell ⟨gb428,4,none⟩ (.int .i64 ((rd_T64 l0_1 x8_1).f2.f2))).setCell ⟨gb428,5,none⟩ (.int .i64 ((rd_T64 l0_1 x8_1).f2.f3))).setCell ⟨gb428,6,none⟩ (.int .i64 ((rd_T64 l0_1 x8_1).f2.f4))).setCell ⟨gb428,7,none⟩ (.int .i64 ((rd_T64 l0_1 x8_1).f2.f5))).setCell ⟨gb428,8,none⟩ (.int .i64 ((rd_T64 l0_1 x8_1).f2.f6))).setCell ⟨gb428,9,none⟩ (.int .i64 ((rd_T64 l0_1 x8_1).f2.f7))).setCell ⟨gb428,10,none⟩ (.int .i64 ((rd_T64 l0_1 x8_1).f2.f8))).setCell ⟨gb428,11,none⟩ (.int .i64 ((rd_T64 l0_1 x8_1).f2.f9)))=w42
       have n0_:Aside0 (w42.heap[gb426]?=some (.cells #[.int .i64 a0_0,.slice (some ad427) l0_1.length c0_1] 52 (0,0))):=⟨by rw [← hW_];exact pF BK426.out⟩;have n1_:Aside0 (w42.heap[gb428]?=some (.cells #[.int .i64 ((rd_T64 l0_1 x8_1).f0),.int .i64 ((rd_T64 l0_1 x8_1).f1),.int .i64 ((rd_T64 l0_1 x8_1).f2.f0),.int .i64 ((rd_T64 l0_1 x8_1).f2.f1),.int .i64 ((rd_T64 l0_1 x8_1).f2.f2),.int .i64 ((rd_T64 l0_1 x8_1).f2.f3),.int .i64 ((rd_T64 l0_1 x8_1).f2.f4),.int .i64 ((rd_T64 l0_1 x8_1).f2.f5),.int .i64 ((rd_T64 l0_1 x8_1).f2.f6),.int .i64 ((rd_T64 l0_1 x8_1).f2.f7),.int .i64 ((rd_T64 l0_1 x8_1).f2.f8),.int .i64 ((rd_T64 l0_1 x8_1).f2.f9)] 64 (0,0))):=⟨by rw [← hW_];exact pP BK428⟩;have n2_:Aside0 (Below w.heap.size w w42):=⟨by rw [← hW_];exact pS HB.out⟩
       (try clear BK426);(try clear BK428);(try clear HB);clear hW_
       have BK426:=n0_;have BK428:=n1_;have HB:=n2_;clear n0_ n1_ n2_;replace BK426:=mA (blk_drew BK426.out);replace BK428:=mA (blk_drew BK428.out);replace HB:=mA (below_drew1 HB.out)
       refine start_ (n:=26) (S:=fun w'=>w'.heap[gb428]?=some (.cells #[.int .i64 ((rd_T64 l0_1 x8_1).f0),.int .i64 ((rd_T64 l0_1 x8_1).f1),.int .i64 ((rd_T64 l0_1 x8_1).f2.f0),.int .i64 ((rd_T64 l0_1 x8_1).f2.f1),.int .i64 ((rd_T64 l0_1 x8_1).f2.f2),.int .i64 ((rd_T64 l0_1 x8_1).f2.f3),.int .i64 ((rd_T64 l0_1 x8_1).f2.f4),.int .i64 ((rd_T64 l0_1 x8_1).f2.f5),.int .i64 ((rd_T64 l0_1 x8_1).f2.f6),.int .i64 ((rd_T64 l0_1 x8_1).f2.f7),.int .i64 ((rd_T64 l0_1 x8_1).f2.f8),.int .i64 ((rd_T64 l0_1 x8_1).f2.f9)] 64 (0,0))) (ds:=[]) _ aK rfl rfl BK428.out (fun hHeld=>?_);refine with_tabW impl_SynVoterOk.tab4 impl_SynVoterOk.bits4 (fun HT_ HW_=>?_)
       generalize w42.drew=w43 at BK426 BK428 HB hHeld ⊢
       refine qt 0 ?_
       refine qo 1 ?_;intro K hK
       refine gD Try.func88 (impl_paperOk.calls A7.out) ?_
       rintro e w44 ⟨rfl,hb⟩;refine ⟨_,rfl,?_⟩;replace BK426:=bK BK426 hb;replace BK428:=bK BK428 hb;replace HB:=spS HB hb
       (try clear hb)
       refine hK.out _ _ BK428.out (fun hHeld=>?_);clear hK K;refine no_ (some 14) ?_;refine qu 2 ?_;refine qu 3 ?_;refine qd 4 ?_;refine qd 5 ?_;refine qd 6 ?_;refine qd 7 ?_;refine qd 8 ?_;refine qu 9 ?_;refine qu 10 ?_;refine qd 11 ?_;refine qd 12 ?_;refine qd 13 ?_;refine qd 14 ?_;refine qd 15 ?_;refine qd 16 ?_;refine qd 17 ?_;refine qd 18 ?_;refine qd 19 ?_;refine qd 20 ?_;refine qd 21 ?_;refine qd 22 ?_;refine qd 23 ?_;refine qd 24 ?_;refine qu 25 ?_;refine qe ?_
       try go_wp2_with (first|((with_reducible refine gLg rfl (by assumption) ?_);first|refine ldW ?_|refine ldX ?_)|((with_reducible refine gLg rfl (by assumption) ?_);refine ldV ?_)|((with_reducible refine gSt rfl (by assumption) ?_);refine stV ?_))
       go_ret
       exact rZ (pS HB.out)
     ·rw [if_neg c6] at H
      exact absurd H (by simp)
    ·rw [if_neg c5] at H
     exact absurd H (by simp)
   ·rw [if_neg c4] at H;have c4b0:decide (x8_1<(l0_1.length:Int))=false:=decide_eq_false c4;clear c4;obtain ⟨t431,A45,H⟩:=bI H;(try dsimp only at H)
    by_cases c46:t431=true
    ·subst c46;rw [if_pos rfl] at H;obtain rfl:=Option.some.inj H;obtain ⟨hcz47_0,hcz47_1,hfz47_0,hfz47_1⟩:=box2 BK426.out
     go_wp2_with (first|((with_reducible refine gLg rfl (by assumption) ?_);first|refine ldW ?_|refine ldX ?_)|((with_reducible refine gLg rfl (by assumption) ?_);refine ldV ?_)|((with_reducible refine gSt rfl (by assumption) ?_);refine stV ?_)|((with_reducible refine gT 42 rfl ?_);refine gC (some 42) Try.func74 (impl_in.calls A45.out) ?_;rintro e w' ⟨rfl,⟨nd,rfl⟩⟩;refine ⟨_,rfl,?_⟩))
     go_ret
     exact rZ (pS HB.out)
    ·replace c46:=Bool.eq_false_iff.mpr c46;subst c46
     rw [if_neg nFT] at H
     obtain rfl:=Option.some.inj H;obtain ⟨hcz48_0,hcz48_1,hfz48_0,hfz48_1⟩:=box2 BK426.out
     go_wp2_with (first|((with_reducible refine gLg rfl (by assumption) ?_);first|refine ldW ?_|refine ldX ?_)|((with_reducible refine gLg rfl (by assumption) ?_);refine ldV ?_)|((with_reducible refine gSt rfl (by assumption) ?_);refine stV ?_)|((with_reducible refine gT 42 rfl ?_);refine gC (some 42) Try.func74 (impl_in.calls A45.out) ?_;rintro e w' ⟨rfl,⟨nd,rfl⟩⟩;refine ⟨_,rfl,?_⟩))
     go_ret
     exact rZ (pS HB.out)
/-! ### impl_isVoter: function 94 -/
def impl_isVoter.f (a0 : Int) : Option (Bool) := (impl_in.f a0 0 2).bind fun t432 => (some t432)
set_option maxHeartbeats 8000000 in
set_option maxRecDepth 100000 in
theorem impl_isVoter.calls {a0 : Int} {r : Bool} {w : World} (h : impl_isVoter.f a0 = some r) :
  Calls Try.prog 94 #[.int .i64 a0] w fun e w'=>e=.returned (.bool r)∧Drawn0 w w':=by
 have H:((impl_in.f a0 0 2).bind fun t432=>(some t432))=some r:=h;clear h;obtain ⟨t432,A2,H⟩:=bI H;(try dsimp only at H);obtain rfl:=Option.some.inj H
 go_enter Try.func94,Try.ntmps94
 go_wp2_with (first|((with_reducible refine gT 4 rfl ?_);refine gC (some 4) Try.func74 (impl_in.calls A2.out) ?_;rintro e w' ⟨rfl,⟨nd,rfl⟩⟩;refine ⟨_,rfl,?_⟩))
 go_ret
 exact ⟨by first|rfl|(simp;done)|(simp [*];done),by repeat (first|exact Drawn0.refl _|apply Drawn0.step)⟩
/-! ### impl_copied_SynPaper: function 107 -/
def impl_copied_SynPaper.f (l0 : List S64) : Option (List S64) := if l0.length ≤ 2932031007402 then some l0 else none
set_option maxHeartbeats 8000000 in
set_option maxRecDepth 100000 in
theorem impl_copied_SynPaper.calls (A0 : Option Addr) (c0 : Nat) (l0 : List S64) (r : List S64) (w : World) (hr0 : Kd.C k64 w A0 l0.length l0) (hc0 : l0.length ≤ c0) (h : impl_copied_SynPaper.f l0 = some r) :
    Calls Try.prog 107 #[.slice A0 l0.length c0] w fun e w' => ∃ v0_ : Value, e = .returned (v0_) ∧ Kd.R k64 64 w' w.heap.size (fun _ => True) v0_ r ∧ Below w.heap.size w w' := by
  unfold impl_copied_SynPaper.f at h
  by_cases hz : l0.length ≤ 2932031007402
  · rw [if_pos hz] at h
    obtain rfl := Option.some.inj h
    have HR := Aside0.mk hr0
    have HZ := Aside0.mk hz
    clear hr0 hc0 h hz
    by_cases h0 : l0.length = 0
    · obtain rfl := List.eq_nil_of_length_eq_zero h0
      clear h0
      go_enter Try.func107, Try.ntmps107
      go_wp2
      go_ret
      exact ⟨_, rfl, Kd.R_nil _ _ _ _ _, Below.refl _ _⟩
    · have c0b : ((l0.length : Int) == 0) = false := beq_eq_false_iff_ne.mpr (by omega)
      have c0c : ((l0.length : Int) != 0) = true := bne_iff_ne.mpr (by omega)
      have c0d : ¬ (l0 = []) := fun h_ => h0 (by rw [h_]; rfl)
      clear h0
      have HB := Aside0.mk (Below.refl w.heap.size w)
      go_enter Try.func107, Try.ntmps107
      go_wp2_with (first
        | (refine Kd.R_make k64 _ 64 rfl (N := 9) rfl 50 _ _ rfl (l0.length : Int) rfl rfl Try.underlying50 (.agg #[(.int .i64 0), (.int .i64 0), (.int .i64 0), (.int .i64 0), (.int .i64 0), (.int .i64 0), (.int .i64 0), (.int .i64 0), (.int .i64 0), (.int .i64 0), (.int .i64 0), (.int .i64 0)]) 96 info64 rfl (by decide) (by omega) z64 (ok := fun _ => True) (okp := fun _ => True) (k64_mkM _ _ _ z64) (fun _ hk => hk) trivial (Int.natCast_nonneg _) (by have hz := HZ.out; rw [Int.toNat_natCast]; omega) HB.out (Nat.le_refl _) ?_
           intro v1 w1 hR1 hB1 hg1 hn1
           rw [Int.toNat_natCast] at hR1
           have HR1 := Aside0.mk hR1
           have HB1 := Aside0.mk hB1
           have HC1 := Aside0.mk (Kd.C_below HR.out (below_of_grown hg1))
           clear hR1 hB1 hg1 hn1)
        | (refine R_copy k64 flat64 w.heap.size rfl _ _ 50 50 64 rfl Try.underlying50 (by rw [show (Try.prog.info? 64).map (·.size) = ((Try.prog.info? 64).map (fun i => (i.zero, i.size, i.bytes))).map (fun x => x.2.1) from by rw [Option.map_map]; rfl, info64]; rfl) _ _ _ _ _ l0 (fun _ => True) rfl rfl rfl (by simp) HR1.out HC1.out HB1.out ?_
           intro w2 hR2 hB2 _
           have HR2 := Aside0.mk hR2
           have HB2 := Aside0.mk hB2
           clear hR2 hB2))
      go_ret
      exact ⟨_, rfl, HR2.out, HB2.out⟩
  · rw [if_neg hz] at h; cases h
/-! ### impl_voterCopy: function 106 -/
def impl_voterCopy.f (a0_0 : Int) (l0_1 : List (S64)) : Option (Int × (List (S64))) := (impl_copied_SynPaper.f l0_1).bind fun t435 => (some (a0_0, t435))
set_option maxHeartbeats 8000000 in
set_option maxRecDepth 100000 in
theorem impl_voterCopy.calls {a0_0 : Int} {A0_1 : Option Addr} {c0_1 : Nat} {l0_1 : List (S64)} {r1 : Int} {r2 : List (S64)} {w : World} (hr0_1 : Kd.C k64 w A0_1 l0_1.length l0_1) (hc0_1 : l0_1.length ≤ c0_1) (h : impl_voterCopy.f a0_0 l0_1 = some (r1, r2)) :
  Calls Try.prog 106 #[.agg #[.int .i64 a0_0,.slice A0_1 l0_1.length c0_1]] w fun e w'=>∃ v1_:Value,e=.returned (.agg #[.int .i64 r1,v1_])∧Kd.R k64 64 w' w.heap.size (fun _=>True) v1_ r2∧Below w.heap.size w w':=by
 have hu52:=Try.underlying52;have HR0_1:=mA hr0_1;have HC0_1:=mA hc0_1;clear hr0_1 hc0_1;have HB:=mA (Below.refl w.heap.size w);have H:((impl_copied_SynPaper.f l0_1).bind fun t435=>(some (a0_0,t435)))=some (r1,r2):=h;clear h;obtain ⟨t435,A2,H⟩:=bI H;(try dsimp only at H);simp only [Option.some.injEq,Prod.mk.injEq] at H;obtain ⟨rfl,rfl⟩:=H
 go_enter Try.func106,Try.ntmps106
 try go_wp2_with (first|((with_reducible refine gT 1 rfl ?_);refine bE 1 #[.int .i64 a0_0,.slice A0_1 l0_1.length c0_1] 52 ?_;intro gb433 hg w3 hbox hb;have BK433:=mA hbox;have GW433:=gbpB HB hg;have GE433:=gbpB HB hg;replace HB:=spB HB hb;clear hb hbox hg)|((with_reducible refine gT 2 rfl ?_);refine bE 2 #[.int .i64 0,.slice none 0 0] 52 ?_;intro gb434 hg w4 hbox hb;have BK434:=mA hbox;have GW434:=gbpS HB hg;have GE434:=gbpS HB hg;replace HB:=spS HB hb;have NB433_434:=mA (lN (blk_lt (pK BK433.out)) hg);have hN433_434:=NB433_434.out;have NB434_433:=nS NB433_434;have hN434_433:=NB434_433.out;replace BK433:=bK BK433 hb;clear hb hbox hg))
 replace BK433:=mA (blk_drew BK433.out);replace BK434:=mA (blk_drew BK434.out);replace HB:=mA (below_drew1 HB.out)
 refine start_ (n:=7) (S:=fun w'=>w'.heap[gb433]?=some (.cells #[.int .i64 a0_0,.slice A0_1 l0_1.length c0_1] 52 (0,0))) (ds:=[]) _ aK rfl rfl BK433.out (fun hHeld=>?_)
 generalize w4.drew=w5 at BK433 BK434 HB hHeld ⊢
 refine pu_ 0 (some 3) aK ?_
 refine pu_ 2 (some 5) aK ?_
 refine tb1_ 1 (some 4) aK hHeld ?_
 refine tb1_ 3 (some 6) aK hHeld ?_
 refine on_ 4 (some 7) aK ?_;intro K hK
 refine gD Try.func107 (impl_copied_SynPaper.calls _ _ l0_1 t435 _ (cB HR0_1 HB) HC0_1.out A2.out) ?_
 rintro e w6 ⟨v436,rfl,ho0,hb⟩;refine ⟨_,rfl,?_⟩;have HO437:=mA (Kd.R_lower ho0 (bpS HB));replace BK433:=bK BK433 hb;replace BK434:=bK BK434 hb;replace HB:=spS HB hb
 (try clear hb);(try clear ho0)
 obtain ⟨Ao7,co7,eo7⟩:=Kd.R_slice HO437.out
 (first|subst eo7|(injection eo7 with f1_ f2_ f3_;have f4_:=f1_.symm;have f5_:=f3_.symm;clear f1_ f2_ f3_;subst f4_;subst f5_))
 refine hK.out _ _ BK433.out (fun hHeld=>?_);clear hK K;refine no_ (some 7) ?_
 refine pu_ 5 (some 8) aK ?_
 refine on_ 6 (none) aK ?_;intro K hK
 have hcz8_0:=fun i_=>blk_cell BK434.out i_;have hfz8_0:=fun i_=>blk_frozen BK434.out i_
 refine skip_ (w1:=?_) (by rfl) rfl ?_ ?_
 rotate_left
 ·first|exact stG|(go_simp;rfl)
 refine hK.out _ _ (pF2 BK433) (fun hHeld=>?_);clear hK K
 refine done_ aK ?_
 try go_wp2
 refine bodyPost_ret (results_cell_row rfl _ _ gb434 52 #[.int .i64 a0_0,.slice Ao7 t435.length co7] (0,0) _ rfl (pP BK434) Try.underlying52 rfl aK) rfl ?_
 exact ⟨_,by first|rfl|(simp [errW_none,errW_some]<;>rfl)|(simp [*,errW_none,errW_some]<;>rfl),pU HO437 BK434,pS HB.out⟩
/-! ### impl_paperPut: function 108 -/
mutual
def impl_paperPut.l0 : Nat → List (S64) → Bool → List (S64) → Int → Int → Int → Int → Int → Int → Int → Int → Int → Int → Int → Int → Int → Int → Option ((List (S64)))
 | 0,_,_,_,_,_,_,_,_,_,_,_,_,_,_,_,_,_=>none
 | k+1,x5,x6,x9,x10,x11,x439000,x439001,x439002,x439003,x439004,x439005,x439006,x439007,x439008,x439009,x439010,x439011=>if x11<x10 then (if 0≤x11 then (if x11<(x9.length:Int) then (if x6=true then (impl_paperPut.j1 k x5 x6 x9 x10 x11 false x439000 x439001 x439002 x439003 x439004 x439005 x439006 x439007 x439008 x439009 x439010 x439011 ((rd_T64 x9 x11).f0) ((rd_T64 x9 x11).f1) ((rd_T64 x9 x11).f2.f0) ((rd_T64 x9 x11).f2.f1) ((rd_T64 x9 x11).f2.f2) ((rd_T64 x9 x11).f2.f3) ((rd_T64 x9 x11).f2.f4) ((rd_T64 x9 x11).f2.f5) ((rd_T64 x9 x11).f2.f6) ((rd_T64 x9 x11).f2.f7) ((rd_T64 x9 x11).f2.f8) ((rd_T64 x9 x11).f2.f9)) else (impl_paperPut.j1 k x5 x6 x9 x10 x11 (decide (((rd_T64 x9 x11).f0) ≥ x439000)) x439000 x439001 x439002 x439003 x439004 x439005 x439006 x439007 x439008 x439009 x439010 x439011 ((rd_T64 x9 x11).f0) ((rd_T64 x9 x11).f1) ((rd_T64 x9 x11).f2.f0) ((rd_T64 x9 x11).f2.f1) ((rd_T64 x9 x11).f2.f2) ((rd_T64 x9 x11).f2.f3) ((rd_T64 x9 x11).f2.f4) ((rd_T64 x9 x11).f2.f5) ((rd_T64 x9 x11).f2.f6) ((rd_T64 x9 x11).f2.f7) ((rd_T64 x9 x11).f2.f8) ((rd_T64 x9 x11).f2.f9))) else (none)) else (none)) else (if x6=true then (some x5) else (if x5.length<1466015503701 then (some (x5 ++ [(⟨x439000,x439001,(⟨x439002,x439003,x439004,x439005,x439006,x439007,x439008,x439009,x439010,x439011⟩:S24)⟩:S64)])) else (none)))
def impl_paperPut.j1 : Nat → List (S64) → Bool → List (S64) → Int → Int → Bool → Int → Int → Int → Int → Int → Int → Int → Int → Int → Int → Int → Int → Int → Int → Int → Int → Int → Int → Int → Int → Int → Int → Int → Int → Option ((List (S64)))
 | 0,_,_,_,_,_,_,_,_,_,_,_,_,_,_,_,_,_,_,_,_,_,_,_,_,_,_,_,_,_,_=>none
 | k+1,x5,x6,x9,x10,x11,x23,x439000,x439001,x439002,x439003,x439004,x439005,x439006,x439007,x439008,x439009,x439010,x439011,x444000,x444001,x444002,x444003,x444004,x444005,x444006,x444007,x444008,x444009,x444010,x444011=>if x23=true then (if x5.length<1466015503701 then ((some (x5 ++ [(⟨x439000,x439001,(⟨x439002,x439003,x439004,x439005,x439006,x439007,x439008,x439009,x439010,x439011⟩:S24)⟩:S64)]:List (S64))).bind fun y444=>(if x444000=x439000 then (impl_paperPut.l0 k y444 true x9 x10 (wrap64 (x11+1)) x439000 x439001 x439002 x439003 x439004 x439005 x439006 x439007 x439008 x439009 x439010 x439011) else (if y444.length<1466015503701 then (impl_paperPut.l0 k (y444 ++ [(⟨x444000,x444001,(⟨x444002,x444003,x444004,x444005,x444006,x444007,x444008,x444009,x444010,x444011⟩:S24)⟩:S64)]) true x9 x10 (wrap64 (x11+1)) x439000 x439001 x439002 x439003 x439004 x439005 x439006 x439007 x439008 x439009 x439010 x439011) else (none)))) else (none)) else (if x444000=x439000 then (impl_paperPut.l0 k x5 x6 x9 x10 (wrap64 (x11+1)) x439000 x439001 x439002 x439003 x439004 x439005 x439006 x439007 x439008 x439009 x439010 x439011) else (if x5.length<1466015503701 then (impl_paperPut.l0 k (x5 ++ [(⟨x444000,x444001,(⟨x444002,x444003,x444004,x444005,x444006,x444007,x444008,x444009,x444010,x444011⟩:S24)⟩:S64)]) x6 x9 x10 (wrap64 (x11+1)) x439000 x439001 x439002 x439003 x439004 x439005 x439006 x439007 x439008 x439009 x439010 x439011) else (none)))
end
def impl_paperPut.f (k : Nat) (l0 : List (S64)) (a1_0 a1_1 a1_2 a1_3 a1_4 a1_5 a1_6 a1_7 a1_8 a1_9 a1_10 a1_11 : Int) : Option ((List (S64))) := impl_paperPut.l0 k ([] : List (S64)) false l0 (l0.length : Int) 0 a1_0 a1_1 a1_2 a1_3 a1_4 a1_5 a1_6 a1_7 a1_8 a1_9 a1_10 a1_11
set_option maxHeartbeats 8000000 in
set_option maxRecDepth 100000 in
theorem impl_paperPut.calls {k : Nat} {A0 : Option Addr} {c0 : Nat} {l0 : List (S64)} {a1_0 a1_1 a1_2 a1_3 a1_4 a1_5 a1_6 a1_7 a1_8 a1_9 a1_10 a1_11 : Int} {r : List (S64)} {w : World} (hr0 : Kd.C k64 w A0 l0.length l0) (hc0 : l0.length ≤ c0) (h : impl_paperPut.f k l0 a1_0 a1_1 a1_2 a1_3 a1_4 a1_5 a1_6 a1_7 a1_8 a1_9 a1_10 a1_11 = some r) :
  Calls Try.prog 108 #[.slice A0 l0.length c0,.agg #[.int .i64 a1_0,.int .i64 a1_1,.int .i64 a1_2,.int .i64 a1_3,.int .i64 a1_4,.int .i64 a1_5,.int .i64 a1_6,.int .i64 a1_7,.int .i64 a1_8,.int .i64 a1_9,.int .i64 a1_10,.int .i64 a1_11]] w fun e w'=>∃ v0_:Value,e=.returned (v0_)∧Kd.R k64 64 w' w.heap.size (fun _=>True) v0_ r∧Below w.heap.size w w':=by
 have hu64:=Try.underlying64;have HR0:=mA hr0;have HC0:=mA hc0;clear hr0 hc0;have HB:=mA (Below.refl w.heap.size w);have H:(impl_paperPut.l0 k ([]:List (S64)) false l0 (l0.length:Int) 0 a1_0 a1_1 a1_2 a1_3 a1_4 a1_5 a1_6 a1_7 a1_8 a1_9 a1_10 a1_11)=some r:=h;clear h;have H':=mA H;clear H
 go_enter Try.func108,Try.ntmps108
 go_wp2_with (first|((with_reducible refine gLg rfl (by assumption) ?_);first|refine ldW ?_|refine ldX ?_)|((with_reducible refine gLg rfl (by assumption) ?_);refine ldV ?_)|((with_reducible refine gSt rfl (by assumption) ?_);refine stV ?_)|((with_reducible refine gT 3 rfl ?_);refine bX 3 ?_;intro gb438 hg w3 hbox hb;have BK438:=mA hbox;have GW438:=gbpB HB hg;have GE438:=gbpB HB hg;replace HB:=spB HB hb;clear hb hbox hg))
 go_loopg [5,6,11] k (fun kq v5 v6 v11 w'=>∃ (x5_1:List (S64)) (x6_1:Bool) (x11_1:Int),v6=.bool x6_1∧v11=.int .i64 x11_1∧Aside0 (impl_paperPut.l0 kq x5_1 x6_1 l0 (l0.length:Int) x11_1 a1_0 a1_1 a1_2 a1_3 a1_4 a1_5 a1_6 a1_7 a1_8 a1_9 a1_10 a1_11=some r)∧Aside0 (kq≤k)∧Aside0 (Kd.R k64 64 w' w.heap.size (fun k_=>k_≠gb438) v5 x5_1)∧Aside0 (w'.heap[gb438]?=some (.cells #[.int .i64 a1_0,.int .i64 a1_1,.int .i64 a1_2,.int .i64 a1_3,.int .i64 a1_4,.int .i64 a1_5,.int .i64 a1_6,.int .i64 a1_7,.int .i64 a1_8,.int .i64 a1_9,.int .i64 a1_10,.int .i64 a1_11] 64 (0,0)))∧Aside0 (Below w.heap.size w w'))
 case atStart=>exact ⟨(([]:List (S64))),(false),(0),bZ,bZ,H',⟨Nat.le_refl _⟩,⟨aN⟩,⟨pK BK438.out⟩,⟨pS HB.out⟩⟩
 case round =>
  clear H'
  obtain ⟨x5_1,x6_1,x11_1,rfl,rfl,HA,HK1,HO_5,BK438,HB⟩:=hrel
  cases gk with
  | zero=>exact absurd HA.out (by simp [impl_paperPut.l0])
  | succ k1 =>
   have H:=HA.out;clear HA;simp only [impl_paperPut.l0] at H
   by_cases c4:x11_1<(l0.length:Int)
   ·rw [if_pos c4] at H;have c4b0:decide (x11_1<(l0.length:Int))=true:=decide_eq_true c4;clear c4
    by_cases c5:0≤x11_1
    ·rw [if_pos c5] at H;have c5b0:decide (0≤x11_1)=true:=decide_eq_true c5;clear c5
     by_cases c6:x11_1<(l0.length:Int)
     ·rw [if_pos c6] at H;have c6b0:decide (x11_1<(l0.length:Int))=true:=decide_eq_true c6;clear c6;have HC7:=mA H;clear H;have p442:0≤(x11_1:Int):=of_decide_eq_true bA;have q442:x11_1<(l0.length:Int):=of_decide_eq_true bA;obtain ⟨ad442,e442,hs442⟩:=at_R64 HR0.out x11_1 p442 q442;have hx442_0:=RS.hd hs442 rfl;cases e442;replace hx442_0:=hC HB hx442_0;replace hs442:=rS HB hs442;replace p442:=eq_true p442;replace q442:=eq_true q442
      go_upto_region 6 with (first|((with_reducible refine gLg rfl (by assumption) ?_);first|refine ldW ?_|refine ldX ?_)|((with_reducible refine gLg rfl (by assumption) ?_);refine ldV ?_)|((with_reducible refine gSt rfl (by assumption) ?_);refine stV ?_)|((with_reducible refine gT 8 rfl ?_);refine bJ 8 y64 ?_;intro gb443 hg w8 hbox hb;replace HO_5:=mA (Kd.R_below (Kd.R_elderB (pR HO_5.out) gb443 (Nat.le_of_eq hg.symm)) hb);have BK443:=mA hbox;have GW443:=gbpS HB hg;have GE443:=gbpS HB hg;replace HB:=spS HB hb;have NB438_443:=mA (lN (blk_lt (pK BK438.out)) hg);have hN438_443:=NB438_443.out;have NB443_438:=nS NB438_443;have hN443_438:=NB443_438.out;replace BK438:=bK BK438 hb;clear hb hbox hg;have hcz10_0:=fun i_=>blk_cell BK443.out i_;have hfz10_0:=fun i_=>blk_frozen BK443.out i_))
      (try simp only [Act.put,List.setIfInBounds_toArray,List.set_cons_zero,List.set_cons_succ])
      go_cut [23] (fun v23 wc=>∃ (kq:Nat) (x23_6:Bool),v23=.bool x23_6∧Aside0 (impl_paperPut.j1 kq x5_1 x6_1 l0 (l0.length:Int) x11_1 x23_6 a1_0 a1_1 a1_2 a1_3 a1_4 a1_5 a1_6 a1_7 a1_8 a1_9 a1_10 a1_11 ((rd_T64 l0 x11_1).f0) ((rd_T64 l0 x11_1).f1) ((rd_T64 l0 x11_1).f2.f0) ((rd_T64 l0 x11_1).f2.f1) ((rd_T64 l0 x11_1).f2.f2) ((rd_T64 l0 x11_1).f2.f3) ((rd_T64 l0 x11_1).f2.f4) ((rd_T64 l0 x11_1).f2.f5) ((rd_T64 l0 x11_1).f2.f6) ((rd_T64 l0 x11_1).f2.f7) ((rd_T64 l0 x11_1).f2.f8) ((rd_T64 l0 x11_1).f2.f9)=some r)∧Aside0 (kq≤k1)∧Aside0 (Kd.R k64 64 wc w.heap.size (fun k_=>k_≠gb438∧k_≠gb443) u5 x5_1)∧Aside0 (wc.heap[gb438]?=some (.cells #[.int .i64 a1_0,.int .i64 a1_1,.int .i64 a1_2,.int .i64 a1_3,.int .i64 a1_4,.int .i64 a1_5,.int .i64 a1_6,.int .i64 a1_7,.int .i64 a1_8,.int .i64 a1_9,.int .i64 a1_10,.int .i64 a1_11] 64 (0,0)))∧Aside0 (wc.heap[gb443]?=some (.cells #[.int .i64 ((rd_T64 l0 x11_1).f0),.int .i64 ((rd_T64 l0 x11_1).f1),.int .i64 ((rd_T64 l0 x11_1).f2.f0),.int .i64 ((rd_T64 l0 x11_1).f2.f1),.int .i64 ((rd_T64 l0 x11_1).f2.f2),.int .i64 ((rd_T64 l0 x11_1).f2.f3),.int .i64 ((rd_T64 l0 x11_1).f2.f4),.int .i64 ((rd_T64 l0 x11_1).f2.f5),.int .i64 ((rd_T64 l0 x11_1).f2.f6),.int .i64 ((rd_T64 l0 x11_1).f2.f7),.int .i64 ((rd_T64 l0 x11_1).f2.f8),.int .i64 ((rd_T64 l0 x11_1).f2.f9)] 64 (0,0)))∧Aside0 (Below w.heap.size w wc))
      case first =>
       have H:=HC7.out;clear HC7
       by_cases c11:x6_1=true
       ·subst c11;rw [if_pos rfl] at H;have H':=mA H;clear H
        go_wp2_with (first|((with_reducible refine gLg rfl (by assumption) ?_);first|refine ldW ?_|refine ldX ?_)|((with_reducible refine gLg rfl (by assumption) ?_);refine ldV ?_)|((with_reducible refine gSt rfl (by assumption) ?_);refine stV ?_))
        go_meet
        case rel=>exact ⟨_,(false),bZ,H',⟨by have:=HK1.out;first|omega|exact Nat.le_refl _⟩,⟨pR (Kd.R_mono (Kd.R_far (p:=⟨gb443,11,none⟩) (Kd.R_far (p:=⟨gb443,10,none⟩) (Kd.R_far (p:=⟨gb443,9,none⟩) (Kd.R_far (p:=⟨gb443,8,none⟩) (Kd.R_far (p:=⟨gb443,7,none⟩) (Kd.R_far (p:=⟨gb443,6,none⟩) (Kd.R_far (p:=⟨gb443,5,none⟩) (Kd.R_far (p:=⟨gb443,4,none⟩) (Kd.R_far (p:=⟨gb443,3,none⟩) (Kd.R_far (p:=⟨gb443,2,none⟩) (Kd.R_far (p:=⟨gb443,1,none⟩) (Kd.R_far (p:=⟨gb443,0,none⟩) (Kd.R_mono HO_5.out (fun k_ hk=>(⟨hk,hk.2⟩:_∧k_≠gb443))) (fun _ hk=>hk.2) (.int .i64 ((rd_T64 l0 x11_1).f0))) (fun _ hk=>hk.2) (.int .i64 ((rd_T64 l0 x11_1).f1))) (fun _ hk=>hk.2) (.int .i64 ((rd_T64 l0 x11_1).f2.f0))) (fun _ hk=>hk.2) (.int .i64 ((rd_T64 l0 x11_1).f2.f1))) (fun _ hk=>hk.2) (.int .i64 ((rd_T64 l0 x11_1).f2.f2))) (fun _ hk=>hk.2) (.int .i64 ((rd_T64 l0 x11_1).f2.f3))) (fun _ hk=>hk.2) (.int .i64 ((rd_T64 l0 x11_1).f2.f4))) (fun _ hk=>hk.2) (.int .i64 ((rd_T64 l0 x11_1).f2.f5))) (fun _ hk=>hk.2) (.int .i64 ((rd_T64 l0 x11_1).f2.f6))) (fun _ hk=>hk.2) (.int .i64 ((rd_T64 l0 x11_1).f2.f7))) (fun _ hk=>hk.2) (.int .i64 ((rd_T64 l0 x11_1).f2.f8))) (fun _ hk=>hk.2) (.int .i64 ((rd_T64 l0 x11_1).f2.f9))) (fun _ hk=>⟨hk.1.1,hk.1.2⟩))⟩,⟨pF BK438.out⟩,⟨pP BK443⟩,⟨pS HB.out⟩⟩
       ·replace c11:=Bool.eq_false_iff.mpr c11;subst c11
        rw [if_neg nFT] at H
        have H':=mA H;clear H;have hcz13_0:=fun i_=>blk_cell BK443.out i_;have hfz13_0:=fun i_=>blk_frozen BK443.out i_;have hcz14_0:=fun i_=>blk_cell BK438.out i_;have hfz14_0:=fun i_=>blk_frozen BK438.out i_
        go_wp2_with (first|((with_reducible refine gLg rfl (by assumption) ?_);first|refine ldW ?_|refine ldX ?_)|((with_reducible refine gLg rfl (by assumption) ?_);refine ldV ?_)|((with_reducible refine gSt rfl (by assumption) ?_);refine stV ?_))
        go_meet
        case rel=>exact ⟨_,(decide (((rd_T64 l0 x11_1).f0) ≥ a1_0)),bZ,H',⟨by have:=HK1.out;first|omega|exact Nat.le_refl _⟩,⟨pR (Kd.R_mono (Kd.R_far (p:=⟨gb443,11,none⟩) (Kd.R_far (p:=⟨gb443,10,none⟩) (Kd.R_far (p:=⟨gb443,9,none⟩) (Kd.R_far (p:=⟨gb443,8,none⟩) (Kd.R_far (p:=⟨gb443,7,none⟩) (Kd.R_far (p:=⟨gb443,6,none⟩) (Kd.R_far (p:=⟨gb443,5,none⟩) (Kd.R_far (p:=⟨gb443,4,none⟩) (Kd.R_far (p:=⟨gb443,3,none⟩) (Kd.R_far (p:=⟨gb443,2,none⟩) (Kd.R_far (p:=⟨gb443,1,none⟩) (Kd.R_far (p:=⟨gb443,0,none⟩) (Kd.R_mono HO_5.out (fun k_ hk=>(⟨hk,hk.2⟩:_∧k_≠gb443))) (fun _ hk=>hk.2) (.int .i64 ((rd_T64 l0 x11_1).f0))) (fun _ hk=>hk.2) (.int .i64 ((rd_T64 l0 x11_1).f1))) (fun _ hk=>hk.2) (.int .i64 ((rd_T64 l0 x11_1).f2.f0))) (fun _ hk=>hk.2) (.int .i64 ((rd_T64 l0 x11_1).f2.f1))) (fun _ hk=>hk.2) (.int .i64 ((rd_T64 l0 x11_1).f2.f2))) (fun _ hk=>hk.2) (.int .i64 ((rd_T64 l0 x11_1).f2.f3))) (fun _ hk=>hk.2) (.int .i64 ((rd_T64 l0 x11_1).f2.f4))) (fun _ hk=>hk.2) (.int .i64 ((rd_T64 l0 x11_1).f2.f5))) (fun _ hk=>hk.2) (.int .i64 ((rd_T64 l0 x11_1).f2.f6))) (fun _ hk=>hk.2) (.int .i64 ((rd_T64 l0 x11_1).f2.f7))) (fun _ hk=>hk.2) (.int .i64 ((rd_T64 l0 x11_1).f2.f8))) (fun _ hk=>hk.2) (.int .i64 ((rd_T64 l0 x11_1).f2.f9))) (fun _ hk=>⟨hk.1.1,hk.1.2⟩))⟩,⟨pF BK438.out⟩,⟨pP BK443⟩,⟨pS HB.out⟩⟩
      case rest =>
       clear HC7
       (try clear c4);(try clear c4b0);(try clear c5);(try clear c5b0);(try clear c6);(try clear c6b0);(try clear hcz10_0);(try clear hfz10_0);(try clear hx442_0);(try clear p442);(try clear q442)
       obtain ⟨kq,x23_6,rfl,HA,HJ6,HO_5,BK438,BK443,HB⟩:=hcut
       cases kq with
       | zero=>exact absurd HA.out (by simp [impl_paperPut.j1])
       | succ kj6 =>
        have H:=HA.out;clear HA;simp only [impl_paperPut.j1] at H
        by_cases c15:x23_6=true
        ·subst c15;rw [if_pos rfl] at H
         by_cases c16:x5_1.length<1466015503701
         ·rw [if_pos c16] at H;have LMc16:=mA c16;clear c16;obtain ⟨y444,hy444⟩:∃ y_:List (S64),y_=(x5_1 ++ [(⟨a1_0,a1_1,(⟨a1_2,a1_3,a1_4,a1_5,a1_6,a1_7,a1_8,a1_9,a1_10,a1_11⟩:S24)⟩:S64)]):=⟨_,rfl⟩
          replace H:(if ((rd_T64 l0 x11_1).f0)=a1_0 then (impl_paperPut.l0 kj6 y444 true l0 (l0.length:Int) (wrap64 (x11_1+1)) a1_0 a1_1 a1_2 a1_3 a1_4 a1_5 a1_6 a1_7 a1_8 a1_9 a1_10 a1_11) else (if y444.length<1466015503701 then (impl_paperPut.l0 kj6 (y444 ++ [(⟨((rd_T64 l0 x11_1).f0),((rd_T64 l0 x11_1).f1),(⟨((rd_T64 l0 x11_1).f2.f0),((rd_T64 l0 x11_1).f2.f1),((rd_T64 l0 x11_1).f2.f2),((rd_T64 l0 x11_1).f2.f3),((rd_T64 l0 x11_1).f2.f4),((rd_T64 l0 x11_1).f2.f5),((rd_T64 l0 x11_1).f2.f6),((rd_T64 l0 x11_1).f2.f7),((rd_T64 l0 x11_1).f2.f8),((rd_T64 l0 x11_1).f2.f9)⟩:S24)⟩:S64)]) true l0 (l0.length:Int) (wrap64 (x11_1+1)) a1_0 a1_1 a1_2 a1_3 a1_4 a1_5 a1_6 a1_7 a1_8 a1_9 a1_10 a1_11) else (none)))=some r:=qH hy444 H
          have Ny444:=mA hy444;clear hy444
          by_cases c17:((rd_T64 l0 x11_1).f0)=a1_0
          ·rw [if_pos c17] at H;obtain ⟨c17b0,c17b1⟩:=eqB c17;clear c17;have H':=mA H;clear H;have hcz19_0:=fun i_=>blk_cell BK438.out i_;have hfz19_0:=fun i_=>blk_frozen BK438.out i_
           go_wp2_with (first|((with_reducible refine gLg rfl (by assumption) ?_);first|refine ldW ?_|refine ldX ?_)|((with_reducible refine gLg rfl (by assumption) ?_);refine ldV ?_)|((with_reducible refine gSt rfl (by assumption) ?_);refine stV ?_)|((with_reducible refine gate_builtin (b:=.append) (xs:=#[.tmp 24,.tmp 26]) rfl ?_);at_builtin;refine Kd.R_append k64 (w0:=w) w.heap.size rfl (.tmp 24) (.tmp 26) 50 64 (.agg #[(.int .i64 0),(.int .i64 0),(.int .i64 0),(.int .i64 0),(.int .i64 0),(.int .i64 0),(.int .i64 0),(.int .i64 0),(.int .i64 0),(.int .i64 0),(.int .i64 0),(.int .i64 0)]) 96 rfl Try.underlying50 info64 rfl aD (by omega) u5 x5_1 (⟨a1_0,a1_1,(⟨a1_2,a1_3,a1_4,a1_5,a1_6,a1_7,a1_8,a1_9,a1_10,a1_11⟩:S24)⟩:S64) [.int .i64 a1_0,.int .i64 a1_1,.int .i64 a1_2,.int .i64 a1_3,.int .i64 a1_4,.int .i64 a1_5,.int .i64 a1_6,.int .i64 a1_7,.int .i64 a1_8,.int .i64 a1_9,.int .i64 a1_10,.int .i64 a1_11] (fun k_=>k_≠gb438∧k_≠gb443) (fun _=>False) rfl rfl ?aP (fun _ hk=>hk.elim) ?aF ?aO ?aB ?aS ?aL ?_;(case aP=>exact k64_mkM _ _ _ (⟨a1_0,a1_1,(⟨a1_2,a1_3,a1_4,a1_5,a1_6,a1_7,a1_8,a1_9,a1_10,a1_11⟩:S24)⟩:S64));(case aB=>exact (pS HB.out));(case aF=>exact (fun k_ hk=>⟨Kd.freshB (g:=gb438) (o:=.cells #[.int .i64 a1_0,.int .i64 a1_1,.int .i64 a1_2,.int .i64 a1_3,.int .i64 a1_4,.int .i64 a1_5,.int .i64 a1_6,.int .i64 a1_7,.int .i64 a1_8,.int .i64 a1_9,.int .i64 a1_10,.int .i64 a1_11] 64 (0,0)) (pK BK438.out) k_ hk,Kd.freshB (g:=gb443) (o:=.cells #[.int .i64 ((rd_T64 l0 x11_1).f0),.int .i64 ((rd_T64 l0 x11_1).f1),.int .i64 ((rd_T64 l0 x11_1).f2.f0),.int .i64 ((rd_T64 l0 x11_1).f2.f1),.int .i64 ((rd_T64 l0 x11_1).f2.f2),.int .i64 ((rd_T64 l0 x11_1).f2.f3),.int .i64 ((rd_T64 l0 x11_1).f2.f4),.int .i64 ((rd_T64 l0 x11_1).f2.f5),.int .i64 ((rd_T64 l0 x11_1).f2.f6),.int .i64 ((rd_T64 l0 x11_1).f2.f7),.int .i64 ((rd_T64 l0 x11_1).f2.f8),.int .i64 ((rd_T64 l0 x11_1).f2.f9)] 64 (0,0)) (pK BK443.out) k_ hk⟩));(case aO=>exact (pR HO_5.out));(case aS=>exact (bpS HB));(case aL=>have:=LMc16.out;omega);intro v445 w20 ho hb hg hat;rw [← Ny444.out] at ho;have HO446:=mA ho;replace BK438:=mA (blk_grown (pK BK438.out) hg (Kd.R_away HO_5.out (fun _ hk=>hk.1)));replace BK443:=mA (blk_grown (pK BK443.out) hg (Kd.R_away HO_5.out (fun _ hk=>hk.2)));replace HB:=mA hb;clear HO_5;clear ho hb hg hat;have hcz21_0:=fun i_=>blk_cell BK443.out i_;have hfz21_0:=fun i_=>blk_frozen BK443.out i_;have hcz22_0:=fun i_=>blk_cell BK438.out i_;have hfz22_0:=fun i_=>blk_frozen BK438.out i_))
           go_roundg kj6
           case measure=>have:=HK1.out;have:=HJ6.out;omega
           case rel=>exact ⟨(y444),(true),(wrap64 (x11_1+1)),bZ,bZ,H',⟨by have:=HK1.out;have:=HJ6.out;omega⟩,⟨pR (Kd.R_mono HO446.out (fun _ hk=>hk.1))⟩,⟨pK BK438.out⟩,⟨pS HB.out⟩⟩
          ·rw [if_neg c17] at H;have c17b0:(((rd_T64 l0 x11_1).f0) == a1_0)=false:=beq_eq_false_iff_ne.mpr c17;have c17b1:(((rd_T64 l0 x11_1).f0) != a1_0)=true:=bne_iff_ne.mpr c17
           by_cases c23:y444.length<1466015503701
           ·rw [if_pos c23] at H;have LMc23:=mA c23;clear c23;obtain ⟨y447,hy447⟩:∃ y_:List (S64),y_=(y444 ++ [(⟨((rd_T64 l0 x11_1).f0),((rd_T64 l0 x11_1).f1),(⟨((rd_T64 l0 x11_1).f2.f0),((rd_T64 l0 x11_1).f2.f1),((rd_T64 l0 x11_1).f2.f2),((rd_T64 l0 x11_1).f2.f3),((rd_T64 l0 x11_1).f2.f4),((rd_T64 l0 x11_1).f2.f5),((rd_T64 l0 x11_1).f2.f6),((rd_T64 l0 x11_1).f2.f7),((rd_T64 l0 x11_1).f2.f8),((rd_T64 l0 x11_1).f2.f9)⟩:S24)⟩:S64)]):=⟨_,rfl⟩
            replace H:(impl_paperPut.l0 kj6 y447 true l0 (l0.length:Int) (wrap64 (x11_1+1)) a1_0 a1_1 a1_2 a1_3 a1_4 a1_5 a1_6 a1_7 a1_8 a1_9 a1_10 a1_11)=some r:=qH hy447 H
            have Ny447:=mA hy447;clear hy447;have H':=mA H;clear H;have hcz25_0:=fun i_=>blk_cell BK438.out i_;have hfz25_0:=fun i_=>blk_frozen BK438.out i_
            go_wp2_with (first|((with_reducible refine gLg rfl (by assumption) ?_);first|refine ldW ?_|refine ldX ?_)|((with_reducible refine gLg rfl (by assumption) ?_);refine ldV ?_)|((with_reducible refine gSt rfl (by assumption) ?_);refine stV ?_)|((with_reducible refine gate_builtin (b:=.append) (xs:=#[.tmp 24,.tmp 26]) rfl ?_);at_builtin;refine Kd.R_append k64 (w0:=w) w.heap.size rfl (.tmp 24) (.tmp 26) 50 64 (.agg #[(.int .i64 0),(.int .i64 0),(.int .i64 0),(.int .i64 0),(.int .i64 0),(.int .i64 0),(.int .i64 0),(.int .i64 0),(.int .i64 0),(.int .i64 0),(.int .i64 0),(.int .i64 0)]) 96 rfl Try.underlying50 info64 rfl aD (by omega) u5 x5_1 (⟨a1_0,a1_1,(⟨a1_2,a1_3,a1_4,a1_5,a1_6,a1_7,a1_8,a1_9,a1_10,a1_11⟩:S24)⟩:S64) [.int .i64 a1_0,.int .i64 a1_1,.int .i64 a1_2,.int .i64 a1_3,.int .i64 a1_4,.int .i64 a1_5,.int .i64 a1_6,.int .i64 a1_7,.int .i64 a1_8,.int .i64 a1_9,.int .i64 a1_10,.int .i64 a1_11] (fun k_=>k_≠gb438∧k_≠gb443) (fun _=>False) rfl rfl ?aP (fun _ hk=>hk.elim) ?aF ?aO ?aB ?aS ?aL ?_;(case aP=>exact k64_mkM _ _ _ (⟨a1_0,a1_1,(⟨a1_2,a1_3,a1_4,a1_5,a1_6,a1_7,a1_8,a1_9,a1_10,a1_11⟩:S24)⟩:S64));(case aB=>exact (pS HB.out));(case aF=>exact (fun k_ hk=>⟨Kd.freshB (g:=gb438) (o:=.cells #[.int .i64 a1_0,.int .i64 a1_1,.int .i64 a1_2,.int .i64 a1_3,.int .i64 a1_4,.int .i64 a1_5,.int .i64 a1_6,.int .i64 a1_7,.int .i64 a1_8,.int .i64 a1_9,.int .i64 a1_10,.int .i64 a1_11] 64 (0,0)) (pK BK438.out) k_ hk,Kd.freshB (g:=gb443) (o:=.cells #[.int .i64 ((rd_T64 l0 x11_1).f0),.int .i64 ((rd_T64 l0 x11_1).f1),.int .i64 ((rd_T64 l0 x11_1).f2.f0),.int .i64 ((rd_T64 l0 x11_1).f2.f1),.int .i64 ((rd_T64 l0 x11_1).f2.f2),.int .i64 ((rd_T64 l0 x11_1).f2.f3),.int .i64 ((rd_T64 l0 x11_1).f2.f4),.int .i64 ((rd_T64 l0 x11_1).f2.f5),.int .i64 ((rd_T64 l0 x11_1).f2.f6),.int .i64 ((rd_T64 l0 x11_1).f2.f7),.int .i64 ((rd_T64 l0 x11_1).f2.f8),.int .i64 ((rd_T64 l0 x11_1).f2.f9)] 64 (0,0)) (pK BK443.out) k_ hk⟩));(case aO=>exact (pR HO_5.out));(case aS=>exact (bpS HB));(case aL=>have:=LMc16.out;omega);intro v445 w26 ho hb hg hat;rw [← Ny444.out] at ho;have HO446:=mA ho;replace BK438:=mA (blk_grown (pK BK438.out) hg (Kd.R_away HO_5.out (fun _ hk=>hk.1)));replace BK443:=mA (blk_grown (pK BK443.out) hg (Kd.R_away HO_5.out (fun _ hk=>hk.2)));replace HB:=mA hb;clear HO_5;clear ho hb hg hat;have hcz27_0:=fun i_=>blk_cell BK443.out i_;have hfz27_0:=fun i_=>blk_frozen BK443.out i_;have hcz28_0:=fun i_=>blk_cell BK438.out i_;have hfz28_0:=fun i_=>blk_frozen BK438.out i_)|((with_reducible refine gate_builtin (b:=.append) (xs:=#[.tmp 33,.tmp 35]) rfl ?_);at_builtin;refine Kd.R_append k64 (w0:=w) w.heap.size rfl (.tmp 33) (.tmp 35) 50 64 (.agg #[(.int .i64 0),(.int .i64 0),(.int .i64 0),(.int .i64 0),(.int .i64 0),(.int .i64 0),(.int .i64 0),(.int .i64 0),(.int .i64 0),(.int .i64 0),(.int .i64 0),(.int .i64 0)]) 96 rfl Try.underlying50 info64 rfl aD (by omega) v445 y444 (⟨((rd_T64 l0 x11_1).f0),((rd_T64 l0 x11_1).f1),(⟨((rd_T64 l0 x11_1).f2.f0),((rd_T64 l0 x11_1).f2.f1),((rd_T64 l0 x11_1).f2.f2),((rd_T64 l0 x11_1).f2.f3),((rd_T64 l0 x11_1).f2.f4),((rd_T64 l0 x11_1).f2.f5),((rd_T64 l0 x11_1).f2.f6),((rd_T64 l0 x11_1).f2.f7),((rd_T64 l0 x11_1).f2.f8),((rd_T64 l0 x11_1).f2.f9)⟩:S24)⟩:S64) [.int .i64 ((rd_T64 l0 x11_1).f0),.int .i64 ((rd_T64 l0 x11_1).f1),.int .i64 ((rd_T64 l0 x11_1).f2.f0),.int .i64 ((rd_T64 l0 x11_1).f2.f1),.int .i64 ((rd_T64 l0 x11_1).f2.f2),.int .i64 ((rd_T64 l0 x11_1).f2.f3),.int .i64 ((rd_T64 l0 x11_1).f2.f4),.int .i64 ((rd_T64 l0 x11_1).f2.f5),.int .i64 ((rd_T64 l0 x11_1).f2.f6),.int .i64 ((rd_T64 l0 x11_1).f2.f7),.int .i64 ((rd_T64 l0 x11_1).f2.f8),.int .i64 ((rd_T64 l0 x11_1).f2.f9)] (fun k_=>k_≠gb438∧k_≠gb443) (fun _=>False) rfl rfl ?aP (fun _ hk=>hk.elim) ?aF ?aO ?aB ?aS ?aL ?_;(case aP=>exact k64_mkM _ _ _ (⟨((rd_T64 l0 x11_1).f0),((rd_T64 l0 x11_1).f1),(⟨((rd_T64 l0 x11_1).f2.f0),((rd_T64 l0 x11_1).f2.f1),((rd_T64 l0 x11_1).f2.f2),((rd_T64 l0 x11_1).f2.f3),((rd_T64 l0 x11_1).f2.f4),((rd_T64 l0 x11_1).f2.f5),((rd_T64 l0 x11_1).f2.f6),((rd_T64 l0 x11_1).f2.f7),((rd_T64 l0 x11_1).f2.f8),((rd_T64 l0 x11_1).f2.f9)⟩:S24)⟩:S64));(case aB=>exact (pS HB.out));(case aF=>exact (fun k_ hk=>⟨Kd.freshB (g:=gb438) (o:=.cells #[.int .i64 a1_0,.int .i64 a1_1,.int .i64 a1_2,.int .i64 a1_3,.int .i64 a1_4,.int .i64 a1_5,.int .i64 a1_6,.int .i64 a1_7,.int .i64 a1_8,.int .i64 a1_9,.int .i64 a1_10,.int .i64 a1_11] 64 (0,0)) (pK BK438.out) k_ hk,Kd.freshB (g:=gb443) (o:=.cells #[.int .i64 ((rd_T64 l0 x11_1).f0),.int .i64 ((rd_T64 l0 x11_1).f1),.int .i64 ((rd_T64 l0 x11_1).f2.f0),.int .i64 ((rd_T64 l0 x11_1).f2.f1),.int .i64 ((rd_T64 l0 x11_1).f2.f2),.int .i64 ((rd_T64 l0 x11_1).f2.f3),.int .i64 ((rd_T64 l0 x11_1).f2.f4),.int .i64 ((rd_T64 l0 x11_1).f2.f5),.int .i64 ((rd_T64 l0 x11_1).f2.f6),.int .i64 ((rd_T64 l0 x11_1).f2.f7),.int .i64 ((rd_T64 l0 x11_1).f2.f8),.int .i64 ((rd_T64 l0 x11_1).f2.f9)] 64 (0,0)) (pK BK443.out) k_ hk⟩));(case aO=>exact (pR HO446.out));(case aS=>exact (bpS HB));(case aL=>have:=LMc23.out;omega);intro v448 w29 ho hb hg hat;rw [← Ny447.out] at ho;have HO449:=mA ho;replace BK438:=mA (blk_grown (pK BK438.out) hg (Kd.R_away HO446.out (fun _ hk=>hk.1)));replace BK443:=mA (blk_grown (pK BK443.out) hg (Kd.R_away HO446.out (fun _ hk=>hk.2)));replace HB:=mA hb;clear HO446;clear ho hb hg hat))
            go_roundg kj6
            case measure=>have:=HK1.out;have:=HJ6.out;omega
            case rel=>exact ⟨(y447),(true),(wrap64 (x11_1+1)),bZ,bZ,H',⟨by have:=HK1.out;have:=HJ6.out;omega⟩,⟨pR (Kd.R_mono HO449.out (fun _ hk=>hk.1))⟩,⟨pK BK438.out⟩,⟨pS HB.out⟩⟩
           ·rw [if_neg c23] at H
            exact absurd H (by simp)
         ·rw [if_neg c16] at H
          exact absurd H (by simp)
        ·replace c15:=Bool.eq_false_iff.mpr c15;subst c15
         rw [if_neg nFT] at H
         by_cases c30:((rd_T64 l0 x11_1).f0)=a1_0
         ·rw [if_pos c30] at H;obtain ⟨c30b0,c30b1⟩:=eqB c30;clear c30;have H':=mA H;clear H;have hcz32_0:=fun i_=>blk_cell BK443.out i_;have hfz32_0:=fun i_=>blk_frozen BK443.out i_;have hcz33_0:=fun i_=>blk_cell BK438.out i_;have hfz33_0:=fun i_=>blk_frozen BK438.out i_
          go_wp2_with (first|((with_reducible refine gLg rfl (by assumption) ?_);first|refine ldW ?_|refine ldX ?_)|((with_reducible refine gLg rfl (by assumption) ?_);refine ldV ?_)|((with_reducible refine gSt rfl (by assumption) ?_);refine stV ?_))
          go_roundg kj6
          case measure=>have:=HK1.out;have:=HJ6.out;omega
          case rel=>exact ⟨(x5_1),(x6_1),(wrap64 (x11_1+1)),bZ,bZ,H',⟨by have:=HK1.out;have:=HJ6.out;omega⟩,⟨pR (Kd.R_mono HO_5.out (fun _ hk=>hk.1))⟩,⟨pK BK438.out⟩,⟨pS HB.out⟩⟩
         ·rw [if_neg c30] at H;have c30b0:(((rd_T64 l0 x11_1).f0) == a1_0)=false:=beq_eq_false_iff_ne.mpr c30;have c30b1:(((rd_T64 l0 x11_1).f0) != a1_0)=true:=bne_iff_ne.mpr c30
          by_cases c34:x5_1.length<1466015503701
          ·rw [if_pos c34] at H;have LMc34:=mA c34;clear c34;obtain ⟨y450,hy450⟩:∃ y_:List (S64),y_=(x5_1 ++ [(⟨((rd_T64 l0 x11_1).f0),((rd_T64 l0 x11_1).f1),(⟨((rd_T64 l0 x11_1).f2.f0),((rd_T64 l0 x11_1).f2.f1),((rd_T64 l0 x11_1).f2.f2),((rd_T64 l0 x11_1).f2.f3),((rd_T64 l0 x11_1).f2.f4),((rd_T64 l0 x11_1).f2.f5),((rd_T64 l0 x11_1).f2.f6),((rd_T64 l0 x11_1).f2.f7),((rd_T64 l0 x11_1).f2.f8),((rd_T64 l0 x11_1).f2.f9)⟩:S24)⟩:S64)]):=⟨_,rfl⟩
           replace H:(impl_paperPut.l0 kj6 y450 x6_1 l0 (l0.length:Int) (wrap64 (x11_1+1)) a1_0 a1_1 a1_2 a1_3 a1_4 a1_5 a1_6 a1_7 a1_8 a1_9 a1_10 a1_11)=some r:=qH hy450 H
           have Ny450:=mA hy450;clear hy450;have H':=mA H;clear H;have hcz36_0:=fun i_=>blk_cell BK443.out i_;have hfz36_0:=fun i_=>blk_frozen BK443.out i_;have hcz37_0:=fun i_=>blk_cell BK438.out i_;have hfz37_0:=fun i_=>blk_frozen BK438.out i_
           go_wp2_with (first|((with_reducible refine gLg rfl (by assumption) ?_);first|refine ldW ?_|refine ldX ?_)|((with_reducible refine gLg rfl (by assumption) ?_);refine ldV ?_)|((with_reducible refine gSt rfl (by assumption) ?_);refine stV ?_)|((with_reducible refine gate_builtin (b:=.append) (xs:=#[.tmp 33,.tmp 35]) rfl ?_);at_builtin;refine Kd.R_append k64 (w0:=w) w.heap.size rfl (.tmp 33) (.tmp 35) 50 64 (.agg #[(.int .i64 0),(.int .i64 0),(.int .i64 0),(.int .i64 0),(.int .i64 0),(.int .i64 0),(.int .i64 0),(.int .i64 0),(.int .i64 0),(.int .i64 0),(.int .i64 0),(.int .i64 0)]) 96 rfl Try.underlying50 info64 rfl aD (by omega) u5 x5_1 (⟨((rd_T64 l0 x11_1).f0),((rd_T64 l0 x11_1).f1),(⟨((rd_T64 l0 x11_1).f2.f0),((rd_T64 l0 x11_1).f2.f1),((rd_T64 l0 x11_1).f2.f2),((rd_T64 l0 x11_1).f2.f3),((rd_T64 l0 x11_1).f2.f4),((rd_T64 l0 x11_1).f2.f5),((rd_T64 l0 x11_1).f2.f6),((rd_T64 l0 x11_1).f2.f7),((rd_T64 l0 x11_1).f2.f8),((rd_T64 l0 x11_1).f2.f9)⟩:S24)⟩:S64) [.int .i64 ((rd_T64 l0 x11_1).f0),.int .i64 ((rd_T64 l0 x11_1).f1),.int .i64 ((rd_T64 l0 x11_1).f2.f0),.int .i64 ((rd_T64 l0 x11_1).f2.f1),.int .i64 ((rd_T64 l0 x11_1).f2.f2),.int .i64 ((rd_T64 l0 x11_1).f2.f3),.int .i64 ((rd_T64 l0 x11_1).f2.f4),.int .i64 ((rd_T64 l0 x11_1).f2.f5),.int .i64 ((rd_T64 l0 x11_1).f2.f6),.int .i64 ((rd_T64 l0 x11_1).f2.f7),.int .i64 ((rd_T64 l0 x11_1).f2.f8),.int .i64 ((rd_T64 l0 x11_1).f2.f9)] (fun k_=>k_≠gb438∧k_≠gb443) (fun _=>False) rfl rfl ?aP (fun _ hk=>hk.elim) ?aF ?aO ?aB ?aS ?aL ?_;(case aP=>exact k64_mkM _ _ _ (⟨((rd_T64 l0 x11_1).f0),((rd_T64 l0 x11_1).f1),(⟨((rd_T64 l0 x11_1).f2.f0),((rd_T64 l0 x11_1).f2.f1),((rd_T64 l0 x11_1).f2.f2),((rd_T64 l0 x11_1).f2.f3),((rd_T64 l0 x11_1).f2.f4),((rd_T64 l0 x11_1).f2.f5),((rd_T64 l0 x11_1).f2.f6),((rd_T64 l0 x11_1).f2.f7),((rd_T64 l0 x11_1).f2.f8),((rd_T64 l0 x11_1).f2.f9)⟩:S24)⟩:S64));(case aB=>exact (pS HB.out));(case aF=>exact (fun k_ hk=>⟨Kd.freshB (g:=gb438) (o:=.cells #[.int .i64 a1_0,.int .i64 a1_1,.int .i64 a1_2,.int .i64 a1_3,.int .i64 a1_4,.int .i64 a1_5,.int .i64 a1_6,.int .i64 a1_7,.int .i64 a1_8,.int .i64 a1_9,.int .i64 a1_10,.int .i64 a1_11] 64 (0,0)) (pK BK438.out) k_ hk,Kd.freshB (g:=gb443) (o:=.cells #[.int .i64 ((rd_T64 l0 x11_1).f0),.int .i64 ((rd_T64 l0 x11_1).f1),.int .i64 ((rd_T64 l0 x11_1).f2.f0),.int .i64 ((rd_T64 l0 x11_1).f2.f1),.int .i64 ((rd_T64 l0 x11_1).f2.f2),.int .i64 ((rd_T64 l0 x11_1).f2.f3),.int .i64 ((rd_T64 l0 x11_1).f2.f4),.int .i64 ((rd_T64 l0 x11_1).f2.f5),.int .i64 ((rd_T64 l0 x11_1).f2.f6),.int .i64 ((rd_T64 l0 x11_1).f2.f7),.int .i64 ((rd_T64 l0 x11_1).f2.f8),.int .i64 ((rd_T64 l0 x11_1).f2.f9)] 64 (0,0)) (pK BK443.out) k_ hk⟩));(case aO=>exact (pR HO_5.out));(case aS=>exact (bpS HB));(case aL=>have:=LMc34.out;omega);intro v451 w38 ho hb hg hat;rw [← Ny450.out] at ho;have HO452:=mA ho;replace BK438:=mA (blk_grown (pK BK438.out) hg (Kd.R_away HO_5.out (fun _ hk=>hk.1)));replace BK443:=mA (blk_grown (pK BK443.out) hg (Kd.R_away HO_5.out (fun _ hk=>hk.2)));replace HB:=mA hb;clear HO_5;clear ho hb hg hat))
           go_roundg kj6
           case measure=>have:=HK1.out;have:=HJ6.out;omega
           case rel=>exact ⟨(y450),(x6_1),(wrap64 (x11_1+1)),bZ,bZ,H',⟨by have:=HK1.out;have:=HJ6.out;omega⟩,⟨pR (Kd.R_mono HO452.out (fun _ hk=>hk.1))⟩,⟨pK BK438.out⟩,⟨pS HB.out⟩⟩
          ·rw [if_neg c34] at H
           exact absurd H (by simp)
     ·rw [if_neg c6] at H
      exact absurd H (by simp)
    ·rw [if_neg c5] at H
     exact absurd H (by simp)
   ·rw [if_neg c4] at H;have c4b0:decide (x11_1<(l0.length:Int))=false:=decide_eq_false c4;clear c4
    by_cases c39:x6_1=true
    ·subst c39;rw [if_pos rfl] at H;obtain rfl:=Option.some.inj H
     go_wp2_with (first|((with_reducible refine gLg rfl (by assumption) ?_);first|refine ldW ?_|refine ldX ?_)|((with_reducible refine gLg rfl (by assumption) ?_);refine ldV ?_)|((with_reducible refine gSt rfl (by assumption) ?_);refine stV ?_))
     go_ret
     exact ⟨_,by first|rfl|(simp [errW_none,errW_some]<;>rfl)|(simp [*,errW_none,errW_some]<;>rfl),pR (Kd.R_mono HO_5.out (fun _ hk=>trivial)),pS HB.out⟩
    ·replace c39:=Bool.eq_false_iff.mpr c39;subst c39
     rw [if_neg nFT] at H
     by_cases c40:x5_1.length<1466015503701
     ·rw [if_pos c40] at H;have LMc40:=mA c40;clear c40;obtain ⟨y439,hy439⟩:∃ y_:List (S64),y_=(x5_1 ++ [(⟨a1_0,a1_1,(⟨a1_2,a1_3,a1_4,a1_5,a1_6,a1_7,a1_8,a1_9,a1_10,a1_11⟩:S24)⟩:S64)]):=⟨_,rfl⟩
      replace H:(some y439)=some r:=qH hy439 H
      have Ny439:=mA hy439;clear hy439;obtain rfl:=Option.some.inj H;have hcz41_0:=fun i_=>blk_cell BK438.out i_;have hfz41_0:=fun i_=>blk_frozen BK438.out i_
      go_wp2_with (first|((with_reducible refine gLg rfl (by assumption) ?_);first|refine ldW ?_|refine ldX ?_)|((with_reducible refine gLg rfl (by assumption) ?_);refine ldV ?_)|((with_reducible refine gSt rfl (by assumption) ?_);refine stV ?_)|((with_reducible refine gate_builtin (b:=.append) (xs:=#[.tmp 40,.tmp 42]) rfl ?_);at_builtin;refine Kd.R_append k64 (w0:=w) w.heap.size rfl (.tmp 40) (.tmp 42) 50 64 (.agg #[(.int .i64 0),(.int .i64 0),(.int .i64 0),(.int .i64 0),(.int .i64 0),(.int .i64 0),(.int .i64 0),(.int .i64 0),(.int .i64 0),(.int .i64 0),(.int .i64 0),(.int .i64 0)]) 96 rfl Try.underlying50 info64 rfl aD (by omega) u5 x5_1 (⟨a1_0,a1_1,(⟨a1_2,a1_3,a1_4,a1_5,a1_6,a1_7,a1_8,a1_9,a1_10,a1_11⟩:S24)⟩:S64) [.int .i64 a1_0,.int .i64 a1_1,.int .i64 a1_2,.int .i64 a1_3,.int .i64 a1_4,.int .i64 a1_5,.int .i64 a1_6,.int .i64 a1_7,.int .i64 a1_8,.int .i64 a1_9,.int .i64 a1_10,.int .i64 a1_11] (fun k_=>k_≠gb438) (fun _=>False) rfl rfl ?aP (fun _ hk=>hk.elim) ?aF ?aO ?aB ?aS ?aL ?_;(case aP=>exact k64_mkM _ _ _ (⟨a1_0,a1_1,(⟨a1_2,a1_3,a1_4,a1_5,a1_6,a1_7,a1_8,a1_9,a1_10,a1_11⟩:S24)⟩:S64));(case aB=>exact (pS HB.out));(case aF=>exact (fun k_ hk=>Kd.freshB (g:=gb438) (o:=.cells #[.int .i64 a1_0,.int .i64 a1_1,.int .i64 a1_2,.int .i64 a1_3,.int .i64 a1_4,.int .i64 a1_5,.int .i64 a1_6,.int .i64 a1_7,.int .i64 a1_8,.int .i64 a1_9,.int .i64 a1_10,.int .i64 a1_11] 64 (0,0)) (pK BK438.out) k_ hk));(case aO=>exact (pR HO_5.out));(case aS=>exact (bpS HB));(case aL=>have:=LMc40.out;omega);intro v440 w42 ho hb hg hat;rw [← Ny439.out] at ho;have HO441:=mA ho;replace BK438:=mA (blk_grown (pK BK438.out) hg (Kd.R_away HO_5.out (fun _ hk=>hk)));replace HB:=mA hb;clear HO_5;clear ho hb hg hat))
      go_ret
      exact ⟨_,by first|rfl|(simp [errW_none,errW_some]<;>rfl)|(simp [*,errW_none,errW_some]<;>rfl),pR (Kd.R_mono HO441.out (fun _ hk=>trivial)),pS HB.out⟩
     ·rw [if_neg c40] at H
      exact absurd H (by simp)
end Go.Proofs.Ytoieojmfkkidnaa.P
