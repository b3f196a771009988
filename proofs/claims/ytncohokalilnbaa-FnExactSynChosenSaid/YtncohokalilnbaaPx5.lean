-- printed by pprint.py (this session's program over the kit's printer) out of the translation. Lean checks it.
import Derived.Test.YtncohokalilnbaaPx0
import Derived.Test.YtncohokalilnbaaPx3
import Derived.Test.YtncohokalilnbaaPx4
namespace Go.Proofs.Ytncohokalilnbaa.P
open Go.RowKit Go.Proofs.YtncohokalilnbaaX Go.Proofs.YtncohokalilnbaaW.PrintWords Go.Proofs.YtncohokalilnbaaW.PrintLast Go.Proofs.YtncohokalilnbaaW.PrintMore
attribute [local go_sem] max2_int min2_int max_two min_two max_three min_three max_four min_four   -- for this text's walks alone
set_option linter.unusedVariables false
set_option linter.unusedSimpArgs false

/-! ### laws_eqSynCouncil: function 12 -/
def laws_eqSynCouncil.f (k : Nat) (l0_0 : List (S84)) (l0_1 : List Int) (l0_2 : List (S88)) (l0_3 : List (S93)) (l0_4 : List (S53)) (l1_0 : List (S84)) (l1_1 : List Int) (l1_2 : List (S88)) (l1_3 : List (S93)) (l1_4 : List (S53)) : Option (Bool) := (laws_eqSynVoterS.f k l0_0 l1_0).bind fun t145 => (if t145 = true then ((laws_eqIntS.f k l0_1 l1_1).bind fun t146 => (if t146 = true then ((laws_eqSynSeekerS.f k l0_2 l1_2).bind fun t147 => (if t147 = true then ((laws_eqWordS.f k l0_3 l1_3).bind fun t148 => (if t148 = true then ((laws_eqSynPaperS.f k l0_4 l1_4).bind fun t149 => (if t149 = true then (some true) else (some false))) else (some false))) else (some false))) else (some false))) else (some false))
theorem laws_eqSynCouncil.mono : ∀ a0 a1 a2 a3 a4 a5 a6 a7 a8 a9 k, LeO (laws_eqSynCouncil.f k a0 a1 a2 a3 a4 a5 a6 a7 a8 a9) (laws_eqSynCouncil.f (k + 1) a0 a1 a2 a3 a4 a5 a6 a7 a8 a9) := by
 intro a0 a1 a2 a3 a4 a5 a6 a7 a8 a9 k
 unfold laws_eqSynCouncil.f
 repeat' first
   | (with_reducible first|apply laws_eqIntS.mono|apply laws_eqSynPaperS.mono|apply laws_eqSynSeekerS.mono|apply laws_eqSynVoterS.mono|apply laws_eqWordS.mono|exact LeO.refl _|exact LeO.none _|refine LeO.ite ?_ ?_|refine LeO.bind ?_ (fun _=>?_))|exact LeO.none _|refine LeO.ite ?_ ?_|refine LeO.bind ?_ (fun _=>?_)
set_option maxHeartbeats 8000000 in
set_option maxRecDepth 100000 in
theorem laws_eqSynCouncil.calls {k : Nat} {A0_0 : Option Addr} {c0_0 : Nat} {l0_0 : List (S84)} {A0_1 : Option Addr} {c0_1 : Nat} {l0_1 : List Int} {A0_2 : Option Addr} {c0_2 : Nat} {l0_2 : List (S88)} {A0_3 : Option Addr} {c0_3 : Nat} {l0_3 : List (S93)} {A0_4 : Option Addr} {c0_4 : Nat} {l0_4 : List (S53)} {A1_0 : Option Addr} {c1_0 : Nat} {l1_0 : List (S84)} {A1_1 : Option Addr} {c1_1 : Nat} {l1_1 : List Int} {A1_2 : Option Addr} {c1_2 : Nat} {l1_2 : List (S88)} {A1_3 : Option Addr} {c1_3 : Nat} {l1_3 : List (S93)} {A1_4 : Option Addr} {c1_4 : Nat} {l1_4 : List (S53)} {r : Bool} {w : World} (hr0_0 : Kd.C k84 w A0_0 l0_0.length l0_0) (hc0_0 : l0_0.length ≤ c0_0) (hr0_1 : Kd.C (Kd.int .i64) w A0_1 l0_1.length l0_1) (hc0_1 : l0_1.length ≤ c0_1) (hr0_2 : Kd.C k88 w A0_2 l0_2.length l0_2) (hc0_2 : l0_2.length ≤ c0_2) (hr0_3 : Kd.C k93 w A0_3 l0_3.length l0_3) (hc0_3 : l0_3.length ≤ c0_3) (hr0_4 : Kd.C k53 w A0_4 l0_4.length l0_4) (hc0_4 : l0_4.length ≤ c0_4) (hr1_0 : Kd.C k84 w A1_0 l1_0.length l1_0) (hc1_0 : l1_0.length ≤ c1_0) (hr1_1 : Kd.C (Kd.int .i64) w A1_1 l1_1.length l1_1) (hc1_1 : l1_1.length ≤ c1_1) (hr1_2 : Kd.C k88 w A1_2 l1_2.length l1_2) (hc1_2 : l1_2.length ≤ c1_2) (hr1_3 : Kd.C k93 w A1_3 l1_3.length l1_3) (hc1_3 : l1_3.length ≤ c1_3) (hr1_4 : Kd.C k53 w A1_4 l1_4.length l1_4) (hc1_4 : l1_4.length ≤ c1_4) (h : laws_eqSynCouncil.f k l0_0 l0_1 l0_2 l0_3 l0_4 l1_0 l1_1 l1_2 l1_3 l1_4 = some r) :
  Calls Try.prog 12 #[.agg #[.slice A0_0 l0_0.length c0_0,.slice A0_1 l0_1.length c0_1,.slice A0_2 l0_2.length c0_2,.slice A0_3 l0_3.length c0_3,.slice A0_4 l0_4.length c0_4],.agg #[.slice A1_0 l1_0.length c1_0,.slice A1_1 l1_1.length c1_1,.slice A1_2 l1_2.length c1_2,.slice A1_3 l1_3.length c1_3,.slice A1_4 l1_4.length c1_4]] w fun e w'=>e=.returned (.bool r)∧Below w.heap.size w w':=by
 have hu28:=Try.underlying28;have HR0_0:=mA hr0_0;have HC0_0:=mA hc0_0;clear hr0_0 hc0_0;have HR0_1:=mA hr0_1;have HC0_1:=mA hc0_1;clear hr0_1 hc0_1;have HR0_2:=mA hr0_2;have HC0_2:=mA hc0_2;clear hr0_2 hc0_2;have HR0_3:=mA hr0_3;have HC0_3:=mA hc0_3;clear hr0_3 hc0_3;have HR0_4:=mA hr0_4;have HC0_4:=mA hc0_4;clear hr0_4 hc0_4;have HR1_0:=mA hr1_0;have HC1_0:=mA hc1_0;clear hr1_0 hc1_0;have HR1_1:=mA hr1_1;have HC1_1:=mA hc1_1;clear hr1_1 hc1_1;have HR1_2:=mA hr1_2;have HC1_2:=mA hc1_2;clear hr1_2 hc1_2;have HR1_3:=mA hr1_3;have HC1_3:=mA hc1_3;clear hr1_3 hc1_3;have HR1_4:=mA hr1_4;have HC1_4:=mA hc1_4;clear hr1_4 hc1_4;have HB:=mA (Below.refl w.heap.size w);have H:((laws_eqSynVoterS.f k l0_0 l1_0).bind fun t145=>(if t145=true then ((laws_eqIntS.f k l0_1 l1_1).bind fun t146=>(if t146=true then ((laws_eqSynSeekerS.f k l0_2 l1_2).bind fun t147=>(if t147=true then ((laws_eqWordS.f k l0_3 l1_3).bind fun t148=>(if t148=true then ((laws_eqSynPaperS.f k l0_4 l1_4).bind fun t149=>(if t149=true then (some true) else (some false))) else (some false))) else (some false))) else (some false))) else (some false)))=some r:=h;clear h;obtain ⟨t145,A3,H⟩:=bI H;(try dsimp only at H)
 by_cases c4:t145=true
 ·subst c4;rw [if_pos rfl] at H;obtain ⟨t146,A5,H⟩:=bI H;(try dsimp only at H)
  by_cases c6:t146=true
  ·subst c6;rw [if_pos rfl] at H;obtain ⟨t147,A7,H⟩:=bI H;(try dsimp only at H)
   by_cases c8:t147=true
   ·subst c8;rw [if_pos rfl] at H;obtain ⟨t148,A9,H⟩:=bI H;(try dsimp only at H)
    by_cases c10:t148=true
    ·subst c10;rw [if_pos rfl] at H;obtain ⟨t149,A11,H⟩:=bI H;(try dsimp only at H)
     by_cases c12:t149=true
     ·subst c12;rw [if_pos rfl] at H;obtain rfl:=Option.some.inj H
      go_enter Try.func12,Try.ntmps12
      go_wp2_with (first|((with_reducible refine gT 2 rfl ?_);refine bX 2 ?_;intro gb143 hg w13 hbox hb;have BK143:=mA hbox;have GW143:=gbpB HB hg;have GE143:=gbpB HB hg;replace HB:=spB HB hb;clear hb hbox hg)|((with_reducible refine gT 3 rfl ?_);refine bX 3 ?_;intro gb144 hg w14 hbox hb;have BK144:=mA hbox;have GW144:=gbpS HB hg;have GE144:=gbpS HB hg;replace HB:=spS HB hb;have NB143_144:=mA (lN (blk_lt (pK BK143.out)) hg);have hN143_144:=NB143_144.out;have NB144_143:=nS NB143_144;have hN144_143:=NB144_143.out;replace BK143:=bK BK143 hb;clear hb hbox hg;obtain ⟨hcz16_0,hcz16_1,hcz16_2,hcz16_3,hcz16_4,hfz16_0,hfz16_1,hfz16_2,hfz16_3,hfz16_4⟩:=box5 BK143.out;obtain ⟨hcz17_0,hcz17_1,hcz17_2,hcz17_3,hcz17_4,hfz17_0,hfz17_1,hfz17_2,hfz17_3,hfz17_4⟩:=box5 BK144.out)|((with_reducible refine gT 9 rfl ?_);refine gC (some 9) Try.func34 (laws_eqSynVoterS.calls (cB HR0_0 HB) HC0_0.out (cB HR1_0 HB) HC1_0.out A3.out) ?_;rintro e w18 ⟨rfl,hb⟩;refine ⟨_,rfl,?_⟩;replace BK143:=bK BK143 hb;replace BK144:=bK BK144 hb;replace HB:=spS HB hb;(try clear hb);obtain ⟨hcz19_0,hcz19_1,hcz19_2,hcz19_3,hcz19_4,hfz19_0,hfz19_1,hfz19_2,hfz19_3,hfz19_4⟩:=box5 BK143.out;obtain ⟨hcz20_0,hcz20_1,hcz20_2,hcz20_3,hcz20_4,hfz20_0,hfz20_1,hfz20_2,hfz20_3,hfz20_4⟩:=box5 BK144.out)|((with_reducible refine gT 15 rfl ?_);refine gC (some 15) Try.func35 (laws_eqIntS.calls (cB HR0_1 HB) HC0_1.out (cB HR1_1 HB) HC1_1.out A5.out) ?_;rintro e w' ⟨rfl,⟨nd,rfl⟩⟩;refine ⟨_,rfl,?_⟩)|((with_reducible refine gT 21 rfl ?_);refine gC (some 21) Try.func36 (laws_eqSynSeekerS.calls (pC (Kd.C_below HR0_2.out (pS HB.out))) HC0_2.out (pC (Kd.C_below HR1_2.out (pS HB.out))) HC1_2.out A7.out) ?_;rintro e w21 ⟨rfl,hb⟩;refine ⟨_,rfl,?_⟩;replace BK143:=bK BK143 hb;replace BK144:=bK BK144 hb;replace HB:=spS HB hb;(try clear hb);obtain ⟨hcz22_0,hcz22_1,hcz22_2,hcz22_3,hcz22_4,hfz22_0,hfz22_1,hfz22_2,hfz22_3,hfz22_4⟩:=box5 BK143.out;obtain ⟨hcz23_0,hcz23_1,hcz23_2,hcz23_3,hcz23_4,hfz23_0,hfz23_1,hfz23_2,hfz23_3,hfz23_4⟩:=box5 BK144.out)|((with_reducible refine gT 27 rfl ?_);refine gC (some 27) Try.func37 (laws_eqWordS.calls (cB HR0_3 HB) HC0_3.out (cB HR1_3 HB) HC1_3.out A9.out) ?_;rintro e w24 ⟨rfl,hb⟩;refine ⟨_,rfl,?_⟩;replace BK143:=bK BK143 hb;replace BK144:=bK BK144 hb;replace HB:=spS HB hb;(try clear hb);obtain ⟨hcz25_0,hcz25_1,hcz25_2,hcz25_3,hcz25_4,hfz25_0,hfz25_1,hfz25_2,hfz25_3,hfz25_4⟩:=box5 BK143.out;obtain ⟨hcz26_0,hcz26_1,hcz26_2,hcz26_3,hcz26_4,hfz26_0,hfz26_1,hfz26_2,hfz26_3,hfz26_4⟩:=box5 BK144.out)|((with_reducible refine gT 33 rfl ?_);refine gC (some 33) Try.func38 (laws_eqSynPaperS.calls (cB HR0_4 HB) HC0_4.out (cB HR1_4 HB) HC1_4.out A11.out) ?_;rintro e w27 ⟨rfl,hb⟩;refine ⟨_,rfl,?_⟩;replace BK143:=bK BK143 hb;replace BK144:=bK BK144 hb;replace HB:=spS HB hb;(try clear hb)))
      go_ret
      exact rZ (pS HB.out)
     ·replace c12:=Bool.eq_false_iff.mpr c12;subst c12
      rw [if_neg nFT] at H
      obtain rfl:=Option.some.inj H
      go_enter Try.func12,Try.ntmps12
      go_wp2_with (first|((with_reducible refine gT 2 rfl ?_);refine bX 2 ?_;intro gb143 hg w28 hbox hb;have BK143:=mA hbox;have GW143:=gbpB HB hg;have GE143:=gbpB HB hg;replace HB:=spB HB hb;clear hb hbox hg)|((with_reducible refine gT 3 rfl ?_);refine bX 3 ?_;intro gb144 hg w29 hbox hb;have BK144:=mA hbox;have GW144:=gbpS HB hg;have GE144:=gbpS HB hg;replace HB:=spS HB hb;have NB143_144:=mA (lN (blk_lt (pK BK143.out)) hg);have hN143_144:=NB143_144.out;have NB144_143:=nS NB143_144;have hN144_143:=NB144_143.out;replace BK143:=bK BK143 hb;clear hb hbox hg;obtain ⟨hcz31_0,hcz31_1,hcz31_2,hcz31_3,hcz31_4,hfz31_0,hfz31_1,hfz31_2,hfz31_3,hfz31_4⟩:=box5 BK143.out;obtain ⟨hcz32_0,hcz32_1,hcz32_2,hcz32_3,hcz32_4,hfz32_0,hfz32_1,hfz32_2,hfz32_3,hfz32_4⟩:=box5 BK144.out)|((with_reducible refine gT 9 rfl ?_);refine gC (some 9) Try.func34 (laws_eqSynVoterS.calls (cB HR0_0 HB) HC0_0.out (cB HR1_0 HB) HC1_0.out A3.out) ?_;rintro e w33 ⟨rfl,hb⟩;refine ⟨_,rfl,?_⟩;replace BK143:=bK BK143 hb;replace BK144:=bK BK144 hb;replace HB:=spS HB hb;(try clear hb);obtain ⟨hcz34_0,hcz34_1,hcz34_2,hcz34_3,hcz34_4,hfz34_0,hfz34_1,hfz34_2,hfz34_3,hfz34_4⟩:=box5 BK143.out;obtain ⟨hcz35_0,hcz35_1,hcz35_2,hcz35_3,hcz35_4,hfz35_0,hfz35_1,hfz35_2,hfz35_3,hfz35_4⟩:=box5 BK144.out)|((with_reducible refine gT 15 rfl ?_);refine gC (some 15) Try.func35 (laws_eqIntS.calls (cB HR0_1 HB) HC0_1.out (cB HR1_1 HB) HC1_1.out A5.out) ?_;rintro e w' ⟨rfl,⟨nd,rfl⟩⟩;refine ⟨_,rfl,?_⟩)|((with_reducible refine gT 21 rfl ?_);refine gC (some 21) Try.func36 (laws_eqSynSeekerS.calls (pC (Kd.C_below HR0_2.out (pS HB.out))) HC0_2.out (pC (Kd.C_below HR1_2.out (pS HB.out))) HC1_2.out A7.out) ?_;rintro e w36 ⟨rfl,hb⟩;refine ⟨_,rfl,?_⟩;replace BK143:=bK BK143 hb;replace BK144:=bK BK144 hb;replace HB:=spS HB hb;(try clear hb);obtain ⟨hcz37_0,hcz37_1,hcz37_2,hcz37_3,hcz37_4,hfz37_0,hfz37_1,hfz37_2,hfz37_3,hfz37_4⟩:=box5 BK143.out;obtain ⟨hcz38_0,hcz38_1,hcz38_2,hcz38_3,hcz38_4,hfz38_0,hfz38_1,hfz38_2,hfz38_3,hfz38_4⟩:=box5 BK144.out)|((with_reducible refine gT 27 rfl ?_);refine gC (some 27) Try.func37 (laws_eqWordS.calls (cB HR0_3 HB) HC0_3.out (cB HR1_3 HB) HC1_3.out A9.out) ?_;rintro e w39 ⟨rfl,hb⟩;refine ⟨_,rfl,?_⟩;replace BK143:=bK BK143 hb;replace BK144:=bK BK144 hb;replace HB:=spS HB hb;(try clear hb);obtain ⟨hcz40_0,hcz40_1,hcz40_2,hcz40_3,hcz40_4,hfz40_0,hfz40_1,hfz40_2,hfz40_3,hfz40_4⟩:=box5 BK143.out;obtain ⟨hcz41_0,hcz41_1,hcz41_2,hcz41_3,hcz41_4,hfz41_0,hfz41_1,hfz41_2,hfz41_3,hfz41_4⟩:=box5 BK144.out)|((with_reducible refine gT 33 rfl ?_);refine gC (some 33) Try.func38 (laws_eqSynPaperS.calls (cB HR0_4 HB) HC0_4.out (cB HR1_4 HB) HC1_4.out A11.out) ?_;rintro e w42 ⟨rfl,hb⟩;refine ⟨_,rfl,?_⟩;replace BK143:=bK BK143 hb;replace BK144:=bK BK144 hb;replace HB:=spS HB hb;(try clear hb)))
      go_ret
      exact rZ (pS HB.out)
    ·replace c10:=Bool.eq_false_iff.mpr c10;subst c10
     rw [if_neg nFT] at H
     obtain rfl:=Option.some.inj H
     go_enter Try.func12,Try.ntmps12
     go_wp2_with (first|((with_reducible refine gT 2 rfl ?_);refine bX 2 ?_;intro gb143 hg w43 hbox hb;have BK143:=mA hbox;have GW143:=gbpB HB hg;have GE143:=gbpB HB hg;replace HB:=spB HB hb;clear hb hbox hg)|((with_reducible refine gT 3 rfl ?_);refine bX 3 ?_;intro gb144 hg w44 hbox hb;have BK144:=mA hbox;have GW144:=gbpS HB hg;have GE144:=gbpS HB hg;replace HB:=spS HB hb;have NB143_144:=mA (lN (blk_lt (pK BK143.out)) hg);have hN143_144:=NB143_144.out;have NB144_143:=nS NB143_144;have hN144_143:=NB144_143.out;replace BK143:=bK BK143 hb;clear hb hbox hg;obtain ⟨hcz46_0,hcz46_1,hcz46_2,hcz46_3,hcz46_4,hfz46_0,hfz46_1,hfz46_2,hfz46_3,hfz46_4⟩:=box5 BK143.out;obtain ⟨hcz47_0,hcz47_1,hcz47_2,hcz47_3,hcz47_4,hfz47_0,hfz47_1,hfz47_2,hfz47_3,hfz47_4⟩:=box5 BK144.out)|((with_reducible refine gT 9 rfl ?_);refine gC (some 9) Try.func34 (laws_eqSynVoterS.calls (cB HR0_0 HB) HC0_0.out (cB HR1_0 HB) HC1_0.out A3.out) ?_;rintro e w48 ⟨rfl,hb⟩;refine ⟨_,rfl,?_⟩;replace BK143:=bK BK143 hb;replace BK144:=bK BK144 hb;replace HB:=spS HB hb;(try clear hb);obtain ⟨hcz49_0,hcz49_1,hcz49_2,hcz49_3,hcz49_4,hfz49_0,hfz49_1,hfz49_2,hfz49_3,hfz49_4⟩:=box5 BK143.out;obtain ⟨hcz50_0,hcz50_1,hcz50_2,hcz50_3,hcz50_4,hfz50_0,hfz50_1,hfz50_2,hfz50_3,hfz50_4⟩:=box5 BK144.out)|((with_reducible refine gT 15 rfl ?_);refine gC (some 15) Try.func35 (laws_eqIntS.calls (cB HR0_1 HB) HC0_1.out (cB HR1_1 HB) HC1_1.out A5.out) ?_;rintro e w' ⟨rfl,⟨nd,rfl⟩⟩;refine ⟨_,rfl,?_⟩)|((with_reducible refine gT 21 rfl ?_);refine gC (some 21) Try.func36 (laws_eqSynSeekerS.calls (pC (Kd.C_below HR0_2.out (pS HB.out))) HC0_2.out (pC (Kd.C_below HR1_2.out (pS HB.out))) HC1_2.out A7.out) ?_;rintro e w51 ⟨rfl,hb⟩;refine ⟨_,rfl,?_⟩;replace BK143:=bK BK143 hb;replace BK144:=bK BK144 hb;replace HB:=spS HB hb;(try clear hb);obtain ⟨hcz52_0,hcz52_1,hcz52_2,hcz52_3,hcz52_4,hfz52_0,hfz52_1,hfz52_2,hfz52_3,hfz52_4⟩:=box5 BK143.out;obtain ⟨hcz53_0,hcz53_1,hcz53_2,hcz53_3,hcz53_4,hfz53_0,hfz53_1,hfz53_2,hfz53_3,hfz53_4⟩:=box5 BK144.out)|((with_reducible refine gT 27 rfl ?_);refine gC (some 27) Try.func37 (laws_eqWordS.calls (cB HR0_3 HB) HC0_3.out (cB HR1_3 HB) HC1_3.out A9.out) ?_;rintro e w54 ⟨rfl,hb⟩;refine ⟨_,rfl,?_⟩;replace BK143:=bK BK143 hb;replace BK144:=bK BK144 hb;replace HB:=spS HB hb;(try clear hb)))
     go_ret
     exact rZ (pS HB.out)
   ·replace c8:=Bool.eq_false_iff.mpr c8;subst c8
    rw [if_neg nFT] at H
    obtain rfl:=Option.some.inj H
    go_enter Try.func12,Try.ntmps12
    go_wp2_with (first|((with_reducible refine gT 2 rfl ?_);refine bX 2 ?_;intro gb143 hg w55 hbox hb;have BK143:=mA hbox;have GW143:=gbpB HB hg;have GE143:=gbpB HB hg;replace HB:=spB HB hb;clear hb hbox hg)|((with_reducible refine gT 3 rfl ?_);refine bX 3 ?_;intro gb144 hg w56 hbox hb;have BK144:=mA hbox;have GW144:=gbpS HB hg;have GE144:=gbpS HB hg;replace HB:=spS HB hb;have NB143_144:=mA (lN (blk_lt (pK BK143.out)) hg);have hN143_144:=NB143_144.out;have NB144_143:=nS NB143_144;have hN144_143:=NB144_143.out;replace BK143:=bK BK143 hb;clear hb hbox hg;obtain ⟨hcz58_0,hcz58_1,hcz58_2,hcz58_3,hcz58_4,hfz58_0,hfz58_1,hfz58_2,hfz58_3,hfz58_4⟩:=box5 BK143.out;obtain ⟨hcz59_0,hcz59_1,hcz59_2,hcz59_3,hcz59_4,hfz59_0,hfz59_1,hfz59_2,hfz59_3,hfz59_4⟩:=box5 BK144.out)|((with_reducible refine gT 9 rfl ?_);refine gC (some 9) Try.func34 (laws_eqSynVoterS.calls (cB HR0_0 HB) HC0_0.out (cB HR1_0 HB) HC1_0.out A3.out) ?_;rintro e w60 ⟨rfl,hb⟩;refine ⟨_,rfl,?_⟩;replace BK143:=bK BK143 hb;replace BK144:=bK BK144 hb;replace HB:=spS HB hb;(try clear hb);obtain ⟨hcz61_0,hcz61_1,hcz61_2,hcz61_3,hcz61_4,hfz61_0,hfz61_1,hfz61_2,hfz61_3,hfz61_4⟩:=box5 BK143.out;obtain ⟨hcz62_0,hcz62_1,hcz62_2,hcz62_3,hcz62_4,hfz62_0,hfz62_1,hfz62_2,hfz62_3,hfz62_4⟩:=box5 BK144.out)|((with_reducible refine gT 15 rfl ?_);refine gC (some 15) Try.func35 (laws_eqIntS.calls (cB HR0_1 HB) HC0_1.out (cB HR1_1 HB) HC1_1.out A5.out) ?_;rintro e w' ⟨rfl,⟨nd,rfl⟩⟩;refine ⟨_,rfl,?_⟩)|((with_reducible refine gT 21 rfl ?_);refine gC (some 21) Try.func36 (laws_eqSynSeekerS.calls (pC (Kd.C_below HR0_2.out (pS HB.out))) HC0_2.out (pC (Kd.C_below HR1_2.out (pS HB.out))) HC1_2.out A7.out) ?_;rintro e w63 ⟨rfl,hb⟩;refine ⟨_,rfl,?_⟩;replace BK143:=bK BK143 hb;replace BK144:=bK BK144 hb;replace HB:=spS HB hb;(try clear hb)))
    go_ret
    exact rZ (pS HB.out)
  ·replace c6:=Bool.eq_false_iff.mpr c6;subst c6
   rw [if_neg nFT] at H
   obtain rfl:=Option.some.inj H
   go_enter Try.func12,Try.ntmps12
   go_wp2_with (first|((with_reducible refine gT 2 rfl ?_);refine bX 2 ?_;intro gb143 hg w64 hbox hb;have BK143:=mA hbox;have GW143:=gbpB HB hg;have GE143:=gbpB HB hg;replace HB:=spB HB hb;clear hb hbox hg)|((with_reducible refine gT 3 rfl ?_);refine bX 3 ?_;intro gb144 hg w65 hbox hb;have BK144:=mA hbox;have GW144:=gbpS HB hg;have GE144:=gbpS HB hg;replace HB:=spS HB hb;have NB143_144:=mA (lN (blk_lt (pK BK143.out)) hg);have hN143_144:=NB143_144.out;have NB144_143:=nS NB143_144;have hN144_143:=NB144_143.out;replace BK143:=bK BK143 hb;clear hb hbox hg;obtain ⟨hcz67_0,hcz67_1,hcz67_2,hcz67_3,hcz67_4,hfz67_0,hfz67_1,hfz67_2,hfz67_3,hfz67_4⟩:=box5 BK143.out;obtain ⟨hcz68_0,hcz68_1,hcz68_2,hcz68_3,hcz68_4,hfz68_0,hfz68_1,hfz68_2,hfz68_3,hfz68_4⟩:=box5 BK144.out)|((with_reducible refine gT 9 rfl ?_);refine gC (some 9) Try.func34 (laws_eqSynVoterS.calls (cB HR0_0 HB) HC0_0.out (cB HR1_0 HB) HC1_0.out A3.out) ?_;rintro e w69 ⟨rfl,hb⟩;refine ⟨_,rfl,?_⟩;replace BK143:=bK BK143 hb;replace BK144:=bK BK144 hb;replace HB:=spS HB hb;(try clear hb);obtain ⟨hcz70_0,hcz70_1,hcz70_2,hcz70_3,hcz70_4,hfz70_0,hfz70_1,hfz70_2,hfz70_3,hfz70_4⟩:=box5 BK143.out;obtain ⟨hcz71_0,hcz71_1,hcz71_2,hcz71_3,hcz71_4,hfz71_0,hfz71_1,hfz71_2,hfz71_3,hfz71_4⟩:=box5 BK144.out)|((with_reducible refine gT 15 rfl ?_);refine gC (some 15) Try.func35 (laws_eqIntS.calls (cB HR0_1 HB) HC0_1.out (cB HR1_1 HB) HC1_1.out A5.out) ?_;rintro e w' ⟨rfl,⟨nd,rfl⟩⟩;refine ⟨_,rfl,?_⟩))
   go_ret
   exact rZ (pS HB.out)
 ·replace c4:=Bool.eq_false_iff.mpr c4;subst c4
  rw [if_neg nFT] at H
  obtain rfl:=Option.some.inj H
  go_enter Try.func12,Try.ntmps12
  go_wp2_with (first|((with_reducible refine gT 2 rfl ?_);refine bX 2 ?_;intro gb143 hg w72 hbox hb;have BK143:=mA hbox;have GW143:=gbpB HB hg;have GE143:=gbpB HB hg;replace HB:=spB HB hb;clear hb hbox hg)|((with_reducible refine gT 3 rfl ?_);refine bX 3 ?_;intro gb144 hg w73 hbox hb;have BK144:=mA hbox;have GW144:=gbpS HB hg;have GE144:=gbpS HB hg;replace HB:=spS HB hb;have NB143_144:=mA (lN (blk_lt (pK BK143.out)) hg);have hN143_144:=NB143_144.out;have NB144_143:=nS NB143_144;have hN144_143:=NB144_143.out;replace BK143:=bK BK143 hb;clear hb hbox hg;obtain ⟨hcz75_0,hcz75_1,hcz75_2,hcz75_3,hcz75_4,hfz75_0,hfz75_1,hfz75_2,hfz75_3,hfz75_4⟩:=box5 BK143.out;obtain ⟨hcz76_0,hcz76_1,hcz76_2,hcz76_3,hcz76_4,hfz76_0,hfz76_1,hfz76_2,hfz76_3,hfz76_4⟩:=box5 BK144.out)|((with_reducible refine gT 9 rfl ?_);refine gC (some 9) Try.func34 (laws_eqSynVoterS.calls (cB HR0_0 HB) HC0_0.out (cB HR1_0 HB) HC1_0.out A3.out) ?_;rintro e w77 ⟨rfl,hb⟩;refine ⟨_,rfl,?_⟩;replace BK143:=bK BK143 hb;replace BK144:=bK BK144 hb;replace HB:=spS HB hb;(try clear hb)))
  go_ret
  exact rZ (pS HB.out)

/-! ### laws_szSynPaperS: function 53 -/
def laws_szSynPaperS.f (l0 : List (S127)) (a1 : Int) : Option (Int) := if (wrap64 (a1 - (l0.length : Int))) < 0 then (some (-1)) else (some (wrap64 (a1 - (l0.length : Int))))
set_option maxHeartbeats 8000000 in
set_option maxRecDepth 100000 in
theorem laws_szSynPaperS.calls {A0 : Option Addr} {c0 : Nat} {l0 : List (S127)} {a1 r : Int} {w : World} (hr0 : Kd.C k127 w A0 l0.length l0) (hc0 : l0.length ≤ c0) (h : laws_szSynPaperS.f l0 a1 = some r) :
  Calls Try.prog 53 #[.slice A0 l0.length c0,.int .i64 a1] w fun e w'=>e=.returned (.int .i64 r)∧Drawn0 w w':=by
 have HR0:=mA hr0;have HC0:=mA hc0;clear hr0 hc0;have H:(if (wrap64 (a1 - (l0.length:Int)))<0 then (some (-1)) else (some (wrap64 (a1 - (l0.length:Int)))))=some r:=h;clear h
 by_cases c3:(wrap64 (a1 - (l0.length:Int)))<0
 ·rw [if_pos c3] at H;have c3b0:decide ((wrap64 (a1 - (l0.length:Int)))<0)=true:=decide_eq_true c3;clear c3;obtain rfl:=Option.some.inj H
  go_enter Try.func53,Try.ntmps53
  go_wp2
  go_ret
  exact ⟨by first|rfl|(simp;done)|(simp [*];done),by repeat (first|exact Drawn0.refl _|apply Drawn0.step)⟩
 ·rw [if_neg c3] at H;have c3b0:decide ((wrap64 (a1 - (l0.length:Int)))<0)=false:=decide_eq_false c3;clear c3;obtain rfl:=Option.some.inj H
  go_enter Try.func53,Try.ntmps53
  go_wp2
  go_ret
  exact ⟨by first|rfl|(simp;done)|(simp [*];done),by repeat (first|exact Drawn0.refl _|apply Drawn0.step)⟩

/-! ### laws_szSynVoter: function 94 -/
def laws_szSynVoter.f (a0_0 : Int) (l0_1 : List (S127)) (a1 : Int) : Option (Int) := (laws_szSynPaperS.f l0_1 a1).bind fun t151 => (if t151 < 0 then (some (-1)) else (some t151))
set_option maxHeartbeats 8000000 in
set_option maxRecDepth 100000 in
theorem laws_szSynVoter.calls {a0_0 : Int} {A0_1 : Option Addr} {c0_1 : Nat} {l0_1 : List (S127)} {a1 r : Int} {w : World} (hr0_1 : Kd.C k127 w A0_1 l0_1.length l0_1) (hc0_1 : l0_1.length ≤ c0_1) (h : laws_szSynVoter.f a0_0 l0_1 a1 = some r) :
  Calls Try.prog 94 #[.agg #[.int .i64 a0_0,.slice A0_1 l0_1.length c0_1],.int .i64 a1] w fun e w'=>e=.returned (.int .i64 r)∧Below w.heap.size w w':=by
 have hu123:=Try.underlying123;have HR0_1:=mA hr0_1;have HC0_1:=mA hc0_1;clear hr0_1 hc0_1;have HB:=mA (Below.refl w.heap.size w);have H:((laws_szSynPaperS.f l0_1 a1).bind fun t151=>(if t151<0 then (some (-1)) else (some t151)))=some r:=h;clear h;obtain ⟨t151,A3,H⟩:=bI H;(try dsimp only at H)
 by_cases c4:t151<0
 ·rw [if_pos c4] at H;have c4b0:decide (t151<0)=true:=decide_eq_true c4;clear c4;obtain rfl:=Option.some.inj H
  go_enter Try.func94,Try.ntmps94
  go_wp2_with (first|((with_reducible refine gT 2 rfl ?_);refine bE 2 #[.int .i64 a0_0,.slice A0_1 l0_1.length c0_1] 123 ?_;intro gb150 hg w5 hbox hb;have BK150:=mA hbox;have GW150:=gbpB HB hg;have GE150:=gbpB HB hg;replace HB:=spB HB hb;clear hb hbox hg;obtain ⟨hcz6_0,hcz6_1,hfz6_0,hfz6_1⟩:=box2 BK150.out)|((with_reducible refine gT 8 rfl ?_);refine gC (some 8) Try.func53 (laws_szSynPaperS.calls (cB HR0_1 HB) HC0_1.out A3.out) ?_;rintro e w' ⟨rfl,⟨nd,rfl⟩⟩;refine ⟨_,rfl,?_⟩))
  go_ret
  exact rZ (pS HB.out)
 ·rw [if_neg c4] at H;have c4b0:decide (t151<0)=false:=decide_eq_false c4;clear c4;obtain rfl:=Option.some.inj H
  go_enter Try.func94,Try.ntmps94
  go_wp2_with (first|((with_reducible refine gT 2 rfl ?_);refine bE 2 #[.int .i64 a0_0,.slice A0_1 l0_1.length c0_1] 123 ?_;intro gb150 hg w7 hbox hb;have BK150:=mA hbox;have GW150:=gbpB HB hg;have GE150:=gbpB HB hg;replace HB:=spB HB hb;clear hb hbox hg;obtain ⟨hcz8_0,hcz8_1,hfz8_0,hfz8_1⟩:=box2 BK150.out)|((with_reducible refine gT 8 rfl ?_);refine gC (some 8) Try.func53 (laws_szSynPaperS.calls (cB HR0_1 HB) HC0_1.out A3.out) ?_;rintro e w' ⟨rfl,⟨nd,rfl⟩⟩;refine ⟨_,rfl,?_⟩))
  go_ret
  exact rZ (pS HB.out)

/-! ### laws_szSynVoterS: function 49 -/
def laws_szSynVoterS.l0 : Nat → List (S123) → Int → Int → Option (Int)
 | 0,_,_,_=>none
 | k+1,x0,x1,x5=>if x5<(x0.length:Int) then (if 0≤x5 then ((laws_szSynVoter.f ((rd_T123 x0 x5).f0) ((rd_T123 x0 x5).f1) x1).bind fun t153=>(if t153<0 then (some (-1)) else (laws_szSynVoterS.l0 k x0 t153 (wrap64 (x5+1))))) else (none)) else (some x1)
def laws_szSynVoterS.f (k : Nat) (l0 : List (S123)) (a1 : Int) : Option (Int) := if (wrap64 (a1 - (l0.length : Int))) < 0 then (some (-1)) else (laws_szSynVoterS.l0 k l0 (wrap64 (a1 - (l0.length : Int))) 0)
theorem laws_szSynVoterS.mono_l : ∀ k, (∀ y0 y1 y2, LeO (laws_szSynVoterS.l0 k y0 y1 y2) (laws_szSynVoterS.l0 (k + 1) y0 y1 y2))
 | 0=>fun _ _ _ r h=>by simp [laws_szSynVoterS.l0] at h
 | k+1=>by
  have ih0:=laws_szSynVoterS.mono_l k
  ·intros
   unfold laws_szSynVoterS.l0
   repeat' first
   | (with_reducible first|apply ih0|exact LeO.refl _|exact LeO.none _|refine LeO.ite ?_ ?_|refine LeO.bind ?_ (fun _=>?_))|exact LeO.none _|refine LeO.ite ?_ ?_|refine LeO.bind ?_ (fun _=>?_)
theorem laws_szSynVoterS.mono : ∀ a0 a1 k, LeO (laws_szSynVoterS.f k a0 a1) (laws_szSynVoterS.f (k + 1) a0 a1) := by
 intro a0 a1 k;have ih0:=laws_szSynVoterS.mono_l k
 unfold laws_szSynVoterS.f
 repeat' first
   | (with_reducible first|apply ih0|exact LeO.refl _|exact LeO.none _|refine LeO.ite ?_ ?_|refine LeO.bind ?_ (fun _=>?_))|exact LeO.none _|refine LeO.ite ?_ ?_|refine LeO.bind ?_ (fun _=>?_)
set_option maxHeartbeats 8000000 in
set_option maxRecDepth 100000 in
theorem laws_szSynVoterS.calls {k : Nat} {A0 : Option Addr} {c0 : Nat} {l0 : List (S123)} {a1 r : Int} {w : World} (hr0 : Kd.C k123 w A0 l0.length l0) (hc0 : l0.length ≤ c0) (h : laws_szSynVoterS.f k l0 a1 = some r) :
  Calls Try.prog 49 #[.slice A0 l0.length c0,.int .i64 a1] w fun e w'=>e=.returned (.int .i64 r)∧Below w.heap.size w w':=by
 have hu123:=Try.underlying123;have HR0:=mA hr0;have HC0:=mA hc0;clear hr0 hc0;have HB:=mA (Below.refl w.heap.size w);have H:(if (wrap64 (a1 - (l0.length:Int)))<0 then (some (-1)) else (laws_szSynVoterS.l0 k l0 (wrap64 (a1 - (l0.length:Int))) 0))=some r:=h;clear h
 by_cases c3:(wrap64 (a1 - (l0.length:Int)))<0
 ·rw [if_pos c3] at H;have c3b0:decide ((wrap64 (a1 - (l0.length:Int)))<0)=true:=decide_eq_true c3;clear c3;obtain rfl:=Option.some.inj H
  go_enter Try.func49,Try.ntmps49
  go_wp2
  go_ret
  exact rZ (pB HB.out)
 ·rw [if_neg c3] at H;have c3b0:decide ((wrap64 (a1 - (l0.length:Int)))<0)=false:=decide_eq_false c3;clear c3;have H':=mA H;clear H
  go_enter Try.func49,Try.ntmps49
  go_wp2
  go_loopg [1,5] k (fun kq v1 v5 w'=>∃ (x1_1:Int) (x5_1:Int),v1=.int .i64 x1_1∧v5=.int .i64 x5_1∧Aside0 (laws_szSynVoterS.l0 kq l0 x1_1 x5_1=some r)∧Aside0 (kq≤k)∧Aside0 (Below w.heap.size w w'))
  case atStart=>exact ⟨(wrap64 (a1 - (l0.length:Int))),(0),bZ,bZ,H',⟨Nat.le_refl _⟩,⟨pB HB.out⟩⟩
  case round =>
   clear H'
   (try clear c3);(try clear c3b0)
   obtain ⟨x1_1,x5_1,rfl,rfl,HA,HK1,HB⟩:=hrel
   cases gk with
   | zero=>exact absurd HA.out (by simp [laws_szSynVoterS.l0])
   | succ k1 =>
    have H:=HA.out;clear HA;simp only [laws_szSynVoterS.l0] at H
    by_cases c4:x5_1<(l0.length:Int)
    ·rw [if_pos c4] at H;have c4b0:decide (x5_1<(l0.length:Int))=true:=decide_eq_true c4;clear c4
     by_cases c5:0≤x5_1
     ·rw [if_pos c5] at H;have c5b0:decide (0≤x5_1)=true:=decide_eq_true c5;clear c5;obtain ⟨t153,A6,H⟩:=bI H;(try dsimp only at H)
      by_cases c7:t153<0
      ·rw [if_pos c7] at H;have c7b0:decide (t153<0)=true:=decide_eq_true c7;clear c7;obtain rfl:=Option.some.inj H;have p152:0≤(x5_1:Int):=of_decide_eq_true bA;have q152:x5_1<(l0.length:Int):=of_decide_eq_true bA;obtain ⟨ad152,A152_1,c152_1,e152,hx152_0,hx152_1,hl152_1,hi152_1⟩:=at_T123 HR0.out x5_1 p152 q152;cases e152;replace hx152_0:=hC HB hx152_0;replace hx152_1:=hC HB hx152_1;have HR152_1:=mA hi152_1;have HC152_1:=mA hl152_1;clear hi152_1 hl152_1;replace p152:=eq_true p152;replace q152:=eq_true q152
       go_wp2_with (first|((with_reducible refine gT 23 rfl ?_);refine gC (some 23) Try.func94 (laws_szSynVoter.calls (cB HR152_1 HB) HC152_1.out A6.out) ?_;rintro e w8 ⟨rfl,hb⟩;refine ⟨_,rfl,?_⟩;replace HB:=spB HB hb;(try clear hb)))
       go_ret
       exact rZ (pB HB.out)
      ·rw [if_neg c7] at H;have c7b0:decide (t153<0)=false:=decide_eq_false c7;clear c7;have H':=mA H;clear H;have p152:0≤(x5_1:Int):=of_decide_eq_true bA;have q152:x5_1<(l0.length:Int):=of_decide_eq_true bA;obtain ⟨ad152,A152_1,c152_1,e152,hx152_0,hx152_1,hl152_1,hi152_1⟩:=at_T123 HR0.out x5_1 p152 q152;cases e152;replace hx152_0:=hC HB hx152_0;replace hx152_1:=hC HB hx152_1;have HR152_1:=mA hi152_1;have HC152_1:=mA hl152_1;clear hi152_1 hl152_1;replace p152:=eq_true p152;replace q152:=eq_true q152
       go_wp2_with (first|((with_reducible refine gT 23 rfl ?_);refine gC (some 23) Try.func94 (laws_szSynVoter.calls (cB HR152_1 HB) HC152_1.out A6.out) ?_;rintro e w9 ⟨rfl,hb⟩;refine ⟨_,rfl,?_⟩;replace HB:=spB HB hb;(try clear hb)))
       go_roundg k1
       case measure=>have:=HK1.out;omega
       case rel=>exact ⟨(t153),(wrap64 (x5_1+1)),bZ,bZ,H',⟨by have:=HK1.out;omega⟩,⟨pB HB.out⟩⟩
     ·rw [if_neg c5] at H
      exact absurd H (by simp)
    ·rw [if_neg c4] at H;have c4b0:decide (x5_1<(l0.length:Int))=false:=decide_eq_false c4;clear c4;obtain rfl:=Option.some.inj H
     go_wp2
     go_ret
     exact rZ (pB HB.out)

/-! ### laws_szIntS: function 50 -/
def laws_szIntS.f (l0 : List Int) (a1 : Int) : Option (Int) := if (wrap64 (a1 - (l0.length : Int))) < 0 then (some (-1)) else (some (wrap64 (a1 - (l0.length : Int))))
set_option maxHeartbeats 8000000 in
set_option maxRecDepth 100000 in
theorem laws_szIntS.calls {A0 : Option Addr} {c0 : Nat} {l0 : List Int} {a1 r : Int} {w : World} (hr0 : Kd.C (Kd.int .i64) w A0 l0.length l0) (hc0 : l0.length ≤ c0) (h : laws_szIntS.f l0 a1 = some r) :
  Calls Try.prog 50 #[.slice A0 l0.length c0,.int .i64 a1] w fun e w'=>e=.returned (.int .i64 r)∧Drawn0 w w':=by
 have HR0:=mA hr0;have HC0:=mA hc0;clear hr0 hc0;have H:(if (wrap64 (a1 - (l0.length:Int)))<0 then (some (-1)) else (some (wrap64 (a1 - (l0.length:Int)))))=some r:=h;clear h
 by_cases c3:(wrap64 (a1 - (l0.length:Int)))<0
 ·rw [if_pos c3] at H;have c3b0:decide ((wrap64 (a1 - (l0.length:Int)))<0)=true:=decide_eq_true c3;clear c3;obtain rfl:=Option.some.inj H
  go_enter Try.func50,Try.ntmps50
  go_wp2
  go_ret
  exact ⟨by first|rfl|(simp;done)|(simp [*];done),by repeat (first|exact Drawn0.refl _|apply Drawn0.step)⟩
 ·rw [if_neg c3] at H;have c3b0:decide ((wrap64 (a1 - (l0.length:Int)))<0)=false:=decide_eq_false c3;clear c3;obtain rfl:=Option.some.inj H
  go_enter Try.func50,Try.ntmps50
  go_wp2
  go_ret
  exact ⟨by first|rfl|(simp;done)|(simp [*];done),by repeat (first|exact Drawn0.refl _|apply Drawn0.step)⟩

/-! ### laws_szSynSeeker: function 95 -/
def laws_szSynSeeker.f (a0_0 a0_1 a0_2 a0_3 a0_4 a0_5 a0_6 a0_7 a0_8 a0_9 a0_10 a0_11 a0_12 a0_13 a0_14 a0_15 a0_16 a0_17 a0_18 a0_19 a0_20 a0_21 a0_22 a0_23 a0_24 : Int) (l0_25 : List Int) (a1 : Int) : Option (Int) := (laws_szIntS.f l0_25 a1).bind fun t155 => (if t155 < 0 then (some (-1)) else (some t155))
set_option maxHeartbeats 8000000 in
set_option maxRecDepth 100000 in
theorem laws_szSynSeeker.calls {a0_0 a0_1 a0_2 a0_3 a0_4 a0_5 a0_6 a0_7 a0_8 a0_9 a0_10 a0_11 a0_12 a0_13 a0_14 a0_15 a0_16 a0_17 a0_18 a0_19 a0_20 a0_21 a0_22 a0_23 a0_24 : Int} {A0_25 : Option Addr} {c0_25 : Nat} {l0_25 : List Int} {a1 r : Int} {w : World} (hr0_25 : Kd.C (Kd.int .i64) w A0_25 l0_25.length l0_25) (hc0_25 : l0_25.length ≤ c0_25) (h : laws_szSynSeeker.f a0_0 a0_1 a0_2 a0_3 a0_4 a0_5 a0_6 a0_7 a0_8 a0_9 a0_10 a0_11 a0_12 a0_13 a0_14 a0_15 a0_16 a0_17 a0_18 a0_19 a0_20 a0_21 a0_22 a0_23 a0_24 l0_25 a1 = some r) :
  Calls Try.prog 95 #[.agg #[.int .i64 a0_0,.int .i64 a0_1,.int .i64 a0_2,.int .i64 a0_3,.int .i64 a0_4,.int .i64 a0_5,.int .i64 a0_6,.int .i64 a0_7,.int .i64 a0_8,.int .i64 a0_9,.int .i64 a0_10,.int .i64 a0_11,.int .i64 a0_12,.int .i64 a0_13,.int .i64 a0_14,.int .i64 a0_15,.int .i64 a0_16,.int .i64 a0_17,.int .i64 a0_18,.int .i64 a0_19,.int .i64 a0_20,.int .i64 a0_21,.int .i64 a0_22,.int .i64 a0_23,.int .i64 a0_24,.slice A0_25 l0_25.length c0_25],.int .i64 a1] w fun e w'=>e=.returned (.int .i64 r)∧Below w.heap.size w w':=by
 have hu129:=Try.underlying129;have HR0_25:=mA hr0_25;have HC0_25:=mA hc0_25;clear hr0_25 hc0_25;have HB:=mA (Below.refl w.heap.size w);have H:((laws_szIntS.f l0_25 a1).bind fun t155=>(if t155<0 then (some (-1)) else (some t155)))=some r:=h;clear h;obtain ⟨t155,A3,H⟩:=bI H;(try dsimp only at H)
 by_cases c4:t155<0
 ·rw [if_pos c4] at H;have c4b0:decide (t155<0)=true:=decide_eq_true c4;clear c4;obtain rfl:=Option.some.inj H
  go_enter Try.func95,Try.ntmps95
  go_wp2_with (first|((with_reducible refine gLg rfl (by assumption) ?_);refine ldV ?_)|((with_reducible refine gSt rfl (by assumption) ?_);refine stV ?_)|((with_reducible refine gT 2 rfl ?_);refine bX 2 ?_;intro gb154 hg w5 hbox hb;have BK154:=mA hbox;have GW154:=gbpB HB hg;have GE154:=gbpB HB hg;replace HB:=spB HB hb;clear hb hbox hg;have hcz6_0:=fun i_=>blk_cell BK154.out i_;have hfz6_0:=fun i_=>blk_frozen BK154.out i_)|((with_reducible refine gT 8 rfl ?_);refine gC (some 8) Try.func50 (laws_szIntS.calls (cB HR0_25 HB) HC0_25.out A3.out) ?_;rintro e w' ⟨rfl,⟨nd,rfl⟩⟩;refine ⟨_,rfl,?_⟩))
  go_ret
  exact rZ (pS HB.out)
 ·rw [if_neg c4] at H;have c4b0:decide (t155<0)=false:=decide_eq_false c4;clear c4;obtain rfl:=Option.some.inj H
  go_enter Try.func95,Try.ntmps95
  go_wp2_with (first|((with_reducible refine gLg rfl (by assumption) ?_);refine ldV ?_)|((with_reducible refine gSt rfl (by assumption) ?_);refine stV ?_)|((with_reducible refine gT 2 rfl ?_);refine bX 2 ?_;intro gb154 hg w7 hbox hb;have BK154:=mA hbox;have GW154:=gbpB HB hg;have GE154:=gbpB HB hg;replace HB:=spB HB hb;clear hb hbox hg;have hcz8_0:=fun i_=>blk_cell BK154.out i_;have hfz8_0:=fun i_=>blk_frozen BK154.out i_)|((with_reducible refine gT 8 rfl ?_);refine gC (some 8) Try.func50 (laws_szIntS.calls (cB HR0_25 HB) HC0_25.out A3.out) ?_;rintro e w' ⟨rfl,⟨nd,rfl⟩⟩;refine ⟨_,rfl,?_⟩))
  go_ret
  exact rZ (pS HB.out)

/-! ### laws_szSynSeekerS: function 51 -/
def laws_szSynSeekerS.l0 : Nat → List (S129) → Int → Int → Option (Int)
 | 0,_,_,_=>none
 | k+1,x0,x1,x5=>if x5<(x0.length:Int) then (if 0≤x5 then ((laws_szSynSeeker.f ((rd_T129 x0 x5).f0) ((rd_T129 x0 x5).f1) ((rd_T129 x0 x5).f2) ((rd_T129 x0 x5).f3.f0) ((rd_T129 x0 x5).f3.f1) ((rd_T129 x0 x5).f3.f2) ((rd_T129 x0 x5).f3.f3) ((rd_T129 x0 x5).f3.f4) ((rd_T129 x0 x5).f3.f5) ((rd_T129 x0 x5).f3.f6) ((rd_T129 x0 x5).f3.f7) ((rd_T129 x0 x5).f3.f8) ((rd_T129 x0 x5).f3.f9) ((rd_T129 x0 x5).f4.f0) ((rd_T129 x0 x5).f4.f1) ((rd_T129 x0 x5).f4.f2.f0) ((rd_T129 x0 x5).f4.f2.f1) ((rd_T129 x0 x5).f4.f2.f2) ((rd_T129 x0 x5).f4.f2.f3) ((rd_T129 x0 x5).f4.f2.f4) ((rd_T129 x0 x5).f4.f2.f5) ((rd_T129 x0 x5).f4.f2.f6) ((rd_T129 x0 x5).f4.f2.f7) ((rd_T129 x0 x5).f4.f2.f8) ((rd_T129 x0 x5).f4.f2.f9) ((rd_T129 x0 x5).f5) x1).bind fun t157=>(if t157<0 then (some (-1)) else (laws_szSynSeekerS.l0 k x0 t157 (wrap64 (x5+1))))) else (none)) else (some x1)
def laws_szSynSeekerS.f (k : Nat) (l0 : List (S129)) (a1 : Int) : Option (Int) := if (wrap64 (a1 - (l0.length : Int))) < 0 then (some (-1)) else (laws_szSynSeekerS.l0 k l0 (wrap64 (a1 - (l0.length : Int))) 0)
theorem laws_szSynSeekerS.mono_l : ∀ k, (∀ y0 y1 y2, LeO (laws_szSynSeekerS.l0 k y0 y1 y2) (laws_szSynSeekerS.l0 (k + 1) y0 y1 y2))
 | 0=>fun _ _ _ r h=>by simp [laws_szSynSeekerS.l0] at h
 | k+1=>by
  have ih0:=laws_szSynSeekerS.mono_l k
  ·intros
   unfold laws_szSynSeekerS.l0
   repeat' first
   | (with_reducible first|apply ih0|exact LeO.refl _|exact LeO.none _|refine LeO.ite ?_ ?_|refine LeO.bind ?_ (fun _=>?_))|exact LeO.none _|refine LeO.ite ?_ ?_|refine LeO.bind ?_ (fun _=>?_)
theorem laws_szSynSeekerS.mono : ∀ a0 a1 k, LeO (laws_szSynSeekerS.f k a0 a1) (laws_szSynSeekerS.f (k + 1) a0 a1) := by
 intro a0 a1 k;have ih0:=laws_szSynSeekerS.mono_l k
 unfold laws_szSynSeekerS.f
 repeat' first
   | (with_reducible first|apply ih0|exact LeO.refl _|exact LeO.none _|refine LeO.ite ?_ ?_|refine LeO.bind ?_ (fun _=>?_))|exact LeO.none _|refine LeO.ite ?_ ?_|refine LeO.bind ?_ (fun _=>?_)
set_option maxHeartbeats 8000000 in
set_option maxRecDepth 100000 in
theorem laws_szSynSeekerS.calls {k : Nat} {A0 : Option Addr} {c0 : Nat} {l0 : List (S129)} {a1 r : Int} {w : World} (hr0 : Kd.C k129 w A0 l0.length l0) (hc0 : l0.length ≤ c0) (h : laws_szSynSeekerS.f k l0 a1 = some r) :
  Calls Try.prog 51 #[.slice A0 l0.length c0,.int .i64 a1] w fun e w'=>e=.returned (.int .i64 r)∧Below w.heap.size w w':=by
 have hu129:=Try.underlying129;have HR0:=mA hr0;have HC0:=mA hc0;clear hr0 hc0;have HB:=mA (Below.refl w.heap.size w);have H:(if (wrap64 (a1 - (l0.length:Int)))<0 then (some (-1)) else (laws_szSynSeekerS.l0 k l0 (wrap64 (a1 - (l0.length:Int))) 0))=some r:=h;clear h
 by_cases c3:(wrap64 (a1 - (l0.length:Int)))<0
 ·rw [if_pos c3] at H;have c3b0:decide ((wrap64 (a1 - (l0.length:Int)))<0)=true:=decide_eq_true c3;clear c3;obtain rfl:=Option.some.inj H
  go_enter Try.func51,Try.ntmps51
  go_wp2_with (first|((with_reducible refine gLg rfl (by assumption) ?_);first|refine ldW ?_|refine ldX ?_))
  go_ret
  exact rZ (pB HB.out)
 ·rw [if_neg c3] at H;have c3b0:decide ((wrap64 (a1 - (l0.length:Int)))<0)=false:=decide_eq_false c3;clear c3;have H':=mA H;clear H
  go_enter Try.func51,Try.ntmps51
  go_wp2_with (first|((with_reducible refine gLg rfl (by assumption) ?_);first|refine ldW ?_|refine ldX ?_))
  go_loopg [1,5] k (fun kq v1 v5 w'=>∃ (x1_1:Int) (x5_1:Int),v1=.int .i64 x1_1∧v5=.int .i64 x5_1∧Aside0 (laws_szSynSeekerS.l0 kq l0 x1_1 x5_1=some r)∧Aside0 (kq≤k)∧Aside0 (Below w.heap.size w w'))
  case atStart=>exact ⟨(wrap64 (a1 - (l0.length:Int))),(0),bZ,bZ,H',⟨Nat.le_refl _⟩,⟨pB HB.out⟩⟩
  case round =>
   clear H'
   (try clear c3);(try clear c3b0)
   obtain ⟨x1_1,x5_1,rfl,rfl,HA,HK1,HB⟩:=hrel
   cases gk with
   | zero=>exact absurd HA.out (by simp [laws_szSynSeekerS.l0])
   | succ k1 =>
    have H:=HA.out;clear HA;simp only [laws_szSynSeekerS.l0] at H
    by_cases c4:x5_1<(l0.length:Int)
    ·rw [if_pos c4] at H;have c4b0:decide (x5_1<(l0.length:Int))=true:=decide_eq_true c4;clear c4
     by_cases c5:0≤x5_1
     ·rw [if_pos c5] at H;have c5b0:decide (0≤x5_1)=true:=decide_eq_true c5;clear c5;obtain ⟨t157,A6,H⟩:=bI H;(try dsimp only at H)
      by_cases c7:t157<0
      ·rw [if_pos c7] at H;have c7b0:decide (t157<0)=true:=decide_eq_true c7;clear c7;obtain rfl:=Option.some.inj H;have p156:0≤(x5_1:Int):=of_decide_eq_true bA;have q156:x5_1<(l0.length:Int):=of_decide_eq_true bA;obtain ⟨ad156,A156_25,c156_25,e156,hs156,hl156_25,hi156_25⟩:=at_R129 HR0.out x5_1 p156 q156;have hx156_0:=RS.hd hs156 rfl;cases e156;replace hx156_0:=hC HB hx156_0;replace hs156:=rS HB hs156;have HR156_25:=mA hi156_25;have HC156_25:=mA hl156_25;clear hi156_25 hl156_25;replace p156:=eq_true p156;replace q156:=eq_true q156
       go_wp2_with (first|((with_reducible refine gLg rfl (by assumption) ?_);first|refine ldW ?_|refine ldX ?_)|((with_reducible refine gT 23 rfl ?_);refine gC (some 23) Try.func95 (laws_szSynSeeker.calls (cB HR156_25 HB) HC156_25.out A6.out) ?_;rintro e w8 ⟨rfl,hb⟩;refine ⟨_,rfl,?_⟩;replace HB:=spB HB hb;(try clear hb)))
       go_ret
       exact rZ (pB HB.out)
      ·rw [if_neg c7] at H;have c7b0:decide (t157<0)=false:=decide_eq_false c7;clear c7;have H':=mA H;clear H;have p156:0≤(x5_1:Int):=of_decide_eq_true bA;have q156:x5_1<(l0.length:Int):=of_decide_eq_true bA;obtain ⟨ad156,A156_25,c156_25,e156,hs156,hl156_25,hi156_25⟩:=at_R129 HR0.out x5_1 p156 q156;have hx156_0:=RS.hd hs156 rfl;cases e156;replace hx156_0:=hC HB hx156_0;replace hs156:=rS HB hs156;have HR156_25:=mA hi156_25;have HC156_25:=mA hl156_25;clear hi156_25 hl156_25;replace p156:=eq_true p156;replace q156:=eq_true q156
       go_wp2_with (first|((with_reducible refine gLg rfl (by assumption) ?_);first|refine ldW ?_|refine ldX ?_)|((with_reducible refine gT 23 rfl ?_);refine gC (some 23) Try.func95 (laws_szSynSeeker.calls (cB HR156_25 HB) HC156_25.out A6.out) ?_;rintro e w9 ⟨rfl,hb⟩;refine ⟨_,rfl,?_⟩;replace HB:=spB HB hb;(try clear hb)))
       go_roundg k1
       case measure=>have:=HK1.out;omega
       case rel=>exact ⟨(t157),(wrap64 (x5_1+1)),bZ,bZ,H',⟨by have:=HK1.out;omega⟩,⟨pB HB.out⟩⟩
     ·rw [if_neg c5] at H
      exact absurd H (by simp)
    ·rw [if_neg c4] at H;have c4b0:decide (x5_1<(l0.length:Int))=false:=decide_eq_false c4;clear c4;obtain rfl:=Option.some.inj H
     go_wp2_with (first|((with_reducible refine gLg rfl (by assumption) ?_);first|refine ldW ?_|refine ldX ?_))
     go_ret
     exact rZ (pB HB.out)

/-! ### laws_szBlkPieceS: function 134 -/
def laws_szBlkPieceS.f (l0 : List (S182)) (a1 : Int) : Option (Int) := if (wrap64 (a1 - (l0.length : Int))) < 0 then (some (-1)) else (some (wrap64 (a1 - (l0.length : Int))))
set_option maxHeartbeats 8000000 in
set_option maxRecDepth 100000 in
theorem laws_szBlkPieceS.calls {A0 : Option Addr} {c0 : Nat} {l0 : List (S182)} {a1 r : Int} {w : World} (hr0 : Kd.C k182 w A0 l0.length l0) (hc0 : l0.length ≤ c0) (h : laws_szBlkPieceS.f l0 a1 = some r) :
  Calls Try.prog 134 #[.slice A0 l0.length c0,.int .i64 a1] w fun e w'=>e=.returned (.int .i64 r)∧Drawn0 w w':=by
 have HR0:=mA hr0;have HC0:=mA hc0;clear hr0 hc0;have H:(if (wrap64 (a1 - (l0.length:Int)))<0 then (some (-1)) else (some (wrap64 (a1 - (l0.length:Int)))))=some r:=h;clear h
 by_cases c3:(wrap64 (a1 - (l0.length:Int)))<0
 ·rw [if_pos c3] at H;have c3b0:decide ((wrap64 (a1 - (l0.length:Int)))<0)=true:=decide_eq_true c3;clear c3;obtain rfl:=Option.some.inj H
  go_enter Try.func134,Try.ntmps134
  go_wp2
  go_ret
  exact ⟨by first|rfl|(simp;done)|(simp [*];done),by repeat (first|exact Drawn0.refl _|apply Drawn0.step)⟩
 ·rw [if_neg c3] at H;have c3b0:decide ((wrap64 (a1 - (l0.length:Int)))<0)=false:=decide_eq_false c3;clear c3;obtain rfl:=Option.some.inj H
  go_enter Try.func134,Try.ntmps134
  go_wp2
  go_ret
  exact ⟨by first|rfl|(simp;done)|(simp [*];done),by repeat (first|exact Drawn0.refl _|apply Drawn0.step)⟩

/-! ### laws_szBlkLastS: function 135 -/
def laws_szBlkLastS.f (l0 : List (S184)) (a1 : Int) : Option (Int) := if (wrap64 (a1 - (l0.length : Int))) < 0 then (some (-1)) else (some (wrap64 (a1 - (l0.length : Int))))
set_option maxHeartbeats 8000000 in
set_option maxRecDepth 100000 in
theorem laws_szBlkLastS.calls {A0 : Option Addr} {c0 : Nat} {l0 : List (S184)} {a1 r : Int} {w : World} (hr0 : Kd.C k184 w A0 l0.length l0) (hc0 : l0.length ≤ c0) (h : laws_szBlkLastS.f l0 a1 = some r) :
  Calls Try.prog 135 #[.slice A0 l0.length c0,.int .i64 a1] w fun e w'=>e=.returned (.int .i64 r)∧Drawn0 w w':=by
 have HR0:=mA hr0;have HC0:=mA hc0;clear hr0 hc0;have H:(if (wrap64 (a1 - (l0.length:Int)))<0 then (some (-1)) else (some (wrap64 (a1 - (l0.length:Int)))))=some r:=h;clear h
 by_cases c3:(wrap64 (a1 - (l0.length:Int)))<0
 ·rw [if_pos c3] at H;have c3b0:decide ((wrap64 (a1 - (l0.length:Int)))<0)=true:=decide_eq_true c3;clear c3;obtain rfl:=Option.some.inj H
  go_enter Try.func135,Try.ntmps135
  go_wp2
  go_ret
  exact ⟨by first|rfl|(simp;done)|(simp [*];done),by repeat (first|exact Drawn0.refl _|apply Drawn0.step)⟩
 ·rw [if_neg c3] at H;have c3b0:decide ((wrap64 (a1 - (l0.length:Int)))<0)=false:=decide_eq_false c3;clear c3;obtain rfl:=Option.some.inj H
  go_enter Try.func135,Try.ntmps135
  go_wp2
  go_ret
  exact ⟨by first|rfl|(simp;done)|(simp [*];done),by repeat (first|exact Drawn0.refl _|apply Drawn0.step)⟩

/-! ### laws_szWord: function 96 -/
def laws_szWord.f (a0_0 a0_1 a0_2 a0_3 a0_4 a0_5 a0_6 a0_7 a0_8 a0_9 a0_10 a0_11 a0_12 a0_13 a0_14 a0_15 a0_16 a0_17 a0_18 a0_19 a0_20 a0_21 a0_22 a0_23 : Int) (l0_24 : List (S182)) (l0_25 : List (S184)) (a1 : Int) : Option (Int) := (laws_szBlkPieceS.f l0_24 a1).bind fun t159 => (if t159 < 0 then (some (-1)) else ((laws_szBlkLastS.f l0_25 t159).bind fun t160 => (if t160 < 0 then (some (-1)) else (some t160))))
set_option maxHeartbeats 8000000 in
set_option maxRecDepth 100000 in
theorem laws_szWord.calls {a0_0 a0_1 a0_2 a0_3 a0_4 a0_5 a0_6 a0_7 a0_8 a0_9 a0_10 a0_11 a0_12 a0_13 a0_14 a0_15 a0_16 a0_17 a0_18 a0_19 a0_20 a0_21 a0_22 a0_23 : Int} {A0_24 : Option Addr} {c0_24 : Nat} {l0_24 : List (S182)} {A0_25 : Option Addr} {c0_25 : Nat} {l0_25 : List (S184)} {a1 r : Int} {w : World} (hr0_24 : Kd.C k182 w A0_24 l0_24.length l0_24) (hc0_24 : l0_24.length ≤ c0_24) (hr0_25 : Kd.C k184 w A0_25 l0_25.length l0_25) (hc0_25 : l0_25.length ≤ c0_25) (h : laws_szWord.f a0_0 a0_1 a0_2 a0_3 a0_4 a0_5 a0_6 a0_7 a0_8 a0_9 a0_10 a0_11 a0_12 a0_13 a0_14 a0_15 a0_16 a0_17 a0_18 a0_19 a0_20 a0_21 a0_22 a0_23 l0_24 l0_25 a1 = some r) :
  Calls Try.prog 96 #[.agg #[.int .i64 a0_0,.int .i64 a0_1,.int .i64 a0_2,.int .i64 a0_3,.int .i64 a0_4,.int .i64 a0_5,.int .i64 a0_6,.int .i64 a0_7,.int .i64 a0_8,.int .i64 a0_9,.int .i64 a0_10,.int .i64 a0_11,.int .i64 a0_12,.int .i64 a0_13,.int .i64 a0_14,.int .i64 a0_15,.int .i64 a0_16,.int .i64 a0_17,.int .i64 a0_18,.int .i64 a0_19,.int .i64 a0_20,.int .i64 a0_21,.int .i64 a0_22,.int .i64 a0_23,.slice A0_24 l0_24.length c0_24,.slice A0_25 l0_25.length c0_25],.int .i64 a1] w fun e w'=>e=.returned (.int .i64 r)∧Below w.heap.size w w':=by
 have hu134:=Try.underlying134;have HR0_24:=mA hr0_24;have HC0_24:=mA hc0_24;clear hr0_24 hc0_24;have HR0_25:=mA hr0_25;have HC0_25:=mA hc0_25;clear hr0_25 hc0_25;have HB:=mA (Below.refl w.heap.size w);have H:((laws_szBlkPieceS.f l0_24 a1).bind fun t159=>(if t159<0 then (some (-1)) else ((laws_szBlkLastS.f l0_25 t159).bind fun t160=>(if t160<0 then (some (-1)) else (some t160)))))=some r:=h;clear h;obtain ⟨t159,A3,H⟩:=bI H;(try dsimp only at H)
 by_cases c4:t159<0
 ·rw [if_pos c4] at H;have c4b0:decide (t159<0)=true:=decide_eq_true c4;clear c4;obtain rfl:=Option.some.inj H
  go_enter Try.func96,Try.ntmps96
  go_wp2_with (first|((with_reducible refine gLg rfl (by assumption) ?_);refine ldV ?_)|((with_reducible refine gSt rfl (by assumption) ?_);refine stV ?_)|((with_reducible refine gT 2 rfl ?_);refine bX 2 ?_;intro gb158 hg w5 hbox hb;have BK158:=mA hbox;have GW158:=gbpB HB hg;have GE158:=gbpB HB hg;replace HB:=spB HB hb;clear hb hbox hg;have hcz6_0:=fun i_=>blk_cell BK158.out i_;have hfz6_0:=fun i_=>blk_frozen BK158.out i_)|((with_reducible refine gT 8 rfl ?_);refine gC (some 8) Try.func134 (laws_szBlkPieceS.calls (cB HR0_24 HB) HC0_24.out A3.out) ?_;rintro e w' ⟨rfl,⟨nd,rfl⟩⟩;refine ⟨_,rfl,?_⟩))
  go_ret
  exact rZ (pS HB.out)
 ·rw [if_neg c4] at H;have c4b0:decide (t159<0)=false:=decide_eq_false c4;clear c4;obtain ⟨t160,A7,H⟩:=bI H;(try dsimp only at H)
  by_cases c8:t160<0
  ·rw [if_pos c8] at H;have c8b0:decide (t160<0)=true:=decide_eq_true c8;clear c8;obtain rfl:=Option.some.inj H
   go_enter Try.func96,Try.ntmps96
   go_wp2_with (first|((with_reducible refine gLg rfl (by assumption) ?_);refine ldV ?_)|((with_reducible refine gSt rfl (by assumption) ?_);refine stV ?_)|((with_reducible refine gT 2 rfl ?_);refine bX 2 ?_;intro gb158 hg w9 hbox hb;have BK158:=mA hbox;have GW158:=gbpB HB hg;have GE158:=gbpB HB hg;replace HB:=spB HB hb;clear hb hbox hg;have hcz10_0:=fun i_=>blk_cell BK158.out i_;have hfz10_0:=fun i_=>blk_frozen BK158.out i_)|((with_reducible refine gT 8 rfl ?_);refine gC (some 8) Try.func134 (laws_szBlkPieceS.calls (cB HR0_24 HB) HC0_24.out A3.out) ?_;rintro e w' ⟨rfl,⟨nd,rfl⟩⟩;refine ⟨_,rfl,?_⟩)|((with_reducible refine gT 14 rfl ?_);refine gC (some 14) Try.func135 (laws_szBlkLastS.calls (pC (Kd.C_below HR0_25.out (pS HB.out))) HC0_25.out A7.out) ?_;rintro e w' ⟨rfl,⟨nd,rfl⟩⟩;refine ⟨_,rfl,?_⟩))
   go_ret
   exact rZ (pS HB.out)
  ·rw [if_neg c8] at H;have c8b0:decide (t160<0)=false:=decide_eq_false c8;clear c8;obtain rfl:=Option.some.inj H
   go_enter Try.func96,Try.ntmps96
   go_wp2_with (first|((with_reducible refine gLg rfl (by assumption) ?_);refine ldV ?_)|((with_reducible refine gSt rfl (by assumption) ?_);refine stV ?_)|((with_reducible refine gT 2 rfl ?_);refine bX 2 ?_;intro gb158 hg w11 hbox hb;have BK158:=mA hbox;have GW158:=gbpB HB hg;have GE158:=gbpB HB hg;replace HB:=spB HB hb;clear hb hbox hg;have hcz12_0:=fun i_=>blk_cell BK158.out i_;have hfz12_0:=fun i_=>blk_frozen BK158.out i_)|((with_reducible refine gT 8 rfl ?_);refine gC (some 8) Try.func134 (laws_szBlkPieceS.calls (cB HR0_24 HB) HC0_24.out A3.out) ?_;rintro e w' ⟨rfl,⟨nd,rfl⟩⟩;refine ⟨_,rfl,?_⟩)|((with_reducible refine gT 14 rfl ?_);refine gC (some 14) Try.func135 (laws_szBlkLastS.calls (pC (Kd.C_below HR0_25.out (pS HB.out))) HC0_25.out A7.out) ?_;rintro e w' ⟨rfl,⟨nd,rfl⟩⟩;refine ⟨_,rfl,?_⟩))
   go_ret
   exact rZ (pS HB.out)

/-! ### laws_szWordS: function 52 -/
def laws_szWordS.l0 : Nat → List (S134) → Int → Int → Option (Int)
 | 0,_,_,_=>none
 | k+1,x0,x1,x5=>if x5<(x0.length:Int) then (if 0≤x5 then ((laws_szWord.f ((rd_T134 x0 x5).f0) ((rd_T134 x0 x5).f1) ((rd_T134 x0 x5).f2) ((rd_T134 x0 x5).f3) ((rd_T134 x0 x5).f4) ((rd_T134 x0 x5).f5) ((rd_T134 x0 x5).f6.f0) ((rd_T134 x0 x5).f6.f1) ((rd_T134 x0 x5).f6.f2) ((rd_T134 x0 x5).f6.f3) ((rd_T134 x0 x5).f6.f4) ((rd_T134 x0 x5).f6.f5) ((rd_T134 x0 x5).f6.f6) ((rd_T134 x0 x5).f6.f7) ((rd_T134 x0 x5).f6.f8) ((rd_T134 x0 x5).f6.f9) ((rd_T134 x0 x5).f7) ((rd_T134 x0 x5).f8) ((rd_T134 x0 x5).f9) ((rd_T134 x0 x5).f10) ((rd_T134 x0 x5).f11) ((rd_T134 x0 x5).f12) ((rd_T134 x0 x5).f13) ((rd_T134 x0 x5).f14) ((rd_T134 x0 x5).f15) ((rd_T134 x0 x5).f16) x1).bind fun t162=>(if t162<0 then (some (-1)) else (laws_szWordS.l0 k x0 t162 (wrap64 (x5+1))))) else (none)) else (some x1)
def laws_szWordS.f (k : Nat) (l0 : List (S134)) (a1 : Int) : Option (Int) := if (wrap64 (a1 - (l0.length : Int))) < 0 then (some (-1)) else (laws_szWordS.l0 k l0 (wrap64 (a1 - (l0.length : Int))) 0)
theorem laws_szWordS.mono_l : ∀ k, (∀ y0 y1 y2, LeO (laws_szWordS.l0 k y0 y1 y2) (laws_szWordS.l0 (k + 1) y0 y1 y2))
 | 0=>fun _ _ _ r h=>by simp [laws_szWordS.l0] at h
 | k+1=>by
  have ih0:=laws_szWordS.mono_l k
  ·intros
   unfold laws_szWordS.l0
   repeat' first
   | (with_reducible first|apply ih0|exact LeO.refl _|exact LeO.none _|refine LeO.ite ?_ ?_|refine LeO.bind ?_ (fun _=>?_))|exact LeO.none _|refine LeO.ite ?_ ?_|refine LeO.bind ?_ (fun _=>?_)
theorem laws_szWordS.mono : ∀ a0 a1 k, LeO (laws_szWordS.f k a0 a1) (laws_szWordS.f (k + 1) a0 a1) := by
 intro a0 a1 k;have ih0:=laws_szWordS.mono_l k
 unfold laws_szWordS.f
 repeat' first
   | (with_reducible first|apply ih0|exact LeO.refl _|exact LeO.none _|refine LeO.ite ?_ ?_|refine LeO.bind ?_ (fun _=>?_))|exact LeO.none _|refine LeO.ite ?_ ?_|refine LeO.bind ?_ (fun _=>?_)
set_option maxHeartbeats 8000000 in
set_option maxRecDepth 100000 in
theorem laws_szWordS.calls {k : Nat} {A0 : Option Addr} {c0 : Nat} {l0 : List (S134)} {a1 r : Int} {w : World} (hr0 : Kd.C k134 w A0 l0.length l0) (hc0 : l0.length ≤ c0) (h : laws_szWordS.f k l0 a1 = some r) :
  Calls Try.prog 52 #[.slice A0 l0.length c0,.int .i64 a1] w fun e w'=>e=.returned (.int .i64 r)∧Below w.heap.size w w':=by
 have hu134:=Try.underlying134;have HR0:=mA hr0;have HC0:=mA hc0;clear hr0 hc0;have HB:=mA (Below.refl w.heap.size w);have H:(if (wrap64 (a1 - (l0.length:Int)))<0 then (some (-1)) else (laws_szWordS.l0 k l0 (wrap64 (a1 - (l0.length:Int))) 0))=some r:=h;clear h
 by_cases c3:(wrap64 (a1 - (l0.length:Int)))<0
 ·rw [if_pos c3] at H;have c3b0:decide ((wrap64 (a1 - (l0.length:Int)))<0)=true:=decide_eq_true c3;clear c3;obtain rfl:=Option.some.inj H
  go_enter Try.func52,Try.ntmps52
  go_wp2_with (first|((with_reducible refine gLg rfl (by assumption) ?_);first|refine ldW ?_|refine ldX ?_))
  go_ret
  exact rZ (pB HB.out)
 ·rw [if_neg c3] at H;have c3b0:decide ((wrap64 (a1 - (l0.length:Int)))<0)=false:=decide_eq_false c3;clear c3;have H':=mA H;clear H
  go_enter Try.func52,Try.ntmps52
  go_wp2_with (first|((with_reducible refine gLg rfl (by assumption) ?_);first|refine ldW ?_|refine ldX ?_))
  go_loopg [1,5] k (fun kq v1 v5 w'=>∃ (x1_1:Int) (x5_1:Int),v1=.int .i64 x1_1∧v5=.int .i64 x5_1∧Aside0 (laws_szWordS.l0 kq l0 x1_1 x5_1=some r)∧Aside0 (kq≤k)∧Aside0 (Below w.heap.size w w'))
  case atStart=>exact ⟨(wrap64 (a1 - (l0.length:Int))),(0),bZ,bZ,H',⟨Nat.le_refl _⟩,⟨pB HB.out⟩⟩
  case round =>
   clear H'
   (try clear c3);(try clear c3b0)
   obtain ⟨x1_1,x5_1,rfl,rfl,HA,HK1,HB⟩:=hrel
   cases gk with
   | zero=>exact absurd HA.out (by simp [laws_szWordS.l0])
   | succ k1 =>
    have H:=HA.out;clear HA;simp only [laws_szWordS.l0] at H
    by_cases c4:x5_1<(l0.length:Int)
    ·rw [if_pos c4] at H;have c4b0:decide (x5_1<(l0.length:Int))=true:=decide_eq_true c4;clear c4
     by_cases c5:0≤x5_1
     ·rw [if_pos c5] at H;have c5b0:decide (0≤x5_1)=true:=decide_eq_true c5;clear c5;obtain ⟨t162,A6,H⟩:=bI H;(try dsimp only at H)
      by_cases c7:t162<0
      ·rw [if_pos c7] at H;have c7b0:decide (t162<0)=true:=decide_eq_true c7;clear c7;obtain rfl:=Option.some.inj H;have p161:0≤(x5_1:Int):=of_decide_eq_true bA;have q161:x5_1<(l0.length:Int):=of_decide_eq_true bA;obtain ⟨ad161,A161_24,c161_24,A161_25,c161_25,e161,hs161,hl161_24,hi161_24,hl161_25,hi161_25⟩:=at_R134 HR0.out x5_1 p161 q161;have hx161_0:=RS.hd hs161 rfl;cases e161;replace hx161_0:=hC HB hx161_0;replace hs161:=rS HB hs161;have HR161_24:=mA hi161_24;have HC161_24:=mA hl161_24;clear hi161_24 hl161_24;have HR161_25:=mA hi161_25;have HC161_25:=mA hl161_25;clear hi161_25 hl161_25;replace p161:=eq_true p161;replace q161:=eq_true q161
       go_wp2_with (first|((with_reducible refine gLg rfl (by assumption) ?_);first|refine ldW ?_|refine ldX ?_)|((with_reducible refine gT 23 rfl ?_);refine gC (some 23) Try.func96 (laws_szWord.calls (cB HR161_24 HB) HC161_24.out (cB HR161_25 HB) HC161_25.out A6.out) ?_;rintro e w8 ⟨rfl,hb⟩;refine ⟨_,rfl,?_⟩;replace HB:=spB HB hb;(try clear hb)))
       go_ret
       exact rZ (pB HB.out)
      ·rw [if_neg c7] at H;have c7b0:decide (t162<0)=false:=decide_eq_false c7;clear c7;have H':=mA H;clear H;have p161:0≤(x5_1:Int):=of_decide_eq_true bA;have q161:x5_1<(l0.length:Int):=of_decide_eq_true bA;obtain ⟨ad161,A161_24,c161_24,A161_25,c161_25,e161,hs161,hl161_24,hi161_24,hl161_25,hi161_25⟩:=at_R134 HR0.out x5_1 p161 q161;have hx161_0:=RS.hd hs161 rfl;cases e161;replace hx161_0:=hC HB hx161_0;replace hs161:=rS HB hs161;have HR161_24:=mA hi161_24;have HC161_24:=mA hl161_24;clear hi161_24 hl161_24;have HR161_25:=mA hi161_25;have HC161_25:=mA hl161_25;clear hi161_25 hl161_25;replace p161:=eq_true p161;replace q161:=eq_true q161
       go_wp2_with (first|((with_reducible refine gLg rfl (by assumption) ?_);first|refine ldW ?_|refine ldX ?_)|((with_reducible refine gT 23 rfl ?_);refine gC (some 23) Try.func96 (laws_szWord.calls (cB HR161_24 HB) HC161_24.out (cB HR161_25 HB) HC161_25.out A6.out) ?_;rintro e w9 ⟨rfl,hb⟩;refine ⟨_,rfl,?_⟩;replace HB:=spB HB hb;(try clear hb)))
       go_roundg k1
       case measure=>have:=HK1.out;omega
       case rel=>exact ⟨(t162),(wrap64 (x5_1+1)),bZ,bZ,H',⟨by have:=HK1.out;omega⟩,⟨pB HB.out⟩⟩
     ·rw [if_neg c5] at H
      exact absurd H (by simp)
    ·rw [if_neg c4] at H;have c4b0:decide (x5_1<(l0.length:Int))=false:=decide_eq_false c4;clear c4;obtain rfl:=Option.some.inj H
     go_wp2_with (first|((with_reducible refine gLg rfl (by assumption) ?_);first|refine ldW ?_|refine ldX ?_))
     go_ret
     exact rZ (pB HB.out)

/-! ### laws_szSynCouncil: function 15 -/
def laws_szSynCouncil.f (k : Nat) (l0_0 : List (S123)) (l0_1 : List Int) (l0_2 : List (S129)) (l0_3 : List (S134)) (l0_4 : List (S127)) (a1 : Int) : Option (Int) := (laws_szSynVoterS.f k l0_0 a1).bind fun t164 => (if t164 < 0 then (some (-1)) else ((laws_szIntS.f l0_1 t164).bind fun t165 => (if t165 < 0 then (some (-1)) else ((laws_szSynSeekerS.f k l0_2 t165).bind fun t166 => (if t166 < 0 then (some (-1)) else ((laws_szWordS.f k l0_3 t166).bind fun t167 => (if t167 < 0 then (some (-1)) else ((laws_szSynPaperS.f l0_4 t167).bind fun t168 => (if t168 < 0 then (some (-1)) else (some t168))))))))))
theorem laws_szSynCouncil.mono : ∀ a0 a1 a2 a3 a4 a5 k, LeO (laws_szSynCouncil.f k a0 a1 a2 a3 a4 a5) (laws_szSynCouncil.f (k + 1) a0 a1 a2 a3 a4 a5) := by
 intro a0 a1 a2 a3 a4 a5 k
 unfold laws_szSynCouncil.f
 repeat' first
   | (with_reducible first|apply laws_szSynSeekerS.mono|apply laws_szSynVoterS.mono|apply laws_szWordS.mono|exact LeO.refl _|exact LeO.none _|refine LeO.ite ?_ ?_|refine LeO.bind ?_ (fun _=>?_))|exact LeO.none _|refine LeO.ite ?_ ?_|refine LeO.bind ?_ (fun _=>?_)
set_option maxHeartbeats 8000000 in
set_option maxRecDepth 100000 in
theorem laws_szSynCouncil.calls {k : Nat} {A0_0 : Option Addr} {c0_0 : Nat} {l0_0 : List (S123)} {A0_1 : Option Addr} {c0_1 : Nat} {l0_1 : List Int} {A0_2 : Option Addr} {c0_2 : Nat} {l0_2 : List (S129)} {A0_3 : Option Addr} {c0_3 : Nat} {l0_3 : List (S134)} {A0_4 : Option Addr} {c0_4 : Nat} {l0_4 : List (S127)} {a1 r : Int} {w : World} (hr0_0 : Kd.C k123 w A0_0 l0_0.length l0_0) (hc0_0 : l0_0.length ≤ c0_0) (hr0_1 : Kd.C (Kd.int .i64) w A0_1 l0_1.length l0_1) (hc0_1 : l0_1.length ≤ c0_1) (hr0_2 : Kd.C k129 w A0_2 l0_2.length l0_2) (hc0_2 : l0_2.length ≤ c0_2) (hr0_3 : Kd.C k134 w A0_3 l0_3.length l0_3) (hc0_3 : l0_3.length ≤ c0_3) (hr0_4 : Kd.C k127 w A0_4 l0_4.length l0_4) (hc0_4 : l0_4.length ≤ c0_4) (h : laws_szSynCouncil.f k l0_0 l0_1 l0_2 l0_3 l0_4 a1 = some r) :
  Calls Try.prog 15 #[.agg #[.slice A0_0 l0_0.length c0_0,.slice A0_1 l0_1.length c0_1,.slice A0_2 l0_2.length c0_2,.slice A0_3 l0_3.length c0_3,.slice A0_4 l0_4.length c0_4],.int .i64 a1] w fun e w'=>e=.returned (.int .i64 r)∧Below w.heap.size w w':=by
 have hu38:=Try.underlying38;have HR0_0:=mA hr0_0;have HC0_0:=mA hc0_0;clear hr0_0 hc0_0;have HR0_1:=mA hr0_1;have HC0_1:=mA hc0_1;clear hr0_1 hc0_1;have HR0_2:=mA hr0_2;have HC0_2:=mA hc0_2;clear hr0_2 hc0_2;have HR0_3:=mA hr0_3;have HC0_3:=mA hc0_3;clear hr0_3 hc0_3;have HR0_4:=mA hr0_4;have HC0_4:=mA hc0_4;clear hr0_4 hc0_4;have HB:=mA (Below.refl w.heap.size w);have H:((laws_szSynVoterS.f k l0_0 a1).bind fun t164=>(if t164<0 then (some (-1)) else ((laws_szIntS.f l0_1 t164).bind fun t165=>(if t165<0 then (some (-1)) else ((laws_szSynSeekerS.f k l0_2 t165).bind fun t166=>(if t166<0 then (some (-1)) else ((laws_szWordS.f k l0_3 t166).bind fun t167=>(if t167<0 then (some (-1)) else ((laws_szSynPaperS.f l0_4 t167).bind fun t168=>(if t168<0 then (some (-1)) else (some t168)))))))))))=some r:=h;clear h;obtain ⟨t164,A3,H⟩:=bI H;(try dsimp only at H)
 by_cases c4:t164<0
 ·rw [if_pos c4] at H;have c4b0:decide (t164<0)=true:=decide_eq_true c4;clear c4;obtain rfl:=Option.some.inj H
  go_enter Try.func15,Try.ntmps15
  go_wp2_with (first|((with_reducible refine gT 2 rfl ?_);refine bX 2 ?_;intro gb163 hg w5 hbox hb;have BK163:=mA hbox;have GW163:=gbpB HB hg;have GE163:=gbpB HB hg;replace HB:=spB HB hb;clear hb hbox hg;obtain ⟨hcz6_0,hcz6_1,hcz6_2,hcz6_3,hcz6_4,hfz6_0,hfz6_1,hfz6_2,hfz6_3,hfz6_4⟩:=box5 BK163.out)|((with_reducible refine gT 8 rfl ?_);refine gC (some 8) Try.func49 (laws_szSynVoterS.calls (cB HR0_0 HB) HC0_0.out A3.out) ?_;rintro e w7 ⟨rfl,hb⟩;refine ⟨_,rfl,?_⟩;replace BK163:=bK BK163 hb;replace HB:=spS HB hb;(try clear hb)))
  go_ret
  exact rZ (pS HB.out)
 ·rw [if_neg c4] at H;have c4b0:decide (t164<0)=false:=decide_eq_false c4;clear c4;obtain ⟨t165,A8,H⟩:=bI H;(try dsimp only at H)
  by_cases c9:t165<0
  ·rw [if_pos c9] at H;have c9b0:decide (t165<0)=true:=decide_eq_true c9;clear c9;obtain rfl:=Option.some.inj H
   go_enter Try.func15,Try.ntmps15
   go_wp2_with (first|((with_reducible refine gT 2 rfl ?_);refine bX 2 ?_;intro gb163 hg w10 hbox hb;have BK163:=mA hbox;have GW163:=gbpB HB hg;have GE163:=gbpB HB hg;replace HB:=spB HB hb;clear hb hbox hg;obtain ⟨hcz11_0,hcz11_1,hcz11_2,hcz11_3,hcz11_4,hfz11_0,hfz11_1,hfz11_2,hfz11_3,hfz11_4⟩:=box5 BK163.out)|((with_reducible refine gT 8 rfl ?_);refine gC (some 8) Try.func49 (laws_szSynVoterS.calls (cB HR0_0 HB) HC0_0.out A3.out) ?_;rintro e w12 ⟨rfl,hb⟩;refine ⟨_,rfl,?_⟩;replace BK163:=bK BK163 hb;replace HB:=spS HB hb;(try clear hb);obtain ⟨hcz13_0,hcz13_1,hcz13_2,hcz13_3,hcz13_4,hfz13_0,hfz13_1,hfz13_2,hfz13_3,hfz13_4⟩:=box5 BK163.out)|((with_reducible refine gT 14 rfl ?_);refine gC (some 14) Try.func50 (laws_szIntS.calls (cB HR0_1 HB) HC0_1.out A8.out) ?_;rintro e w' ⟨rfl,⟨nd,rfl⟩⟩;refine ⟨_,rfl,?_⟩))
   go_ret
   exact rZ (pS HB.out)
  ·rw [if_neg c9] at H;have c9b0:decide (t165<0)=false:=decide_eq_false c9;clear c9;obtain ⟨t166,A14,H⟩:=bI H;(try dsimp only at H)
   by_cases c15:t166<0
   ·rw [if_pos c15] at H;have c15b0:decide (t166<0)=true:=decide_eq_true c15;clear c15;obtain rfl:=Option.some.inj H
    go_enter Try.func15,Try.ntmps15
    go_wp2_with (first|((with_reducible refine gT 2 rfl ?_);refine bX 2 ?_;intro gb163 hg w16 hbox hb;have BK163:=mA hbox;have GW163:=gbpB HB hg;have GE163:=gbpB HB hg;replace HB:=spB HB hb;clear hb hbox hg;obtain ⟨hcz17_0,hcz17_1,hcz17_2,hcz17_3,hcz17_4,hfz17_0,hfz17_1,hfz17_2,hfz17_3,hfz17_4⟩:=box5 BK163.out)|((with_reducible refine gT 8 rfl ?_);refine gC (some 8) Try.func49 (laws_szSynVoterS.calls (cB HR0_0 HB) HC0_0.out A3.out) ?_;rintro e w18 ⟨rfl,hb⟩;refine ⟨_,rfl,?_⟩;replace BK163:=bK BK163 hb;replace HB:=spS HB hb;(try clear hb);obtain ⟨hcz19_0,hcz19_1,hcz19_2,hcz19_3,hcz19_4,hfz19_0,hfz19_1,hfz19_2,hfz19_3,hfz19_4⟩:=box5 BK163.out)|((with_reducible refine gT 14 rfl ?_);refine gC (some 14) Try.func50 (laws_szIntS.calls (cB HR0_1 HB) HC0_1.out A8.out) ?_;rintro e w' ⟨rfl,⟨nd,rfl⟩⟩;refine ⟨_,rfl,?_⟩)|((with_reducible refine gT 20 rfl ?_);refine gC (some 20) Try.func51 (laws_szSynSeekerS.calls (pC (Kd.C_below HR0_2.out (pS HB.out))) HC0_2.out A14.out) ?_;rintro e w20 ⟨rfl,hb⟩;refine ⟨_,rfl,?_⟩;replace BK163:=bK BK163 hb;replace HB:=spS HB hb;(try clear hb)))
    go_ret
    exact rZ (pS HB.out)
   ·rw [if_neg c15] at H;have c15b0:decide (t166<0)=false:=decide_eq_false c15;clear c15;obtain ⟨t167,A21,H⟩:=bI H;(try dsimp only at H)
    by_cases c22:t167<0
    ·rw [if_pos c22] at H;have c22b0:decide (t167<0)=true:=decide_eq_true c22;clear c22;obtain rfl:=Option.some.inj H
     go_enter Try.func15,Try.ntmps15
     go_wp2_with (first|((with_reducible refine gT 2 rfl ?_);refine bX 2 ?_;intro gb163 hg w23 hbox hb;have BK163:=mA hbox;have GW163:=gbpB HB hg;have GE163:=gbpB HB hg;replace HB:=spB HB hb;clear hb hbox hg;obtain ⟨hcz24_0,hcz24_1,hcz24_2,hcz24_3,hcz24_4,hfz24_0,hfz24_1,hfz24_2,hfz24_3,hfz24_4⟩:=box5 BK163.out)|((with_reducible refine gT 8 rfl ?_);refine gC (some 8) Try.func49 (laws_szSynVoterS.calls (cB HR0_0 HB) HC0_0.out A3.out) ?_;rintro e w25 ⟨rfl,hb⟩;refine ⟨_,rfl,?_⟩;replace BK163:=bK BK163 hb;replace HB:=spS HB hb;(try clear hb);obtain ⟨hcz26_0,hcz26_1,hcz26_2,hcz26_3,hcz26_4,hfz26_0,hfz26_1,hfz26_2,hfz26_3,hfz26_4⟩:=box5 BK163.out)|((with_reducible refine gT 14 rfl ?_);refine gC (some 14) Try.func50 (laws_szIntS.calls (cB HR0_1 HB) HC0_1.out A8.out) ?_;rintro e w' ⟨rfl,⟨nd,rfl⟩⟩;refine ⟨_,rfl,?_⟩)|((with_reducible refine gT 20 rfl ?_);refine gC (some 20) Try.func51 (laws_szSynSeekerS.calls (pC (Kd.C_below HR0_2.out (pS HB.out))) HC0_2.out A14.out) ?_;rintro e w27 ⟨rfl,hb⟩;refine ⟨_,rfl,?_⟩;replace BK163:=bK BK163 hb;replace HB:=spS HB hb;(try clear hb);obtain ⟨hcz28_0,hcz28_1,hcz28_2,hcz28_3,hcz28_4,hfz28_0,hfz28_1,hfz28_2,hfz28_3,hfz28_4⟩:=box5 BK163.out)|((with_reducible refine gT 26 rfl ?_);refine gC (some 26) Try.func52 (laws_szWordS.calls (cB HR0_3 HB) HC0_3.out A21.out) ?_;rintro e w29 ⟨rfl,hb⟩;refine ⟨_,rfl,?_⟩;replace BK163:=bK BK163 hb;replace HB:=spS HB hb;(try clear hb)))
     go_ret
     exact rZ (pS HB.out)
    ·rw [if_neg c22] at H;have c22b0:decide (t167<0)=false:=decide_eq_false c22;clear c22;obtain ⟨t168,A30,H⟩:=bI H;(try dsimp only at H)
     by_cases c31:t168<0
     ·rw [if_pos c31] at H;have c31b0:decide (t168<0)=true:=decide_eq_true c31;clear c31;obtain rfl:=Option.some.inj H
      go_enter Try.func15,Try.ntmps15
      go_wp2_with (first|((with_reducible refine gT 2 rfl ?_);refine bX 2 ?_;intro gb163 hg w32 hbox hb;have BK163:=mA hbox;have GW163:=gbpB HB hg;have GE163:=gbpB HB hg;replace HB:=spB HB hb;clear hb hbox hg;obtain ⟨hcz33_0,hcz33_1,hcz33_2,hcz33_3,hcz33_4,hfz33_0,hfz33_1,hfz33_2,hfz33_3,hfz33_4⟩:=box5 BK163.out)|((with_reducible refine gT 8 rfl ?_);refine gC (some 8) Try.func49 (laws_szSynVoterS.calls (cB HR0_0 HB) HC0_0.out A3.out) ?_;rintro e w34 ⟨rfl,hb⟩;refine ⟨_,rfl,?_⟩;replace BK163:=bK BK163 hb;replace HB:=spS HB hb;(try clear hb);obtain ⟨hcz35_0,hcz35_1,hcz35_2,hcz35_3,hcz35_4,hfz35_0,hfz35_1,hfz35_2,hfz35_3,hfz35_4⟩:=box5 BK163.out)|((with_reducible refine gT 14 rfl ?_);refine gC (some 14) Try.func50 (laws_szIntS.calls (cB HR0_1 HB) HC0_1.out A8.out) ?_;rintro e w' ⟨rfl,⟨nd,rfl⟩⟩;refine ⟨_,rfl,?_⟩)|((with_reducible refine gT 20 rfl ?_);refine gC (some 20) Try.func51 (laws_szSynSeekerS.calls (pC (Kd.C_below HR0_2.out (pS HB.out))) HC0_2.out A14.out) ?_;rintro e w36 ⟨rfl,hb⟩;refine ⟨_,rfl,?_⟩;replace BK163:=bK BK163 hb;replace HB:=spS HB hb;(try clear hb);obtain ⟨hcz37_0,hcz37_1,hcz37_2,hcz37_3,hcz37_4,hfz37_0,hfz37_1,hfz37_2,hfz37_3,hfz37_4⟩:=box5 BK163.out)|((with_reducible refine gT 26 rfl ?_);refine gC (some 26) Try.func52 (laws_szWordS.calls (cB HR0_3 HB) HC0_3.out A21.out) ?_;rintro e w38 ⟨rfl,hb⟩;refine ⟨_,rfl,?_⟩;replace BK163:=bK BK163 hb;replace HB:=spS HB hb;(try clear hb);obtain ⟨hcz39_0,hcz39_1,hcz39_2,hcz39_3,hcz39_4,hfz39_0,hfz39_1,hfz39_2,hfz39_3,hfz39_4⟩:=box5 BK163.out)|((with_reducible refine gT 32 rfl ?_);refine gC (some 32) Try.func53 (laws_szSynPaperS.calls (cB HR0_4 HB) HC0_4.out A30.out) ?_;rintro e w' ⟨rfl,⟨nd,rfl⟩⟩;refine ⟨_,rfl,?_⟩))
      go_ret
      exact rZ (pS HB.out)
     ·rw [if_neg c31] at H;have c31b0:decide (t168<0)=false:=decide_eq_false c31;clear c31;obtain rfl:=Option.some.inj H
      go_enter Try.func15,Try.ntmps15
      go_wp2_with (first|((with_reducible refine gT 2 rfl ?_);refine bX 2 ?_;intro gb163 hg w40 hbox hb;have BK163:=mA hbox;have GW163:=gbpB HB hg;have GE163:=gbpB HB hg;replace HB:=spB HB hb;clear hb hbox hg;obtain ⟨hcz41_0,hcz41_1,hcz41_2,hcz41_3,hcz41_4,hfz41_0,hfz41_1,hfz41_2,hfz41_3,hfz41_4⟩:=box5 BK163.out)|((with_reducible refine gT 8 rfl ?_);refine gC (some 8) Try.func49 (laws_szSynVoterS.calls (cB HR0_0 HB) HC0_0.out A3.out) ?_;rintro e w42 ⟨rfl,hb⟩;refine ⟨_,rfl,?_⟩;replace BK163:=bK BK163 hb;replace HB:=spS HB hb;(try clear hb);obtain ⟨hcz43_0,hcz43_1,hcz43_2,hcz43_3,hcz43_4,hfz43_0,hfz43_1,hfz43_2,hfz43_3,hfz43_4⟩:=box5 BK163.out)|((with_reducible refine gT 14 rfl ?_);refine gC (some 14) Try.func50 (laws_szIntS.calls (cB HR0_1 HB) HC0_1.out A8.out) ?_;rintro e w' ⟨rfl,⟨nd,rfl⟩⟩;refine ⟨_,rfl,?_⟩)|((with_reducible refine gT 20 rfl ?_);refine gC (some 20) Try.func51 (laws_szSynSeekerS.calls (pC (Kd.C_below HR0_2.out (pS HB.out))) HC0_2.out A14.out) ?_;rintro e w44 ⟨rfl,hb⟩;refine ⟨_,rfl,?_⟩;replace BK163:=bK BK163 hb;replace HB:=spS HB hb;(try clear hb);obtain ⟨hcz45_0,hcz45_1,hcz45_2,hcz45_3,hcz45_4,hfz45_0,hfz45_1,hfz45_2,hfz45_3,hfz45_4⟩:=box5 BK163.out)|((with_reducible refine gT 26 rfl ?_);refine gC (some 26) Try.func52 (laws_szWordS.calls (cB HR0_3 HB) HC0_3.out A21.out) ?_;rintro e w46 ⟨rfl,hb⟩;refine ⟨_,rfl,?_⟩;replace BK163:=bK BK163 hb;replace HB:=spS HB hb;(try clear hb);obtain ⟨hcz47_0,hcz47_1,hcz47_2,hcz47_3,hcz47_4,hfz47_0,hfz47_1,hfz47_2,hfz47_3,hfz47_4⟩:=box5 BK163.out)|((with_reducible refine gT 32 rfl ?_);refine gC (some 32) Try.func53 (laws_szSynPaperS.calls (cB HR0_4 HB) HC0_4.out A30.out) ?_;rintro e w' ⟨rfl,⟨nd,rfl⟩⟩;refine ⟨_,rfl,?_⟩))
      go_ret
      exact rZ (pS HB.out)

/-! ### spec_l6In: function 55 -/
def spec_l6In.f (a0 a1 a2 : Int) : Option (Bool) := if a0 ≥ a1 then (some (decide (a0 ≤ a2))) else (some false)
set_option maxHeartbeats 8000000 in
set_option maxRecDepth 100000 in
theorem spec_l6In.calls {a0 a1 a2 : Int} {r : Bool} {w : World} (h : spec_l6In.f a0 a1 a2 = some r) :
  Calls Try.prog 55 #[.int .i64 a0,.int .i64 a1,.int .i64 a2] w fun e w'=>e=.returned (.bool r)∧Drawn0 w w':=by
 have H:(if a0 ≥ a1 then (some (decide (a0≤a2))) else (some false))=some r:=h;clear h
 by_cases c4:a0 ≥ a1
 ·rw [if_pos c4] at H;have c4b0:decide (a1≤a0)=true:=decide_eq_true c4;clear c4;obtain rfl:=Option.some.inj H
  go_enter Try.func55,Try.ntmps55
  go_wp2
  go_ret
  exact ⟨by first|rfl|(simp;done)|(simp [*];done),by repeat (first|exact Drawn0.refl _|apply Drawn0.step)⟩
 ·rw [if_neg c4] at H;have c4b0:decide (a1≤a0)=false:=decide_eq_false c4;clear c4;obtain rfl:=Option.some.inj H
  go_enter Try.func55,Try.ntmps55
  go_wp2
  go_ret
  exact ⟨by first|rfl|(simp;done)|(simp [*];done),by repeat (first|exact Drawn0.refl _|apply Drawn0.step)⟩

/-! ### spec_l11Num: function 98 -/
def spec_l11Num.f (a0 : Int) : Option (Bool) := (spec_l6In.f a0 (-1) 99999).bind fun t169 => (some t169)
set_option maxHeartbeats 8000000 in
set_option maxRecDepth 100000 in
theorem spec_l11Num.calls {a0 : Int} {r : Bool} {w : World} (h : spec_l11Num.f a0 = some r) :
  Calls Try.prog 98 #[.int .i64 a0] w fun e w'=>e=.returned (.bool r)∧Drawn0 w w':=by
 have H:((spec_l6In.f a0 (-1) 99999).bind fun t169=>(some t169))=some r:=h;clear h;obtain ⟨t169,A2,H⟩:=bI H;(try dsimp only at H);obtain rfl:=Option.some.inj H
 go_enter Try.func98,Try.ntmps98
 go_wp2_with (first|((with_reducible refine gT 4 rfl ?_);refine gC (some 4) Try.func55 (spec_l6In.calls A2.out) ?_;rintro e w' ⟨rfl,⟨nd,rfl⟩⟩;refine ⟨_,rfl,?_⟩))
 go_ret
 exact ⟨by first|rfl|(simp;done)|(simp [*];done),by repeat (first|exact Drawn0.refl _|apply Drawn0.step)⟩

/-! ### spec_l11CmdOk: function 81 -/
def spec_l11CmdOk.f (a0_0 a0_1 a0_2 a0_3 a0_4 a0_5 a0_6 a0_7 a0_8 a0_9 : Int) : Option (Bool) := (spec_l6In.f a0_0 0 7).bind fun t171 => (if t171 = true then ((spec_l11Num.f a0_1).bind fun t172 => (if t172 = true then ((spec_l11Num.f a0_2).bind fun t173 => (if t173 = true then ((spec_l11Num.f a0_3).bind fun t174 => (if t174 = true then ((spec_l11Num.f a0_4).bind fun t175 => (if t175 = true then ((spec_l11Num.f a0_5).bind fun t176 => (if t176 = true then ((spec_l11Num.f a0_6).bind fun t177 => (if t177 = true then ((spec_l11Num.f a0_7).bind fun t178 => (if t178 = true then ((spec_l11Num.f a0_8).bind fun t179 => (if t179 = true then ((spec_l11Num.f a0_9).bind fun t180 => (some t180)) else (some false))) else (some false))) else (some false))) else (some false))) else (some false))) else (some false))) else (some false))) else (some false))) else (some false))
set_option maxHeartbeats 8000000 in
set_option maxRecDepth 100000 in
theorem spec_l11CmdOk.calls {a0_0 a0_1 a0_2 a0_3 a0_4 a0_5 a0_6 a0_7 a0_8 a0_9 : Int} {r : Bool} {w : World} (h : spec_l11CmdOk.f a0_0 a0_1 a0_2 a0_3 a0_4 a0_5 a0_6 a0_7 a0_8 a0_9 = some r) :
  Calls Try.prog 81 #[.agg #[.int .i64 a0_0,.int .i64 a0_1,.int .i64 a0_2,.int .i64 a0_3,.int .i64 a0_4,.int .i64 a0_5,.int .i64 a0_6,.int .i64 a0_7,.int .i64 a0_8,.int .i64 a0_9]] w fun e w'=>e=.returned (.bool r)∧Below w.heap.size w w':=by
 have hu44:=Try.underlying44;have HB:=mA (Below.refl w.heap.size w);have H:((spec_l6In.f a0_0 0 7).bind fun t171=>(if t171=true then ((spec_l11Num.f a0_1).bind fun t172=>(if t172=true then ((spec_l11Num.f a0_2).bind fun t173=>(if t173=true then ((spec_l11Num.f a0_3).bind fun t174=>(if t174=true then ((spec_l11Num.f a0_4).bind fun t175=>(if t175=true then ((spec_l11Num.f a0_5).bind fun t176=>(if t176=true then ((spec_l11Num.f a0_6).bind fun t177=>(if t177=true then ((spec_l11Num.f a0_7).bind fun t178=>(if t178=true then ((spec_l11Num.f a0_8).bind fun t179=>(if t179=true then ((spec_l11Num.f a0_9).bind fun t180=>(some t180)) else (some false))) else (some false))) else (some false))) else (some false))) else (some false))) else (some false))) else (some false))) else (some false))) else (some false)))=some r:=h;clear h;obtain ⟨t171,A2,H⟩:=bI H;(try dsimp only at H)
 by_cases c3:t171=true
 ·subst c3;rw [if_pos rfl] at H;obtain ⟨t172,A4,H⟩:=bI H;(try dsimp only at H)
  by_cases c5:t172=true
  ·subst c5;rw [if_pos rfl] at H;obtain ⟨t173,A6,H⟩:=bI H;(try dsimp only at H)
   by_cases c7:t173=true
   ·subst c7;rw [if_pos rfl] at H;obtain ⟨t174,A8,H⟩:=bI H;(try dsimp only at H)
    by_cases c9:t174=true
    ·subst c9;rw [if_pos rfl] at H;obtain ⟨t175,A10,H⟩:=bI H;(try dsimp only at H)
     by_cases c11:t175=true
     ·subst c11;rw [if_pos rfl] at H;obtain ⟨t176,A12,H⟩:=bI H;(try dsimp only at H)
      by_cases c13:t176=true
      ·subst c13;rw [if_pos rfl] at H;obtain ⟨t177,A14,H⟩:=bI H;(try dsimp only at H)
       by_cases c15:t177=true
       ·subst c15;rw [if_pos rfl] at H;obtain ⟨t178,A16,H⟩:=bI H;(try dsimp only at H)
        by_cases c17:t178=true
        ·subst c17;rw [if_pos rfl] at H;obtain ⟨t179,A18,H⟩:=bI H;(try dsimp only at H)
         by_cases c19:t179=true
         ·subst c19;rw [if_pos rfl] at H;obtain ⟨t180,A20,H⟩:=bI H;(try dsimp only at H);obtain rfl:=Option.some.inj H
          go_enter Try.func81,Try.ntmps81
          go_wp2_with (first|((with_reducible refine gLg rfl (by assumption) ?_);refine ldV ?_)|((with_reducible refine gSt rfl (by assumption) ?_);refine stV ?_)|((with_reducible refine gT 1 rfl ?_);refine bX 1 ?_;intro gb170 hg w21 hbox hb;have BK170:=mA hbox;have GW170:=gbpB HB hg;have GE170:=gbpB HB hg;replace HB:=spB HB hb;clear hb hbox hg;have hcz22_0:=fun i_=>blk_cell BK170.out i_;have hfz22_0:=fun i_=>blk_frozen BK170.out i_)|((with_reducible refine gT 5 rfl ?_);refine gC (some 5) Try.func55 (spec_l6In.calls A2.out) ?_;rintro e w' ⟨rfl,⟨nd,rfl⟩⟩;refine ⟨_,rfl,?_⟩)|(go_at_call 98;(with_reducible refine (spec_l11Num.calls A4.out).mono ?_);rintro e w' ⟨rfl,⟨nd,rfl⟩⟩)|(go_at_call 98;(with_reducible refine (spec_l11Num.calls A6.out).mono ?_);rintro e w' ⟨rfl,⟨nd,rfl⟩⟩)|(go_at_call 98;(with_reducible refine (spec_l11Num.calls A8.out).mono ?_);rintro e w' ⟨rfl,⟨nd,rfl⟩⟩)|(go_at_call 98;(with_reducible refine (spec_l11Num.calls A10.out).mono ?_);rintro e w' ⟨rfl,⟨nd,rfl⟩⟩)|(go_at_call 98;(with_reducible refine (spec_l11Num.calls A12.out).mono ?_);rintro e w' ⟨rfl,⟨nd,rfl⟩⟩)|(go_at_call 98;(with_reducible refine (spec_l11Num.calls A14.out).mono ?_);rintro e w' ⟨rfl,⟨nd,rfl⟩⟩)|(go_at_call 98;(with_reducible refine (spec_l11Num.calls A16.out).mono ?_);rintro e w' ⟨rfl,⟨nd,rfl⟩⟩)|(go_at_call 98;(with_reducible refine (spec_l11Num.calls A18.out).mono ?_);rintro e w' ⟨rfl,⟨nd,rfl⟩⟩)|(go_at_call 98;(with_reducible refine (spec_l11Num.calls A20.out).mono ?_);rintro e w' ⟨rfl,⟨nd,rfl⟩⟩))
          go_ret
          exact rZ (pS HB.out)
         ·replace c19:=Bool.eq_false_iff.mpr c19;subst c19
          rw [if_neg nFT] at H
          obtain rfl:=Option.some.inj H
          go_enter Try.func81,Try.ntmps81
          go_wp2_with (first|((with_reducible refine gLg rfl (by assumption) ?_);refine ldV ?_)|((with_reducible refine gSt rfl (by assumption) ?_);refine stV ?_)|((with_reducible refine gT 1 rfl ?_);refine bX 1 ?_;intro gb170 hg w23 hbox hb;have BK170:=mA hbox;have GW170:=gbpB HB hg;have GE170:=gbpB HB hg;replace HB:=spB HB hb;clear hb hbox hg;have hcz24_0:=fun i_=>blk_cell BK170.out i_;have hfz24_0:=fun i_=>blk_frozen BK170.out i_)|((with_reducible refine gT 5 rfl ?_);refine gC (some 5) Try.func55 (spec_l6In.calls A2.out) ?_;rintro e w' ⟨rfl,⟨nd,rfl⟩⟩;refine ⟨_,rfl,?_⟩)|(go_at_call 98;(with_reducible refine (spec_l11Num.calls A4.out).mono ?_);rintro e w' ⟨rfl,⟨nd,rfl⟩⟩)|(go_at_call 98;(with_reducible refine (spec_l11Num.calls A6.out).mono ?_);rintro e w' ⟨rfl,⟨nd,rfl⟩⟩)|(go_at_call 98;(with_reducible refine (spec_l11Num.calls A8.out).mono ?_);rintro e w' ⟨rfl,⟨nd,rfl⟩⟩)|(go_at_call 98;(with_reducible refine (spec_l11Num.calls A10.out).mono ?_);rintro e w' ⟨rfl,⟨nd,rfl⟩⟩)|(go_at_call 98;(with_reducible refine (spec_l11Num.calls A12.out).mono ?_);rintro e w' ⟨rfl,⟨nd,rfl⟩⟩)|(go_at_call 98;(with_reducible refine (spec_l11Num.calls A14.out).mono ?_);rintro e w' ⟨rfl,⟨nd,rfl⟩⟩)|(go_at_call 98;(with_reducible refine (spec_l11Num.calls A16.out).mono ?_);rintro e w' ⟨rfl,⟨nd,rfl⟩⟩)|(go_at_call 98;(with_reducible refine (spec_l11Num.calls A18.out).mono ?_);rintro e w' ⟨rfl,⟨nd,rfl⟩⟩))
          go_ret
          exact rZ (pS HB.out)
        ·replace c17:=Bool.eq_false_iff.mpr c17;subst c17
         rw [if_neg nFT] at H
         obtain rfl:=Option.some.inj H
         go_enter Try.func81,Try.ntmps81
         go_wp2_with (first|((with_reducible refine gLg rfl (by assumption) ?_);refine ldV ?_)|((with_reducible refine gSt rfl (by assumption) ?_);refine stV ?_)|((with_reducible refine gT 1 rfl ?_);refine bX 1 ?_;intro gb170 hg w25 hbox hb;have BK170:=mA hbox;have GW170:=gbpB HB hg;have GE170:=gbpB HB hg;replace HB:=spB HB hb;clear hb hbox hg;have hcz26_0:=fun i_=>blk_cell BK170.out i_;have hfz26_0:=fun i_=>blk_frozen BK170.out i_)|((with_reducible refine gT 5 rfl ?_);refine gC (some 5) Try.func55 (spec_l6In.calls A2.out) ?_;rintro e w' ⟨rfl,⟨nd,rfl⟩⟩;refine ⟨_,rfl,?_⟩)|(go_at_call 98;(with_reducible refine (spec_l11Num.calls A4.out).mono ?_);rintro e w' ⟨rfl,⟨nd,rfl⟩⟩)|(go_at_call 98;(with_reducible refine (spec_l11Num.calls A6.out).mono ?_);rintro e w' ⟨rfl,⟨nd,rfl⟩⟩)|(go_at_call 98;(with_reducible refine (spec_l11Num.calls A8.out).mono ?_);rintro e w' ⟨rfl,⟨nd,rfl⟩⟩)|(go_at_call 98;(with_reducible refine (spec_l11Num.calls A10.out).mono ?_);rintro e w' ⟨rfl,⟨nd,rfl⟩⟩)|(go_at_call 98;(with_reducible refine (spec_l11Num.calls A12.out).mono ?_);rintro e w' ⟨rfl,⟨nd,rfl⟩⟩)|(go_at_call 98;(with_reducible refine (spec_l11Num.calls A14.out).mono ?_);rintro e w' ⟨rfl,⟨nd,rfl⟩⟩)|(go_at_call 98;(with_reducible refine (spec_l11Num.calls A16.out).mono ?_);rintro e w' ⟨rfl,⟨nd,rfl⟩⟩))
         go_ret
         exact rZ (pS HB.out)
       ·replace c15:=Bool.eq_false_iff.mpr c15;subst c15
        rw [if_neg nFT] at H
        obtain rfl:=Option.some.inj H
        go_enter Try.func81,Try.ntmps81
        go_wp2_with (first|((with_reducible refine gLg rfl (by assumption) ?_);refine ldV ?_)|((with_reducible refine gSt rfl (by assumption) ?_);refine stV ?_)|((with_reducible refine gT 1 rfl ?_);refine bX 1 ?_;intro gb170 hg w27 hbox hb;have BK170:=mA hbox;have GW170:=gbpB HB hg;have GE170:=gbpB HB hg;replace HB:=spB HB hb;clear hb hbox hg;have hcz28_0:=fun i_=>blk_cell BK170.out i_;have hfz28_0:=fun i_=>blk_frozen BK170.out i_)|((with_reducible refine gT 5 rfl ?_);refine gC (some 5) Try.func55 (spec_l6In.calls A2.out) ?_;rintro e w' ⟨rfl,⟨nd,rfl⟩⟩;refine ⟨_,rfl,?_⟩)|(go_at_call 98;(with_reducible refine (spec_l11Num.calls A4.out).mono ?_);rintro e w' ⟨rfl,⟨nd,rfl⟩⟩)|(go_at_call 98;(with_reducible refine (spec_l11Num.calls A6.out).mono ?_);rintro e w' ⟨rfl,⟨nd,rfl⟩⟩)|(go_at_call 98;(with_reducible refine (spec_l11Num.calls A8.out).mono ?_);rintro e w' ⟨rfl,⟨nd,rfl⟩⟩)|(go_at_call 98;(with_reducible refine (spec_l11Num.calls A10.out).mono ?_);rintro e w' ⟨rfl,⟨nd,rfl⟩⟩)|(go_at_call 98;(with_reducible refine (spec_l11Num.calls A12.out).mono ?_);rintro e w' ⟨rfl,⟨nd,rfl⟩⟩)|(go_at_call 98;(with_reducible refine (spec_l11Num.calls A14.out).mono ?_);rintro e w' ⟨rfl,⟨nd,rfl⟩⟩))
        go_ret
        exact rZ (pS HB.out)
      ·replace c13:=Bool.eq_false_iff.mpr c13;subst c13
       rw [if_neg nFT] at H
       obtain rfl:=Option.some.inj H
       go_enter Try.func81,Try.ntmps81
       go_wp2_with (first|((with_reducible refine gLg rfl (by assumption) ?_);refine ldV ?_)|((with_reducible refine gSt rfl (by assumption) ?_);refine stV ?_)|((with_reducible refine gT 1 rfl ?_);refine bX 1 ?_;intro gb170 hg w29 hbox hb;have BK170:=mA hbox;have GW170:=gbpB HB hg;have GE170:=gbpB HB hg;replace HB:=spB HB hb;clear hb hbox hg;have hcz30_0:=fun i_=>blk_cell BK170.out i_;have hfz30_0:=fun i_=>blk_frozen BK170.out i_)|((with_reducible refine gT 5 rfl ?_);refine gC (some 5) Try.func55 (spec_l6In.calls A2.out) ?_;rintro e w' ⟨rfl,⟨nd,rfl⟩⟩;refine ⟨_,rfl,?_⟩)|(go_at_call 98;(with_reducible refine (spec_l11Num.calls A4.out).mono ?_);rintro e w' ⟨rfl,⟨nd,rfl⟩⟩)|(go_at_call 98;(with_reducible refine (spec_l11Num.calls A6.out).mono ?_);rintro e w' ⟨rfl,⟨nd,rfl⟩⟩)|(go_at_call 98;(with_reducible refine (spec_l11Num.calls A8.out).mono ?_);rintro e w' ⟨rfl,⟨nd,rfl⟩⟩)|(go_at_call 98;(with_reducible refine (spec_l11Num.calls A10.out).mono ?_);rintro e w' ⟨rfl,⟨nd,rfl⟩⟩)|(go_at_call 98;(with_reducible refine (spec_l11Num.calls A12.out).mono ?_);rintro e w' ⟨rfl,⟨nd,rfl⟩⟩))
       go_ret
       exact rZ (pS HB.out)
     ·replace c11:=Bool.eq_false_iff.mpr c11;subst c11
      rw [if_neg nFT] at H
      obtain rfl:=Option.some.inj H
      go_enter Try.func81,Try.ntmps81
      go_wp2_with (first|((with_reducible refine gLg rfl (by assumption) ?_);refine ldV ?_)|((with_reducible refine gSt rfl (by assumption) ?_);refine stV ?_)|((with_reducible refine gT 1 rfl ?_);refine bX 1 ?_;intro gb170 hg w31 hbox hb;have BK170:=mA hbox;have GW170:=gbpB HB hg;have GE170:=gbpB HB hg;replace HB:=spB HB hb;clear hb hbox hg;have hcz32_0:=fun i_=>blk_cell BK170.out i_;have hfz32_0:=fun i_=>blk_frozen BK170.out i_)|((with_reducible refine gT 5 rfl ?_);refine gC (some 5) Try.func55 (spec_l6In.calls A2.out) ?_;rintro e w' ⟨rfl,⟨nd,rfl⟩⟩;refine ⟨_,rfl,?_⟩)|(go_at_call 98;(with_reducible refine (spec_l11Num.calls A4.out).mono ?_);rintro e w' ⟨rfl,⟨nd,rfl⟩⟩)|(go_at_call 98;(with_reducible refine (spec_l11Num.calls A6.out).mono ?_);rintro e w' ⟨rfl,⟨nd,rfl⟩⟩)|(go_at_call 98;(with_reducible refine (spec_l11Num.calls A8.out).mono ?_);rintro e w' ⟨rfl,⟨nd,rfl⟩⟩)|(go_at_call 98;(with_reducible refine (spec_l11Num.calls A10.out).mono ?_);rintro e w' ⟨rfl,⟨nd,rfl⟩⟩))
      go_ret
      exact rZ (pS HB.out)
    ·replace c9:=Bool.eq_false_iff.mpr c9;subst c9
     rw [if_neg nFT] at H
     obtain rfl:=Option.some.inj H
     go_enter Try.func81,Try.ntmps81
     go_wp2_with (first|((with_reducible refine gLg rfl (by assumption) ?_);refine ldV ?_)|((with_reducible refine gSt rfl (by assumption) ?_);refine stV ?_)|((with_reducible refine gT 1 rfl ?_);refine bX 1 ?_;intro gb170 hg w33 hbox hb;have BK170:=mA hbox;have GW170:=gbpB HB hg;have GE170:=gbpB HB hg;replace HB:=spB HB hb;clear hb hbox hg;have hcz34_0:=fun i_=>blk_cell BK170.out i_;have hfz34_0:=fun i_=>blk_frozen BK170.out i_)|((with_reducible refine gT 5 rfl ?_);refine gC (some 5) Try.func55 (spec_l6In.calls A2.out) ?_;rintro e w' ⟨rfl,⟨nd,rfl⟩⟩;refine ⟨_,rfl,?_⟩)|(go_at_call 98;(with_reducible refine (spec_l11Num.calls A4.out).mono ?_);rintro e w' ⟨rfl,⟨nd,rfl⟩⟩)|(go_at_call 98;(with_reducible refine (spec_l11Num.calls A6.out).mono ?_);rintro e w' ⟨rfl,⟨nd,rfl⟩⟩)|(go_at_call 98;(with_reducible refine (spec_l11Num.calls A8.out).mono ?_);rintro e w' ⟨rfl,⟨nd,rfl⟩⟩))
     go_ret
     exact rZ (pS HB.out)
   ·replace c7:=Bool.eq_false_iff.mpr c7;subst c7
    rw [if_neg nFT] at H
    obtain rfl:=Option.some.inj H
    go_enter Try.func81,Try.ntmps81
    go_wp2_with (first|((with_reducible refine gLg rfl (by assumption) ?_);refine ldV ?_)|((with_reducible refine gSt rfl (by assumption) ?_);refine stV ?_)|((with_reducible refine gT 1 rfl ?_);refine bX 1 ?_;intro gb170 hg w35 hbox hb;have BK170:=mA hbox;have GW170:=gbpB HB hg;have GE170:=gbpB HB hg;replace HB:=spB HB hb;clear hb hbox hg;have hcz36_0:=fun i_=>blk_cell BK170.out i_;have hfz36_0:=fun i_=>blk_frozen BK170.out i_)|((with_reducible refine gT 5 rfl ?_);refine gC (some 5) Try.func55 (spec_l6In.calls A2.out) ?_;rintro e w' ⟨rfl,⟨nd,rfl⟩⟩;refine ⟨_,rfl,?_⟩)|(go_at_call 98;(with_reducible refine (spec_l11Num.calls A4.out).mono ?_);rintro e w' ⟨rfl,⟨nd,rfl⟩⟩)|(go_at_call 98;(with_reducible refine (spec_l11Num.calls A6.out).mono ?_);rintro e w' ⟨rfl,⟨nd,rfl⟩⟩))
    go_ret
    exact rZ (pS HB.out)
  ·replace c5:=Bool.eq_false_iff.mpr c5;subst c5
   rw [if_neg nFT] at H
   obtain rfl:=Option.some.inj H
   go_enter Try.func81,Try.ntmps81
   go_wp2_with (first|((with_reducible refine gLg rfl (by assumption) ?_);refine ldV ?_)|((with_reducible refine gSt rfl (by assumption) ?_);refine stV ?_)|((with_reducible refine gT 1 rfl ?_);refine bX 1 ?_;intro gb170 hg w37 hbox hb;have BK170:=mA hbox;have GW170:=gbpB HB hg;have GE170:=gbpB HB hg;replace HB:=spB HB hb;clear hb hbox hg;have hcz38_0:=fun i_=>blk_cell BK170.out i_;have hfz38_0:=fun i_=>blk_frozen BK170.out i_)|((with_reducible refine gT 5 rfl ?_);refine gC (some 5) Try.func55 (spec_l6In.calls A2.out) ?_;rintro e w' ⟨rfl,⟨nd,rfl⟩⟩;refine ⟨_,rfl,?_⟩)|(go_at_call 98;(with_reducible refine (spec_l11Num.calls A4.out).mono ?_);rintro e w' ⟨rfl,⟨nd,rfl⟩⟩))
   go_ret
   exact rZ (pS HB.out)
 ·replace c3:=Bool.eq_false_iff.mpr c3;subst c3
  rw [if_neg nFT] at H
  obtain rfl:=Option.some.inj H
  go_enter Try.func81,Try.ntmps81
  go_wp2_with (first|((with_reducible refine gLg rfl (by assumption) ?_);refine ldV ?_)|((with_reducible refine gSt rfl (by assumption) ?_);refine stV ?_)|((with_reducible refine gT 1 rfl ?_);refine bX 1 ?_;intro gb170 hg w39 hbox hb;have BK170:=mA hbox;have GW170:=gbpB HB hg;have GE170:=gbpB HB hg;replace HB:=spB HB hb;clear hb hbox hg;have hcz40_0:=fun i_=>blk_cell BK170.out i_;have hfz40_0:=fun i_=>blk_frozen BK170.out i_)|((with_reducible refine gT 5 rfl ?_);refine gC (some 5) Try.func55 (spec_l6In.calls A2.out) ?_;rintro e w' ⟨rfl,⟨nd,rfl⟩⟩;refine ⟨_,rfl,?_⟩))
  go_ret
  exact rZ (pS HB.out)

/-! ### spec_l21PaperOk: function 58 -/
def spec_l21PaperOk.f (a0_0 a0_1 a0_2 a0_3 a0_4 a0_5 a0_6 a0_7 a0_8 a0_9 a0_10 a0_11 : Int) : Option (Bool) := (spec_l6In.f a0_0 1 60).bind fun t182 => (if t182 = true then ((spec_l6In.f a0_1 1 99999).bind fun t183 => (if t183 = true then ((spec_l11CmdOk.f a0_2 a0_3 a0_4 a0_5 a0_6 a0_7 a0_8 a0_9 a0_10 a0_11).bind fun t184 => (some t184)) else (some false))) else (some false))
set_option maxHeartbeats 8000000 in
set_option maxRecDepth 100000 in
theorem spec_l21PaperOk.calls {a0_0 a0_1 a0_2 a0_3 a0_4 a0_5 a0_6 a0_7 a0_8 a0_9 a0_10 a0_11 : Int} {r : Bool} {w : World} (h : spec_l21PaperOk.f a0_0 a0_1 a0_2 a0_3 a0_4 a0_5 a0_6 a0_7 a0_8 a0_9 a0_10 a0_11 = some r) :
  Calls Try.prog 58 #[.agg #[.int .i64 a0_0,.int .i64 a0_1,.int .i64 a0_2,.int .i64 a0_3,.int .i64 a0_4,.int .i64 a0_5,.int .i64 a0_6,.int .i64 a0_7,.int .i64 a0_8,.int .i64 a0_9,.int .i64 a0_10,.int .i64 a0_11]] w fun e w'=>e=.returned (.bool r)∧Below w.heap.size w w':=by
 have hu53:=Try.underlying53;have hu44:=Try.underlying44;have HB:=mA (Below.refl w.heap.size w);have H:((spec_l6In.f a0_0 1 60).bind fun t182=>(if t182=true then ((spec_l6In.f a0_1 1 99999).bind fun t183=>(if t183=true then ((spec_l11CmdOk.f a0_2 a0_3 a0_4 a0_5 a0_6 a0_7 a0_8 a0_9 a0_10 a0_11).bind fun t184=>(some t184)) else (some false))) else (some false)))=some r:=h;clear h;obtain ⟨t182,A2,H⟩:=bI H;(try dsimp only at H)
 by_cases c3:t182=true
 ·subst c3;rw [if_pos rfl] at H;obtain ⟨t183,A4,H⟩:=bI H;(try dsimp only at H)
  by_cases c5:t183=true
  ·subst c5;rw [if_pos rfl] at H;obtain ⟨t184,A6,H⟩:=bI H;(try dsimp only at H);obtain rfl:=Option.some.inj H
   go_enter Try.func58,Try.ntmps58
   go_wp2_with (first|((with_reducible refine gLg rfl (by assumption) ?_);refine ldV ?_)|((with_reducible refine gSt rfl (by assumption) ?_);refine stV ?_)|((with_reducible refine gT 1 rfl ?_);refine bX 1 ?_;intro gb181 hg w7 hbox hb;have BK181:=mA hbox;have GW181:=gbpB HB hg;have GE181:=gbpB HB hg;replace HB:=spB HB hb;clear hb hbox hg;have hcz8_0:=fun i_=>blk_cell BK181.out i_;have hfz8_0:=fun i_=>blk_frozen BK181.out i_)|((with_reducible refine gT 5 rfl ?_);refine gC (some 5) Try.func55 (spec_l6In.calls A2.out) ?_;rintro e w' ⟨rfl,⟨nd,rfl⟩⟩;refine ⟨_,rfl,?_⟩)|(go_at_call 55;(with_reducible refine (spec_l6In.calls A4.out).mono ?_);rintro e w' ⟨rfl,⟨nd,rfl⟩⟩)|(go_at_call 81;(with_reducible refine (spec_l11CmdOk.calls A6.out).mono ?_);rintro e w9 ⟨rfl,hb⟩;replace BK181:=bK BK181 hb;replace HB:=spS HB hb;(try clear hb)))
   go_ret
   exact rZ (pS HB.out)
  ·replace c5:=Bool.eq_false_iff.mpr c5;subst c5
   rw [if_neg nFT] at H
   obtain rfl:=Option.some.inj H
   go_enter Try.func58,Try.ntmps58
   go_wp2_with (first|((with_reducible refine gLg rfl (by assumption) ?_);refine ldV ?_)|((with_reducible refine gSt rfl (by assumption) ?_);refine stV ?_)|((with_reducible refine gT 1 rfl ?_);refine bX 1 ?_;intro gb181 hg w10 hbox hb;have BK181:=mA hbox;have GW181:=gbpB HB hg;have GE181:=gbpB HB hg;replace HB:=spB HB hb;clear hb hbox hg;have hcz11_0:=fun i_=>blk_cell BK181.out i_;have hfz11_0:=fun i_=>blk_frozen BK181.out i_)|((with_reducible refine gT 5 rfl ?_);refine gC (some 5) Try.func55 (spec_l6In.calls A2.out) ?_;rintro e w' ⟨rfl,⟨nd,rfl⟩⟩;refine ⟨_,rfl,?_⟩)|(go_at_call 55;(with_reducible refine (spec_l6In.calls A4.out).mono ?_);rintro e w' ⟨rfl,⟨nd,rfl⟩⟩))
   go_ret
   exact rZ (pS HB.out)
 ·replace c3:=Bool.eq_false_iff.mpr c3;subst c3
  rw [if_neg nFT] at H
  obtain rfl:=Option.some.inj H
  go_enter Try.func58,Try.ntmps58
  go_wp2_with (first|((with_reducible refine gLg rfl (by assumption) ?_);refine ldV ?_)|((with_reducible refine gSt rfl (by assumption) ?_);refine stV ?_)|((with_reducible refine gT 1 rfl ?_);refine bX 1 ?_;intro gb181 hg w12 hbox hb;have BK181:=mA hbox;have GW181:=gbpB HB hg;have GE181:=gbpB HB hg;replace HB:=spB HB hb;clear hb hbox hg;have hcz13_0:=fun i_=>blk_cell BK181.out i_;have hfz13_0:=fun i_=>blk_frozen BK181.out i_)|((with_reducible refine gT 5 rfl ?_);refine gC (some 5) Try.func55 (spec_l6In.calls A2.out) ?_;rintro e w' ⟨rfl,⟨nd,rfl⟩⟩;refine ⟨_,rfl,?_⟩))
  go_ret
  exact rZ (pS HB.out)

end Go.Proofs.Ytncohokalilnbaa.P
