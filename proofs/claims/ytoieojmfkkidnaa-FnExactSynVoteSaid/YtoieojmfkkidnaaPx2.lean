-- printed by pprint.py (this session's program over the kit's printer) out of the translation. Lean checks it.
import Derived.Test.YtoieojmfkkidnaaPx0
import Derived.Test.YtoieojmfkkidnaaPx1
namespace Go.Proofs.Ytoieojmfkkidnaa.P
open Go.RowKit Go.Proofs.YtoieojmfkkidnaaX Go.Proofs.YtoieojmfkkidnaaW.PrintWords Go.Proofs.YtoieojmfkkidnaaW.PrintLast Go.Proofs.YtoieojmfkkidnaaW.PrintMore
attribute [local go_sem] max2_int min2_int max_two min_two max_three min_three max_four min_four   -- for this text's walks alone
set_option linter.unusedVariables false
set_option linter.unusedSimpArgs false
/-! ### laws_eqWord: function 20 -/
def laws_eqWord.f (k : Nat) (a0_0 a0_1 a0_2 a0_3 a0_4 a0_5 a0_6 a0_7 a0_8 a0_9 a0_10 a0_11 a0_12 a0_13 a0_14 a0_15 a0_16 a0_17 a0_18 a0_19 a0_20 a0_21 a0_22 a0_23 : Int) (l0_24 : List (S138)) (l0_25 : List (S140)) (a1_0 a1_1 a1_2 a1_3 a1_4 a1_5 a1_6 a1_7 a1_8 a1_9 a1_10 a1_11 a1_12 a1_13 a1_14 a1_15 a1_16 a1_17 a1_18 a1_19 a1_20 a1_21 a1_22 a1_23 : Int) (l1_24 : List (S138)) (l1_25 : List (S140)) : Option (Bool) := if a0_0 = a1_0 then (if a0_1 = a1_1 then (if a0_2 = a1_2 then (if a0_3 = a1_3 then (if a0_4 = a1_4 then (if a0_5 = a1_5 then ((laws_eqCmd.f a0_6 a0_7 a0_8 a0_9 a0_10 a0_11 a0_12 a0_13 a0_14 a0_15 a1_6 a1_7 a1_8 a1_9 a1_10 a1_11 a1_12 a1_13 a1_14 a1_15).bind fun t162 => (if t162 = true then (if a0_16 = a1_16 then (if a0_17 = a1_17 then (if a0_18 = a1_18 then (if a0_19 = a1_19 then (if a0_20 = a1_20 then (if a0_21 = a1_21 then (if a0_22 = a1_22 then (if a0_23 = a1_23 then ((laws_eqBlkPieceS.f k l0_24 l1_24).bind fun t163 => (if t163 = true then ((laws_eqBlkLastS.f k l0_25 l1_25).bind fun t164 => (if t164 = true then (some true) else (some false))) else (some false))) else (some false)) else (some false)) else (some false)) else (some false)) else (some false)) else (some false)) else (some false)) else (some false)) else (some false))) else (some false)) else (some false)) else (some false)) else (some false)) else (some false)) else (some false)
set_option maxHeartbeats 8000000 in
set_option maxRecDepth 100000 in
theorem laws_eqWord.calls {k : Nat} {a0_0 a0_1 a0_2 a0_3 a0_4 a0_5 a0_6 a0_7 a0_8 a0_9 a0_10 a0_11 a0_12 a0_13 a0_14 a0_15 a0_16 a0_17 a0_18 a0_19 a0_20 a0_21 a0_22 a0_23 : Int} {A0_24 : Option Addr} {c0_24 : Nat} {l0_24 : List (S138)} {A0_25 : Option Addr} {c0_25 : Nat} {l0_25 : List (S140)} {a1_0 a1_1 a1_2 a1_3 a1_4 a1_5 a1_6 a1_7 a1_8 a1_9 a1_10 a1_11 a1_12 a1_13 a1_14 a1_15 a1_16 a1_17 a1_18 a1_19 a1_20 a1_21 a1_22 a1_23 : Int} {A1_24 : Option Addr} {c1_24 : Nat} {l1_24 : List (S138)} {A1_25 : Option Addr} {c1_25 : Nat} {l1_25 : List (S140)} {r : Bool} {w : World} (hr0_24 : Kd.C k138 w A0_24 l0_24.length l0_24) (hc0_24 : l0_24.length ≤ c0_24) (hr0_25 : Kd.C k140 w A0_25 l0_25.length l0_25) (hc0_25 : l0_25.length ≤ c0_25) (hr1_24 : Kd.C k138 w A1_24 l1_24.length l1_24) (hc1_24 : l1_24.length ≤ c1_24) (hr1_25 : Kd.C k140 w A1_25 l1_25.length l1_25) (hc1_25 : l1_25.length ≤ c1_25) (h : laws_eqWord.f k a0_0 a0_1 a0_2 a0_3 a0_4 a0_5 a0_6 a0_7 a0_8 a0_9 a0_10 a0_11 a0_12 a0_13 a0_14 a0_15 a0_16 a0_17 a0_18 a0_19 a0_20 a0_21 a0_22 a0_23 l0_24 l0_25 a1_0 a1_1 a1_2 a1_3 a1_4 a1_5 a1_6 a1_7 a1_8 a1_9 a1_10 a1_11 a1_12 a1_13 a1_14 a1_15 a1_16 a1_17 a1_18 a1_19 a1_20 a1_21 a1_22 a1_23 l1_24 l1_25 = some r) :
  Calls Try.prog 20 #[.agg #[.int .i64 a0_0,.int .i64 a0_1,.int .i64 a0_2,.int .i64 a0_3,.int .i64 a0_4,.int .i64 a0_5,.int .i64 a0_6,.int .i64 a0_7,.int .i64 a0_8,.int .i64 a0_9,.int .i64 a0_10,.int .i64 a0_11,.int .i64 a0_12,.int .i64 a0_13,.int .i64 a0_14,.int .i64 a0_15,.int .i64 a0_16,.int .i64 a0_17,.int .i64 a0_18,.int .i64 a0_19,.int .i64 a0_20,.int .i64 a0_21,.int .i64 a0_22,.int .i64 a0_23,.slice A0_24 l0_24.length c0_24,.slice A0_25 l0_25.length c0_25],.agg #[.int .i64 a1_0,.int .i64 a1_1,.int .i64 a1_2,.int .i64 a1_3,.int .i64 a1_4,.int .i64 a1_5,.int .i64 a1_6,.int .i64 a1_7,.int .i64 a1_8,.int .i64 a1_9,.int .i64 a1_10,.int .i64 a1_11,.int .i64 a1_12,.int .i64 a1_13,.int .i64 a1_14,.int .i64 a1_15,.int .i64 a1_16,.int .i64 a1_17,.int .i64 a1_18,.int .i64 a1_19,.int .i64 a1_20,.int .i64 a1_21,.int .i64 a1_22,.int .i64 a1_23,.slice A1_24 l1_24.length c1_24,.slice A1_25 l1_25.length c1_25]] w fun e w'=>e=.returned (.bool r)∧Below w.heap.size w w':=by
 have hu28:=Try.underlying28;have hu24:=Try.underlying24;have HR0_24:=mA hr0_24;have HC0_24:=mA hc0_24;clear hr0_24 hc0_24;have HR0_25:=mA hr0_25;have HC0_25:=mA hc0_25;clear hr0_25 hc0_25;have HR1_24:=mA hr1_24;have HC1_24:=mA hc1_24;clear hr1_24 hc1_24;have HR1_25:=mA hr1_25;have HC1_25:=mA hc1_25;clear hr1_25 hc1_25;have HB:=mA (Below.refl w.heap.size w);have H:(if a0_0=a1_0 then (if a0_1=a1_1 then (if a0_2=a1_2 then (if a0_3=a1_3 then (if a0_4=a1_4 then (if a0_5=a1_5 then ((laws_eqCmd.f a0_6 a0_7 a0_8 a0_9 a0_10 a0_11 a0_12 a0_13 a0_14 a0_15 a1_6 a1_7 a1_8 a1_9 a1_10 a1_11 a1_12 a1_13 a1_14 a1_15).bind fun t162=>(if t162=true then (if a0_16=a1_16 then (if a0_17=a1_17 then (if a0_18=a1_18 then (if a0_19=a1_19 then (if a0_20=a1_20 then (if a0_21=a1_21 then (if a0_22=a1_22 then (if a0_23=a1_23 then ((laws_eqBlkPieceS.f k l0_24 l1_24).bind fun t163=>(if t163=true then ((laws_eqBlkLastS.f k l0_25 l1_25).bind fun t164=>(if t164=true then (some true) else (some false))) else (some false))) else (some false)) else (some false)) else (some false)) else (some false)) else (some false)) else (some false)) else (some false)) else (some false)) else (some false))) else (some false)) else (some false)) else (some false)) else (some false)) else (some false)) else (some false))=some r:=h;clear h
 by_cases c3:a0_0=a1_0
 ·rw [if_pos c3] at H;obtain ⟨c3b0,c3b1⟩:=eqB c3;clear c3
  by_cases c4:a0_1=a1_1
  ·rw [if_pos c4] at H;obtain ⟨c4b0,c4b1⟩:=eqB c4;clear c4
   by_cases c5:a0_2=a1_2
   ·rw [if_pos c5] at H;obtain ⟨c5b0,c5b1⟩:=eqB c5;clear c5
    by_cases c6:a0_3=a1_3
    ·rw [if_pos c6] at H;obtain ⟨c6b0,c6b1⟩:=eqB c6;clear c6
     by_cases c7:a0_4=a1_4
     ·rw [if_pos c7] at H;obtain ⟨c7b0,c7b1⟩:=eqB c7;clear c7
      by_cases c8:a0_5=a1_5
      ·rw [if_pos c8] at H;obtain ⟨c8b0,c8b1⟩:=eqB c8;clear c8;obtain ⟨t162,A9,H⟩:=bI H;(try dsimp only at H)
       by_cases c10:t162=true
       ·subst c10;rw [if_pos rfl] at H
        by_cases c11:a0_16=a1_16
        ·rw [if_pos c11] at H;obtain ⟨c11b0,c11b1⟩:=eqB c11;clear c11
         by_cases c12:a0_17=a1_17
         ·rw [if_pos c12] at H;obtain ⟨c12b0,c12b1⟩:=eqB c12;clear c12
          by_cases c13:a0_18=a1_18
          ·rw [if_pos c13] at H;obtain ⟨c13b0,c13b1⟩:=eqB c13;clear c13
           by_cases c14:a0_19=a1_19
           ·rw [if_pos c14] at H;obtain ⟨c14b0,c14b1⟩:=eqB c14;clear c14
            by_cases c15:a0_20=a1_20
            ·rw [if_pos c15] at H;obtain ⟨c15b0,c15b1⟩:=eqB c15;clear c15
             by_cases c16:a0_21=a1_21
             ·rw [if_pos c16] at H;obtain ⟨c16b0,c16b1⟩:=eqB c16;clear c16
              by_cases c17:a0_22=a1_22
              ·rw [if_pos c17] at H;obtain ⟨c17b0,c17b1⟩:=eqB c17;clear c17
               by_cases c18:a0_23=a1_23
               ·rw [if_pos c18] at H;obtain ⟨c18b0,c18b1⟩:=eqB c18;clear c18;obtain ⟨t163,A19,H⟩:=bI H;(try dsimp only at H)
                by_cases c20:t163=true
                ·subst c20;rw [if_pos rfl] at H;obtain ⟨t164,A21,H⟩:=bI H;(try dsimp only at H)
                 by_cases c22:t164=true
                 ·subst c22;rw [if_pos rfl] at H;obtain rfl:=Option.some.inj H
                  go_enter Try.func20,Try.ntmps20
                  go_wp2_with (first|((with_reducible refine gLg rfl (by assumption) ?_);refine ldV ?_)|((with_reducible refine gSt rfl (by assumption) ?_);refine stV ?_)|((with_reducible refine gT 2 rfl ?_);refine bX 2 ?_;intro gb160 hg w23 hbox hb;have BK160:=mA hbox;have GW160:=gbpB HB hg;have GE160:=gbpB HB hg;replace HB:=spB HB hb;clear hb hbox hg)|((with_reducible refine gT 3 rfl ?_);refine bX 3 ?_;intro gb161 hg w24 hbox hb;have BK161:=mA hbox;have GW161:=gbpS HB hg;have GE161:=gbpS HB hg;replace HB:=spS HB hb;have NB160_161:=mA (lN (blk_lt (pK BK160.out)) hg);have hN160_161:=NB160_161.out;have NB161_160:=nS NB160_161;have hN161_160:=NB161_160.out;replace BK160:=bK BK160 hb;clear hb hbox hg;have hcz26_0:=fun i_=>blk_cell BK160.out i_;have hfz26_0:=fun i_=>blk_frozen BK160.out i_;have hcz27_0:=fun i_=>blk_cell BK161.out i_;have hfz27_0:=fun i_=>blk_frozen BK161.out i_)|((with_reducible refine gT 39 rfl ?_);refine gC (some 39) Try.func80 (laws_eqCmd.calls A9.out) ?_;rintro e w28 ⟨rfl,hb⟩;refine ⟨_,rfl,?_⟩;replace BK160:=bK BK160 hb;replace BK161:=bK BK161 hb;replace HB:=spS HB hb;(try clear hb);have hcz29_0:=fun i_=>blk_cell BK160.out i_;have hfz29_0:=fun i_=>blk_frozen BK160.out i_;have hcz30_0:=fun i_=>blk_cell BK161.out i_;have hfz30_0:=fun i_=>blk_frozen BK161.out i_)|((with_reducible refine gT 85 rfl ?_);refine gC (some 85) Try.func81 (laws_eqBlkPieceS.calls (cB HR0_24 HB) HC0_24.out (cB HR1_24 HB) HC1_24.out A19.out) ?_;rintro e w31 ⟨rfl,hb⟩;refine ⟨_,rfl,?_⟩;replace BK160:=bK BK160 hb;replace BK161:=bK BK161 hb;replace HB:=spS HB hb;(try clear hb);have hcz32_0:=fun i_=>blk_cell BK160.out i_;have hfz32_0:=fun i_=>blk_frozen BK160.out i_;have hcz33_0:=fun i_=>blk_cell BK161.out i_;have hfz33_0:=fun i_=>blk_frozen BK161.out i_)|((with_reducible refine gT 91 rfl ?_);refine gC (some 91) Try.func82 (laws_eqBlkLastS.calls (cB HR0_25 HB) HC0_25.out (cB HR1_25 HB) HC1_25.out A21.out) ?_;rintro e w34 ⟨rfl,hb⟩;refine ⟨_,rfl,?_⟩;replace BK160:=bK BK160 hb;replace BK161:=bK BK161 hb;replace HB:=spS HB hb;(try clear hb)))
                  go_ret
                  exact rZ (pS HB.out)
                 ·replace c22:=Bool.eq_false_iff.mpr c22;subst c22
                  rw [if_neg nFT] at H
                  obtain rfl:=Option.some.inj H
                  go_enter Try.func20,Try.ntmps20
                  go_wp2_with (first|((with_reducible refine gLg rfl (by assumption) ?_);refine ldV ?_)|((with_reducible refine gSt rfl (by assumption) ?_);refine stV ?_)|((with_reducible refine gT 2 rfl ?_);refine bX 2 ?_;intro gb160 hg w35 hbox hb;have BK160:=mA hbox;have GW160:=gbpB HB hg;have GE160:=gbpB HB hg;replace HB:=spB HB hb;clear hb hbox hg)|((with_reducible refine gT 3 rfl ?_);refine bX 3 ?_;intro gb161 hg w36 hbox hb;have BK161:=mA hbox;have GW161:=gbpS HB hg;have GE161:=gbpS HB hg;replace HB:=spS HB hb;have NB160_161:=mA (lN (blk_lt (pK BK160.out)) hg);have hN160_161:=NB160_161.out;have NB161_160:=nS NB160_161;have hN161_160:=NB161_160.out;replace BK160:=bK BK160 hb;clear hb hbox hg;have hcz38_0:=fun i_=>blk_cell BK160.out i_;have hfz38_0:=fun i_=>blk_frozen BK160.out i_;have hcz39_0:=fun i_=>blk_cell BK161.out i_;have hfz39_0:=fun i_=>blk_frozen BK161.out i_)|((with_reducible refine gT 39 rfl ?_);refine gC (some 39) Try.func80 (laws_eqCmd.calls A9.out) ?_;rintro e w40 ⟨rfl,hb⟩;refine ⟨_,rfl,?_⟩;replace BK160:=bK BK160 hb;replace BK161:=bK BK161 hb;replace HB:=spS HB hb;(try clear hb);have hcz41_0:=fun i_=>blk_cell BK160.out i_;have hfz41_0:=fun i_=>blk_frozen BK160.out i_;have hcz42_0:=fun i_=>blk_cell BK161.out i_;have hfz42_0:=fun i_=>blk_frozen BK161.out i_)|((with_reducible refine gT 85 rfl ?_);refine gC (some 85) Try.func81 (laws_eqBlkPieceS.calls (cB HR0_24 HB) HC0_24.out (cB HR1_24 HB) HC1_24.out A19.out) ?_;rintro e w43 ⟨rfl,hb⟩;refine ⟨_,rfl,?_⟩;replace BK160:=bK BK160 hb;replace BK161:=bK BK161 hb;replace HB:=spS HB hb;(try clear hb);have hcz44_0:=fun i_=>blk_cell BK160.out i_;have hfz44_0:=fun i_=>blk_frozen BK160.out i_;have hcz45_0:=fun i_=>blk_cell BK161.out i_;have hfz45_0:=fun i_=>blk_frozen BK161.out i_)|((with_reducible refine gT 91 rfl ?_);refine gC (some 91) Try.func82 (laws_eqBlkLastS.calls (cB HR0_25 HB) HC0_25.out (cB HR1_25 HB) HC1_25.out A21.out) ?_;rintro e w46 ⟨rfl,hb⟩;refine ⟨_,rfl,?_⟩;replace BK160:=bK BK160 hb;replace BK161:=bK BK161 hb;replace HB:=spS HB hb;(try clear hb)))
                  go_ret
                  exact rZ (pS HB.out)
                ·replace c20:=Bool.eq_false_iff.mpr c20;subst c20
                 rw [if_neg nFT] at H
                 obtain rfl:=Option.some.inj H
                 go_enter Try.func20,Try.ntmps20
                 go_wp2_with (first|((with_reducible refine gLg rfl (by assumption) ?_);refine ldV ?_)|((with_reducible refine gSt rfl (by assumption) ?_);refine stV ?_)|((with_reducible refine gT 2 rfl ?_);refine bX 2 ?_;intro gb160 hg w47 hbox hb;have BK160:=mA hbox;have GW160:=gbpB HB hg;have GE160:=gbpB HB hg;replace HB:=spB HB hb;clear hb hbox hg)|((with_reducible refine gT 3 rfl ?_);refine bX 3 ?_;intro gb161 hg w48 hbox hb;have BK161:=mA hbox;have GW161:=gbpS HB hg;have GE161:=gbpS HB hg;replace HB:=spS HB hb;have NB160_161:=mA (lN (blk_lt (pK BK160.out)) hg);have hN160_161:=NB160_161.out;have NB161_160:=nS NB160_161;have hN161_160:=NB161_160.out;replace BK160:=bK BK160 hb;clear hb hbox hg;have hcz50_0:=fun i_=>blk_cell BK160.out i_;have hfz50_0:=fun i_=>blk_frozen BK160.out i_;have hcz51_0:=fun i_=>blk_cell BK161.out i_;have hfz51_0:=fun i_=>blk_frozen BK161.out i_)|((with_reducible refine gT 39 rfl ?_);refine gC (some 39) Try.func80 (laws_eqCmd.calls A9.out) ?_;rintro e w52 ⟨rfl,hb⟩;refine ⟨_,rfl,?_⟩;replace BK160:=bK BK160 hb;replace BK161:=bK BK161 hb;replace HB:=spS HB hb;(try clear hb);have hcz53_0:=fun i_=>blk_cell BK160.out i_;have hfz53_0:=fun i_=>blk_frozen BK160.out i_;have hcz54_0:=fun i_=>blk_cell BK161.out i_;have hfz54_0:=fun i_=>blk_frozen BK161.out i_)|((with_reducible refine gT 85 rfl ?_);refine gC (some 85) Try.func81 (laws_eqBlkPieceS.calls (cB HR0_24 HB) HC0_24.out (cB HR1_24 HB) HC1_24.out A19.out) ?_;rintro e w55 ⟨rfl,hb⟩;refine ⟨_,rfl,?_⟩;replace BK160:=bK BK160 hb;replace BK161:=bK BK161 hb;replace HB:=spS HB hb;(try clear hb)))
                 go_ret
                 exact rZ (pS HB.out)
               ·rw [if_neg c18] at H;have c18b0:(a0_23 == a1_23)=false:=beq_eq_false_iff_ne.mpr c18;have c18b1:(a0_23 != a1_23)=true:=bne_iff_ne.mpr c18;obtain rfl:=Option.some.inj H
                go_enter Try.func20,Try.ntmps20
                go_wp2_with (first|((with_reducible refine gLg rfl (by assumption) ?_);refine ldV ?_)|((with_reducible refine gSt rfl (by assumption) ?_);refine stV ?_)|((with_reducible refine gT 2 rfl ?_);refine bX 2 ?_;intro gb160 hg w56 hbox hb;have BK160:=mA hbox;have GW160:=gbpB HB hg;have GE160:=gbpB HB hg;replace HB:=spB HB hb;clear hb hbox hg)|((with_reducible refine gT 3 rfl ?_);refine bX 3 ?_;intro gb161 hg w57 hbox hb;have BK161:=mA hbox;have GW161:=gbpS HB hg;have GE161:=gbpS HB hg;replace HB:=spS HB hb;have NB160_161:=mA (lN (blk_lt (pK BK160.out)) hg);have hN160_161:=NB160_161.out;have NB161_160:=nS NB160_161;have hN161_160:=NB161_160.out;replace BK160:=bK BK160 hb;clear hb hbox hg;have hcz59_0:=fun i_=>blk_cell BK160.out i_;have hfz59_0:=fun i_=>blk_frozen BK160.out i_;have hcz60_0:=fun i_=>blk_cell BK161.out i_;have hfz60_0:=fun i_=>blk_frozen BK161.out i_)|((with_reducible refine gT 39 rfl ?_);refine gC (some 39) Try.func80 (laws_eqCmd.calls A9.out) ?_;rintro e w61 ⟨rfl,hb⟩;refine ⟨_,rfl,?_⟩;replace BK160:=bK BK160 hb;replace BK161:=bK BK161 hb;replace HB:=spS HB hb;(try clear hb);have hcz62_0:=fun i_=>blk_cell BK160.out i_;have hfz62_0:=fun i_=>blk_frozen BK160.out i_;have hcz63_0:=fun i_=>blk_cell BK161.out i_;have hfz63_0:=fun i_=>blk_frozen BK161.out i_))
                go_ret
                exact rZ (pS HB.out)
              ·rw [if_neg c17] at H;have c17b0:(a0_22 == a1_22)=false:=beq_eq_false_iff_ne.mpr c17;have c17b1:(a0_22 != a1_22)=true:=bne_iff_ne.mpr c17;obtain rfl:=Option.some.inj H
               go_enter Try.func20,Try.ntmps20
               go_wp2_with (first|((with_reducible refine gLg rfl (by assumption) ?_);refine ldV ?_)|((with_reducible refine gSt rfl (by assumption) ?_);refine stV ?_)|((with_reducible refine gT 2 rfl ?_);refine bX 2 ?_;intro gb160 hg w64 hbox hb;have BK160:=mA hbox;have GW160:=gbpB HB hg;have GE160:=gbpB HB hg;replace HB:=spB HB hb;clear hb hbox hg)|((with_reducible refine gT 3 rfl ?_);refine bX 3 ?_;intro gb161 hg w65 hbox hb;have BK161:=mA hbox;have GW161:=gbpS HB hg;have GE161:=gbpS HB hg;replace HB:=spS HB hb;have NB160_161:=mA (lN (blk_lt (pK BK160.out)) hg);have hN160_161:=NB160_161.out;have NB161_160:=nS NB160_161;have hN161_160:=NB161_160.out;replace BK160:=bK BK160 hb;clear hb hbox hg;have hcz67_0:=fun i_=>blk_cell BK160.out i_;have hfz67_0:=fun i_=>blk_frozen BK160.out i_;have hcz68_0:=fun i_=>blk_cell BK161.out i_;have hfz68_0:=fun i_=>blk_frozen BK161.out i_)|((with_reducible refine gT 39 rfl ?_);refine gC (some 39) Try.func80 (laws_eqCmd.calls A9.out) ?_;rintro e w69 ⟨rfl,hb⟩;refine ⟨_,rfl,?_⟩;replace BK160:=bK BK160 hb;replace BK161:=bK BK161 hb;replace HB:=spS HB hb;(try clear hb);have hcz70_0:=fun i_=>blk_cell BK160.out i_;have hfz70_0:=fun i_=>blk_frozen BK160.out i_;have hcz71_0:=fun i_=>blk_cell BK161.out i_;have hfz71_0:=fun i_=>blk_frozen BK161.out i_))
               go_ret
               exact rZ (pS HB.out)
             ·rw [if_neg c16] at H;have c16b0:(a0_21 == a1_21)=false:=beq_eq_false_iff_ne.mpr c16;have c16b1:(a0_21 != a1_21)=true:=bne_iff_ne.mpr c16;obtain rfl:=Option.some.inj H
              go_enter Try.func20,Try.ntmps20
              go_wp2_with (first|((with_reducible refine gLg rfl (by assumption) ?_);refine ldV ?_)|((with_reducible refine gSt rfl (by assumption) ?_);refine stV ?_)|((with_reducible refine gT 2 rfl ?_);refine bX 2 ?_;intro gb160 hg w72 hbox hb;have BK160:=mA hbox;have GW160:=gbpB HB hg;have GE160:=gbpB HB hg;replace HB:=spB HB hb;clear hb hbox hg)|((with_reducible refine gT 3 rfl ?_);refine bX 3 ?_;intro gb161 hg w73 hbox hb;have BK161:=mA hbox;have GW161:=gbpS HB hg;have GE161:=gbpS HB hg;replace HB:=spS HB hb;have NB160_161:=mA (lN (blk_lt (pK BK160.out)) hg);have hN160_161:=NB160_161.out;have NB161_160:=nS NB160_161;have hN161_160:=NB161_160.out;replace BK160:=bK BK160 hb;clear hb hbox hg;have hcz75_0:=fun i_=>blk_cell BK160.out i_;have hfz75_0:=fun i_=>blk_frozen BK160.out i_;have hcz76_0:=fun i_=>blk_cell BK161.out i_;have hfz76_0:=fun i_=>blk_frozen BK161.out i_)|((with_reducible refine gT 39 rfl ?_);refine gC (some 39) Try.func80 (laws_eqCmd.calls A9.out) ?_;rintro e w77 ⟨rfl,hb⟩;refine ⟨_,rfl,?_⟩;replace BK160:=bK BK160 hb;replace BK161:=bK BK161 hb;replace HB:=spS HB hb;(try clear hb);have hcz78_0:=fun i_=>blk_cell BK160.out i_;have hfz78_0:=fun i_=>blk_frozen BK160.out i_;have hcz79_0:=fun i_=>blk_cell BK161.out i_;have hfz79_0:=fun i_=>blk_frozen BK161.out i_))
              go_ret
              exact rZ (pS HB.out)
            ·rw [if_neg c15] at H;have c15b0:(a0_20 == a1_20)=false:=beq_eq_false_iff_ne.mpr c15;have c15b1:(a0_20 != a1_20)=true:=bne_iff_ne.mpr c15;obtain rfl:=Option.some.inj H
             go_enter Try.func20,Try.ntmps20
             go_wp2_with (first|((with_reducible refine gLg rfl (by assumption) ?_);refine ldV ?_)|((with_reducible refine gSt rfl (by assumption) ?_);refine stV ?_)|((with_reducible refine gT 2 rfl ?_);refine bX 2 ?_;intro gb160 hg w80 hbox hb;have BK160:=mA hbox;have GW160:=gbpB HB hg;have GE160:=gbpB HB hg;replace HB:=spB HB hb;clear hb hbox hg)|((with_reducible refine gT 3 rfl ?_);refine bX 3 ?_;intro gb161 hg w81 hbox hb;have BK161:=mA hbox;have GW161:=gbpS HB hg;have GE161:=gbpS HB hg;replace HB:=spS HB hb;have NB160_161:=mA (lN (blk_lt (pK BK160.out)) hg);have hN160_161:=NB160_161.out;have NB161_160:=nS NB160_161;have hN161_160:=NB161_160.out;replace BK160:=bK BK160 hb;clear hb hbox hg;have hcz83_0:=fun i_=>blk_cell BK160.out i_;have hfz83_0:=fun i_=>blk_frozen BK160.out i_;have hcz84_0:=fun i_=>blk_cell BK161.out i_;have hfz84_0:=fun i_=>blk_frozen BK161.out i_)|((with_reducible refine gT 39 rfl ?_);refine gC (some 39) Try.func80 (laws_eqCmd.calls A9.out) ?_;rintro e w85 ⟨rfl,hb⟩;refine ⟨_,rfl,?_⟩;replace BK160:=bK BK160 hb;replace BK161:=bK BK161 hb;replace HB:=spS HB hb;(try clear hb);have hcz86_0:=fun i_=>blk_cell BK160.out i_;have hfz86_0:=fun i_=>blk_frozen BK160.out i_;have hcz87_0:=fun i_=>blk_cell BK161.out i_;have hfz87_0:=fun i_=>blk_frozen BK161.out i_))
             go_ret
             exact rZ (pS HB.out)
           ·rw [if_neg c14] at H;have c14b0:(a0_19 == a1_19)=false:=beq_eq_false_iff_ne.mpr c14;have c14b1:(a0_19 != a1_19)=true:=bne_iff_ne.mpr c14;obtain rfl:=Option.some.inj H
            go_enter Try.func20,Try.ntmps20
            go_wp2_with (first|((with_reducible refine gLg rfl (by assumption) ?_);refine ldV ?_)|((with_reducible refine gSt rfl (by assumption) ?_);refine stV ?_)|((with_reducible refine gT 2 rfl ?_);refine bX 2 ?_;intro gb160 hg w88 hbox hb;have BK160:=mA hbox;have GW160:=gbpB HB hg;have GE160:=gbpB HB hg;replace HB:=spB HB hb;clear hb hbox hg)|((with_reducible refine gT 3 rfl ?_);refine bX 3 ?_;intro gb161 hg w89 hbox hb;have BK161:=mA hbox;have GW161:=gbpS HB hg;have GE161:=gbpS HB hg;replace HB:=spS HB hb;have NB160_161:=mA (lN (blk_lt (pK BK160.out)) hg);have hN160_161:=NB160_161.out;have NB161_160:=nS NB160_161;have hN161_160:=NB161_160.out;replace BK160:=bK BK160 hb;clear hb hbox hg;have hcz91_0:=fun i_=>blk_cell BK160.out i_;have hfz91_0:=fun i_=>blk_frozen BK160.out i_;have hcz92_0:=fun i_=>blk_cell BK161.out i_;have hfz92_0:=fun i_=>blk_frozen BK161.out i_)|((with_reducible refine gT 39 rfl ?_);refine gC (some 39) Try.func80 (laws_eqCmd.calls A9.out) ?_;rintro e w93 ⟨rfl,hb⟩;refine ⟨_,rfl,?_⟩;replace BK160:=bK BK160 hb;replace BK161:=bK BK161 hb;replace HB:=spS HB hb;(try clear hb);have hcz94_0:=fun i_=>blk_cell BK160.out i_;have hfz94_0:=fun i_=>blk_frozen BK160.out i_;have hcz95_0:=fun i_=>blk_cell BK161.out i_;have hfz95_0:=fun i_=>blk_frozen BK161.out i_))
            go_ret
            exact rZ (pS HB.out)
          ·rw [if_neg c13] at H;have c13b0:(a0_18 == a1_18)=false:=beq_eq_false_iff_ne.mpr c13;have c13b1:(a0_18 != a1_18)=true:=bne_iff_ne.mpr c13;obtain rfl:=Option.some.inj H
           go_enter Try.func20,Try.ntmps20
           go_wp2_with (first|((with_reducible refine gLg rfl (by assumption) ?_);refine ldV ?_)|((with_reducible refine gSt rfl (by assumption) ?_);refine stV ?_)|((with_reducible refine gT 2 rfl ?_);refine bX 2 ?_;intro gb160 hg w96 hbox hb;have BK160:=mA hbox;have GW160:=gbpB HB hg;have GE160:=gbpB HB hg;replace HB:=spB HB hb;clear hb hbox hg)|((with_reducible refine gT 3 rfl ?_);refine bX 3 ?_;intro gb161 hg w97 hbox hb;have BK161:=mA hbox;have GW161:=gbpS HB hg;have GE161:=gbpS HB hg;replace HB:=spS HB hb;have NB160_161:=mA (lN (blk_lt (pK BK160.out)) hg);have hN160_161:=NB160_161.out;have NB161_160:=nS NB160_161;have hN161_160:=NB161_160.out;replace BK160:=bK BK160 hb;clear hb hbox hg;have hcz99_0:=fun i_=>blk_cell BK160.out i_;have hfz99_0:=fun i_=>blk_frozen BK160.out i_;have hcz100_0:=fun i_=>blk_cell BK161.out i_;have hfz100_0:=fun i_=>blk_frozen BK161.out i_)|((with_reducible refine gT 39 rfl ?_);refine gC (some 39) Try.func80 (laws_eqCmd.calls A9.out) ?_;rintro e w101 ⟨rfl,hb⟩;refine ⟨_,rfl,?_⟩;replace BK160:=bK BK160 hb;replace BK161:=bK BK161 hb;replace HB:=spS HB hb;(try clear hb);have hcz102_0:=fun i_=>blk_cell BK160.out i_;have hfz102_0:=fun i_=>blk_frozen BK160.out i_;have hcz103_0:=fun i_=>blk_cell BK161.out i_;have hfz103_0:=fun i_=>blk_frozen BK161.out i_))
           go_ret
           exact rZ (pS HB.out)
         ·rw [if_neg c12] at H;have c12b0:(a0_17 == a1_17)=false:=beq_eq_false_iff_ne.mpr c12;have c12b1:(a0_17 != a1_17)=true:=bne_iff_ne.mpr c12;obtain rfl:=Option.some.inj H
          go_enter Try.func20,Try.ntmps20
          go_wp2_with (first|((with_reducible refine gLg rfl (by assumption) ?_);refine ldV ?_)|((with_reducible refine gSt rfl (by assumption) ?_);refine stV ?_)|((with_reducible refine gT 2 rfl ?_);refine bX 2 ?_;intro gb160 hg w104 hbox hb;have BK160:=mA hbox;have GW160:=gbpB HB hg;have GE160:=gbpB HB hg;replace HB:=spB HB hb;clear hb hbox hg)|((with_reducible refine gT 3 rfl ?_);refine bX 3 ?_;intro gb161 hg w105 hbox hb;have BK161:=mA hbox;have GW161:=gbpS HB hg;have GE161:=gbpS HB hg;replace HB:=spS HB hb;have NB160_161:=mA (lN (blk_lt (pK BK160.out)) hg);have hN160_161:=NB160_161.out;have NB161_160:=nS NB160_161;have hN161_160:=NB161_160.out;replace BK160:=bK BK160 hb;clear hb hbox hg;have hcz107_0:=fun i_=>blk_cell BK160.out i_;have hfz107_0:=fun i_=>blk_frozen BK160.out i_;have hcz108_0:=fun i_=>blk_cell BK161.out i_;have hfz108_0:=fun i_=>blk_frozen BK161.out i_)|((with_reducible refine gT 39 rfl ?_);refine gC (some 39) Try.func80 (laws_eqCmd.calls A9.out) ?_;rintro e w109 ⟨rfl,hb⟩;refine ⟨_,rfl,?_⟩;replace BK160:=bK BK160 hb;replace BK161:=bK BK161 hb;replace HB:=spS HB hb;(try clear hb);have hcz110_0:=fun i_=>blk_cell BK160.out i_;have hfz110_0:=fun i_=>blk_frozen BK160.out i_;have hcz111_0:=fun i_=>blk_cell BK161.out i_;have hfz111_0:=fun i_=>blk_frozen BK161.out i_))
          go_ret
          exact rZ (pS HB.out)
        ·rw [if_neg c11] at H;have c11b0:(a0_16 == a1_16)=false:=beq_eq_false_iff_ne.mpr c11;have c11b1:(a0_16 != a1_16)=true:=bne_iff_ne.mpr c11;obtain rfl:=Option.some.inj H
         go_enter Try.func20,Try.ntmps20
         go_wp2_with (first|((with_reducible refine gLg rfl (by assumption) ?_);refine ldV ?_)|((with_reducible refine gSt rfl (by assumption) ?_);refine stV ?_)|((with_reducible refine gT 2 rfl ?_);refine bX 2 ?_;intro gb160 hg w112 hbox hb;have BK160:=mA hbox;have GW160:=gbpB HB hg;have GE160:=gbpB HB hg;replace HB:=spB HB hb;clear hb hbox hg)|((with_reducible refine gT 3 rfl ?_);refine bX 3 ?_;intro gb161 hg w113 hbox hb;have BK161:=mA hbox;have GW161:=gbpS HB hg;have GE161:=gbpS HB hg;replace HB:=spS HB hb;have NB160_161:=mA (lN (blk_lt (pK BK160.out)) hg);have hN160_161:=NB160_161.out;have NB161_160:=nS NB160_161;have hN161_160:=NB161_160.out;replace BK160:=bK BK160 hb;clear hb hbox hg;have hcz115_0:=fun i_=>blk_cell BK160.out i_;have hfz115_0:=fun i_=>blk_frozen BK160.out i_;have hcz116_0:=fun i_=>blk_cell BK161.out i_;have hfz116_0:=fun i_=>blk_frozen BK161.out i_)|((with_reducible refine gT 39 rfl ?_);refine gC (some 39) Try.func80 (laws_eqCmd.calls A9.out) ?_;rintro e w117 ⟨rfl,hb⟩;refine ⟨_,rfl,?_⟩;replace BK160:=bK BK160 hb;replace BK161:=bK BK161 hb;replace HB:=spS HB hb;(try clear hb);have hcz118_0:=fun i_=>blk_cell BK160.out i_;have hfz118_0:=fun i_=>blk_frozen BK160.out i_;have hcz119_0:=fun i_=>blk_cell BK161.out i_;have hfz119_0:=fun i_=>blk_frozen BK161.out i_))
         go_ret
         exact rZ (pS HB.out)
       ·replace c10:=Bool.eq_false_iff.mpr c10;subst c10
        rw [if_neg nFT] at H
        obtain rfl:=Option.some.inj H
        go_enter Try.func20,Try.ntmps20
        go_wp2_with (first|((with_reducible refine gLg rfl (by assumption) ?_);refine ldV ?_)|((with_reducible refine gSt rfl (by assumption) ?_);refine stV ?_)|((with_reducible refine gT 2 rfl ?_);refine bX 2 ?_;intro gb160 hg w120 hbox hb;have BK160:=mA hbox;have GW160:=gbpB HB hg;have GE160:=gbpB HB hg;replace HB:=spB HB hb;clear hb hbox hg)|((with_reducible refine gT 3 rfl ?_);refine bX 3 ?_;intro gb161 hg w121 hbox hb;have BK161:=mA hbox;have GW161:=gbpS HB hg;have GE161:=gbpS HB hg;replace HB:=spS HB hb;have NB160_161:=mA (lN (blk_lt (pK BK160.out)) hg);have hN160_161:=NB160_161.out;have NB161_160:=nS NB160_161;have hN161_160:=NB161_160.out;replace BK160:=bK BK160 hb;clear hb hbox hg;have hcz123_0:=fun i_=>blk_cell BK160.out i_;have hfz123_0:=fun i_=>blk_frozen BK160.out i_;have hcz124_0:=fun i_=>blk_cell BK161.out i_;have hfz124_0:=fun i_=>blk_frozen BK161.out i_)|((with_reducible refine gT 39 rfl ?_);refine gC (some 39) Try.func80 (laws_eqCmd.calls A9.out) ?_;rintro e w125 ⟨rfl,hb⟩;refine ⟨_,rfl,?_⟩;replace BK160:=bK BK160 hb;replace BK161:=bK BK161 hb;replace HB:=spS HB hb;(try clear hb)))
        go_ret
        exact rZ (pS HB.out)
      ·rw [if_neg c8] at H;have c8b0:(a0_5 == a1_5)=false:=beq_eq_false_iff_ne.mpr c8;have c8b1:(a0_5 != a1_5)=true:=bne_iff_ne.mpr c8;obtain rfl:=Option.some.inj H
       go_enter Try.func20,Try.ntmps20
       go_wp2_with (first|((with_reducible refine gLg rfl (by assumption) ?_);refine ldV ?_)|((with_reducible refine gSt rfl (by assumption) ?_);refine stV ?_)|((with_reducible refine gT 2 rfl ?_);refine bX 2 ?_;intro gb160 hg w126 hbox hb;have BK160:=mA hbox;have GW160:=gbpB HB hg;have GE160:=gbpB HB hg;replace HB:=spB HB hb;clear hb hbox hg)|((with_reducible refine gT 3 rfl ?_);refine bX 3 ?_;intro gb161 hg w127 hbox hb;have BK161:=mA hbox;have GW161:=gbpS HB hg;have GE161:=gbpS HB hg;replace HB:=spS HB hb;have NB160_161:=mA (lN (blk_lt (pK BK160.out)) hg);have hN160_161:=NB160_161.out;have NB161_160:=nS NB160_161;have hN161_160:=NB161_160.out;replace BK160:=bK BK160 hb;clear hb hbox hg;have hcz129_0:=fun i_=>blk_cell BK160.out i_;have hfz129_0:=fun i_=>blk_frozen BK160.out i_;have hcz130_0:=fun i_=>blk_cell BK161.out i_;have hfz130_0:=fun i_=>blk_frozen BK161.out i_))
       go_ret
       exact rZ (pS HB.out)
     ·rw [if_neg c7] at H;have c7b0:(a0_4 == a1_4)=false:=beq_eq_false_iff_ne.mpr c7;have c7b1:(a0_4 != a1_4)=true:=bne_iff_ne.mpr c7;obtain rfl:=Option.some.inj H
      go_enter Try.func20,Try.ntmps20
      go_wp2_with (first|((with_reducible refine gLg rfl (by assumption) ?_);refine ldV ?_)|((with_reducible refine gSt rfl (by assumption) ?_);refine stV ?_)|((with_reducible refine gT 2 rfl ?_);refine bX 2 ?_;intro gb160 hg w131 hbox hb;have BK160:=mA hbox;have GW160:=gbpB HB hg;have GE160:=gbpB HB hg;replace HB:=spB HB hb;clear hb hbox hg)|((with_reducible refine gT 3 rfl ?_);refine bX 3 ?_;intro gb161 hg w132 hbox hb;have BK161:=mA hbox;have GW161:=gbpS HB hg;have GE161:=gbpS HB hg;replace HB:=spS HB hb;have NB160_161:=mA (lN (blk_lt (pK BK160.out)) hg);have hN160_161:=NB160_161.out;have NB161_160:=nS NB160_161;have hN161_160:=NB161_160.out;replace BK160:=bK BK160 hb;clear hb hbox hg;have hcz134_0:=fun i_=>blk_cell BK160.out i_;have hfz134_0:=fun i_=>blk_frozen BK160.out i_;have hcz135_0:=fun i_=>blk_cell BK161.out i_;have hfz135_0:=fun i_=>blk_frozen BK161.out i_))
      go_ret
      exact rZ (pS HB.out)
    ·rw [if_neg c6] at H;have c6b0:(a0_3 == a1_3)=false:=beq_eq_false_iff_ne.mpr c6;have c6b1:(a0_3 != a1_3)=true:=bne_iff_ne.mpr c6;obtain rfl:=Option.some.inj H
     go_enter Try.func20,Try.ntmps20
     go_wp2_with (first|((with_reducible refine gLg rfl (by assumption) ?_);refine ldV ?_)|((with_reducible refine gSt rfl (by assumption) ?_);refine stV ?_)|((with_reducible refine gT 2 rfl ?_);refine bX 2 ?_;intro gb160 hg w136 hbox hb;have BK160:=mA hbox;have GW160:=gbpB HB hg;have GE160:=gbpB HB hg;replace HB:=spB HB hb;clear hb hbox hg)|((with_reducible refine gT 3 rfl ?_);refine bX 3 ?_;intro gb161 hg w137 hbox hb;have BK161:=mA hbox;have GW161:=gbpS HB hg;have GE161:=gbpS HB hg;replace HB:=spS HB hb;have NB160_161:=mA (lN (blk_lt (pK BK160.out)) hg);have hN160_161:=NB160_161.out;have NB161_160:=nS NB160_161;have hN161_160:=NB161_160.out;replace BK160:=bK BK160 hb;clear hb hbox hg;have hcz139_0:=fun i_=>blk_cell BK160.out i_;have hfz139_0:=fun i_=>blk_frozen BK160.out i_;have hcz140_0:=fun i_=>blk_cell BK161.out i_;have hfz140_0:=fun i_=>blk_frozen BK161.out i_))
     go_ret
     exact rZ (pS HB.out)
   ·rw [if_neg c5] at H;have c5b0:(a0_2 == a1_2)=false:=beq_eq_false_iff_ne.mpr c5;have c5b1:(a0_2 != a1_2)=true:=bne_iff_ne.mpr c5;obtain rfl:=Option.some.inj H
    go_enter Try.func20,Try.ntmps20
    go_wp2_with (first|((with_reducible refine gLg rfl (by assumption) ?_);refine ldV ?_)|((with_reducible refine gSt rfl (by assumption) ?_);refine stV ?_)|((with_reducible refine gT 2 rfl ?_);refine bX 2 ?_;intro gb160 hg w141 hbox hb;have BK160:=mA hbox;have GW160:=gbpB HB hg;have GE160:=gbpB HB hg;replace HB:=spB HB hb;clear hb hbox hg)|((with_reducible refine gT 3 rfl ?_);refine bX 3 ?_;intro gb161 hg w142 hbox hb;have BK161:=mA hbox;have GW161:=gbpS HB hg;have GE161:=gbpS HB hg;replace HB:=spS HB hb;have NB160_161:=mA (lN (blk_lt (pK BK160.out)) hg);have hN160_161:=NB160_161.out;have NB161_160:=nS NB160_161;have hN161_160:=NB161_160.out;replace BK160:=bK BK160 hb;clear hb hbox hg;have hcz144_0:=fun i_=>blk_cell BK160.out i_;have hfz144_0:=fun i_=>blk_frozen BK160.out i_;have hcz145_0:=fun i_=>blk_cell BK161.out i_;have hfz145_0:=fun i_=>blk_frozen BK161.out i_))
    go_ret
    exact rZ (pS HB.out)
  ·rw [if_neg c4] at H;have c4b0:(a0_1 == a1_1)=false:=beq_eq_false_iff_ne.mpr c4;have c4b1:(a0_1 != a1_1)=true:=bne_iff_ne.mpr c4;obtain rfl:=Option.some.inj H
   go_enter Try.func20,Try.ntmps20
   go_wp2_with (first|((with_reducible refine gLg rfl (by assumption) ?_);refine ldV ?_)|((with_reducible refine gSt rfl (by assumption) ?_);refine stV ?_)|((with_reducible refine gT 2 rfl ?_);refine bX 2 ?_;intro gb160 hg w146 hbox hb;have BK160:=mA hbox;have GW160:=gbpB HB hg;have GE160:=gbpB HB hg;replace HB:=spB HB hb;clear hb hbox hg)|((with_reducible refine gT 3 rfl ?_);refine bX 3 ?_;intro gb161 hg w147 hbox hb;have BK161:=mA hbox;have GW161:=gbpS HB hg;have GE161:=gbpS HB hg;replace HB:=spS HB hb;have NB160_161:=mA (lN (blk_lt (pK BK160.out)) hg);have hN160_161:=NB160_161.out;have NB161_160:=nS NB160_161;have hN161_160:=NB161_160.out;replace BK160:=bK BK160 hb;clear hb hbox hg;have hcz149_0:=fun i_=>blk_cell BK160.out i_;have hfz149_0:=fun i_=>blk_frozen BK160.out i_;have hcz150_0:=fun i_=>blk_cell BK161.out i_;have hfz150_0:=fun i_=>blk_frozen BK161.out i_))
   go_ret
   exact rZ (pS HB.out)
 ·rw [if_neg c3] at H;have c3b0:(a0_0 == a1_0)=false:=beq_eq_false_iff_ne.mpr c3;have c3b1:(a0_0 != a1_0)=true:=bne_iff_ne.mpr c3;obtain rfl:=Option.some.inj H
  go_enter Try.func20,Try.ntmps20
  go_wp2_with (first|((with_reducible refine gLg rfl (by assumption) ?_);refine ldV ?_)|((with_reducible refine gSt rfl (by assumption) ?_);refine stV ?_)|((with_reducible refine gT 2 rfl ?_);refine bX 2 ?_;intro gb160 hg w151 hbox hb;have BK160:=mA hbox;have GW160:=gbpB HB hg;have GE160:=gbpB HB hg;replace HB:=spB HB hb;clear hb hbox hg)|((with_reducible refine gT 3 rfl ?_);refine bX 3 ?_;intro gb161 hg w152 hbox hb;have BK161:=mA hbox;have GW161:=gbpS HB hg;have GE161:=gbpS HB hg;replace HB:=spS HB hb;have NB160_161:=mA (lN (blk_lt (pK BK160.out)) hg);have hN160_161:=NB160_161.out;have NB161_160:=nS NB160_161;have hN161_160:=NB161_160.out;replace BK160:=bK BK160 hb;clear hb hbox hg;have hcz154_0:=fun i_=>blk_cell BK160.out i_;have hfz154_0:=fun i_=>blk_frozen BK160.out i_;have hcz155_0:=fun i_=>blk_cell BK161.out i_;have hfz155_0:=fun i_=>blk_frozen BK161.out i_))
  go_ret
  exact rZ (pS HB.out)
/-! ### laws_markBlkPieceS: function 83 -/
def laws_markBlkPieceS.l0 : Nat → List (S138) → Int → Int → Option (Int × (List (S138)))
 | 0,_,_,_=>none
 | k+1,x0,x1,x5=>if x5<(x0.length:Int) then (if 0≤x5 then (laws_markBlkPieceS.l0 k (x0.set (x5:Int).toNat (⟨x1,(wrap64 (x1+1)),(wrap64 ((wrap64 (x1+1))+1)),(wrap64 ((wrap64 ((wrap64 (x1+1))+1))+1))⟩:S138)) (wrap64 ((wrap64 ((wrap64 ((wrap64 (x1+1))+1))+1))+1)) (wrap64 (x5+1))) else (none)) else (some (x1,x0))
def laws_markBlkPieceS.f (k : Nat) (l0 : List (S138)) (a1 : Int) : Option (Int × (List (S138))) := laws_markBlkPieceS.l0 k l0 a1 0
set_option maxHeartbeats 8000000 in
set_option maxRecDepth 100000 in
theorem laws_markBlkPieceS.calls (k : Nat) (P0_ : Nat → Prop) (u9000_ : Value) (l0 : List (S138)) (a1 r1 : Int) (r2 : List (S138)) (w0 w : World) (hB : Below w0.heap.size w0 w) (ho0 : Kd.R k138 138 w w0.heap.size P0_ u9000_ l0) (h : laws_markBlkPieceS.f k l0 a1 = some (r1, r2)) :
  Calls Try.prog 83 #[u9000_,.int .i64 a1] w fun e w'=>e=.returned (.int .i64 r1)∧Kd.R k138 138 w' w0.heap.size (fun k_=>(P0_ k_ ∨ w.heap.size≤k_)) u9000_ r2∧Below w0.heap.size w0 w'∧Kept w w' (fun k_=>P0_ k_):=by
 have HO0:=mA (show Kd.R k138 138 w w0.heap.size (fun k_=>(P0_ k_ ∨ w.heap.size≤k_)) u9000_ l0 from Kd.R_mono ho0 (fun k_ hk=>(.inl hk)));have HK:=mA (Kept.refl w (fun k_=>P0_ k_));have HW0:=mA hB.size;have HB:=mA hB;clear hB;have H:(laws_markBlkPieceS.l0 k l0 a1 0)=some (r1,r2):=h;clear h;have H':=mA H;clear H
 go_enter Try.func83,Try.ntmps83
 go_wp2
 go_loopg [1,5] k (fun kq v1 v5 w'=>∃ (x0_1:List (S138)) (x1_1:Int) (x5_1:Int),v1=.int .i64 x1_1∧v5=.int .i64 x5_1∧Aside0 (laws_markBlkPieceS.l0 kq x0_1 x1_1 x5_1=some (r1,r2))∧Aside0 (kq≤k)∧Aside0 (Kd.R k138 138 w' w0.heap.size (fun k_=>(P0_ k_ ∨ w.heap.size≤k_)) u9000_ x0_1)∧Aside0 (Kept w w' (fun k_=>P0_ k_))∧Aside0 (Below w0.heap.size w0 w'))
 case atStart=>exact ⟨(l0),(a1),(0),bZ,bZ,H',⟨Nat.le_refl _⟩,⟨pR HO0.out⟩,⟨by repeat (first|(with_reducible first|exact HK.out|apply Kept.alloc|apply Kept.drewN|apply Kept.drew)|exact HK.out)⟩,⟨pB HB.out⟩⟩
 case round =>
  clear H'
  obtain ⟨x0_1,x1_1,x5_1,rfl,rfl,HA,HK1,HO_0,HK,HB⟩:=hrel
  cases gk with
  | zero=>exact absurd HA.out (by simp [laws_markBlkPieceS.l0])
  | succ k1 =>
   have H:=HA.out;clear HA;simp only [laws_markBlkPieceS.l0] at H
   by_cases c3:x5_1<(x0_1.length:Int)
   ·rw [if_pos c3] at H;have c3b0:decide (x5_1<(x0_1.length:Int))=true:=decide_eq_true c3;clear c3
    by_cases c4:0≤x5_1
    ·rw [if_pos c4] at H;have c4b0:decide (0≤x5_1)=true:=decide_eq_true c4;clear c4;have H':=mA H;clear H;obtain ⟨Ao9,co9,rfl⟩:=Kd.R_slice HO_0.out;have p5:0≤(x5_1:Int):=of_decide_eq_true bA;have q5:(x5_1:Int)<((x0_1.length:Int):Int):=of_decide_eq_true bA
     obtain ⟨go5,co5,eo5,gb5,gl5,cl5,HG5⟩:=Kd.R_form HO_0.out (by omega)
     (first|cases eo5|(injection eo5 with ea_ en_ ec_;(first|subst ea_|(injection ea_ with ea_;subst ea_));subst ec_;clear en_))
     have GB5:=mA gb5;have GG5:=mA HG5;clear gb5 gl5 HG5;have HMgo5:=mA (show (P0_ go5 ∨ w.heap.size≤go5) from (HO_0.out.1 _ rfl));have HO_0:=mA (stE0 (x5_1:Int) z138 HO_0.out q5 p5);replace p5:=eq_true p5;replace q5:=eq_true q5
     go_wp2_with (first|((with_reducible refine gate_store (t:=3) (p:=16) rfl ?_);refine stEl k138 z138 put138 4 4 put138_M (fun k_=>P0_ k_) (x5_1:Int) 0 HO_0 HB HK (fun _ h_=>h_) p5 q5 (p:=16) (h:=?_);intro w0_ hO_ hB_ hK_;replace HO_0:=mA hO_;replace HB:=mA hB_;replace HK:=mA hK_;clear hO_ hB_ hK_)|((with_reducible refine gate_store (t:=3) (p:=23) rfl ?_);refine stEl k138 z138 put138 4 4 put138_M (fun k_=>P0_ k_) (x5_1:Int) 1 HO_0 HB HK (fun _ h_=>h_) p5 q5 (p:=23) (h:=?_);intro w1_ hO_ hB_ hK_;replace HO_0:=mA hO_;replace HB:=mA hB_;replace HK:=mA hK_;clear hO_ hB_ hK_)|((with_reducible refine gate_store (t:=3) (p:=30) rfl ?_);refine stEl k138 z138 put138 4 4 put138_M (fun k_=>P0_ k_) (x5_1:Int) 2 HO_0 HB HK (fun _ h_=>h_) p5 q5 (p:=30) (h:=?_);intro w2_ hO_ hB_ hK_;replace HO_0:=mA hO_;replace HB:=mA hB_;replace HK:=mA hK_;clear hO_ hB_ hK_)|((with_reducible refine gate_store (t:=3) (p:=37) rfl ?_);refine stEl k138 z138 put138 4 4 put138_M (fun k_=>P0_ k_) (x5_1:Int) 3 HO_0 HB HK (fun _ h_=>h_) p5 q5 (p:=37) (h:=?_);intro w3_ hO_ hB_ hK_;replace HO_0:=mA hO_;replace HB:=mA hB_;replace HK:=mA hK_;clear hO_ hB_ hK_))
     replace HO_0:=mA (show Kd.R k138 138 _ w0.heap.size (fun k_=>(P0_ k_ ∨ w.heap.size≤k_)) _ (x0_1.set (x5_1:Int).toNat (⟨x1_1,(wrap64 (x1_1+1)),(wrap64 ((wrap64 (x1_1+1))+1)),(wrap64 ((wrap64 ((wrap64 (x1_1+1))+1))+1))⟩:S138)) from HO_0.out)
     go_roundg k1
     case measure=>have:=HK1.out;omega
     case rel=>exact ⟨(x0_1.set (x5_1:Int).toNat (⟨x1_1,(wrap64 (x1_1+1)),(wrap64 ((wrap64 (x1_1+1))+1)),(wrap64 ((wrap64 ((wrap64 (x1_1+1))+1))+1))⟩:S138)),(wrap64 ((wrap64 ((wrap64 ((wrap64 (x1_1+1))+1))+1))+1)),(wrap64 (x5_1+1)),bZ,bZ,H',⟨by have:=HK1.out;omega⟩,⟨pR HO_0.out⟩,⟨by repeat (first|(with_reducible first|exact HK.out|apply Kept.alloc|apply Kept.drewN|apply Kept.drew)|exact HK.out)⟩,⟨pB HB.out⟩⟩
    ·rw [if_neg c4] at H
     exact absurd H (by simp)
   ·rw [if_neg c3] at H;have c3b0:decide (x5_1<(x0_1.length:Int))=false:=decide_eq_false c3;clear c3;simp only [Option.some.injEq,Prod.mk.injEq] at H;obtain ⟨rfl,rfl⟩:=H;obtain ⟨Ao18,co18,rfl⟩:=Kd.R_slice HO_0.out
    go_wp2
    go_ret
    exact ⟨by first|rfl|(simp [errW_none,errW_some]<;>rfl)|(simp [*,errW_none,errW_some]<;>rfl),pR HO_0.out,pB HB.out,by repeat (first|(with_reducible first|exact HK.out|apply Kept.alloc|apply Kept.drewN|apply Kept.drew)|exact HK.out)⟩
/-! ### laws_markBlkLastS: function 84 -/
def laws_markBlkLastS.l0 : Nat → List (S140) → Int → Int → Option (Int × (List (S140)))
 | 0,_,_,_=>none
 | k+1,x0,x1,x5=>if x5<(x0.length:Int) then (if 0≤x5 then ((some (x0.set (x5:Int).toNat (⟨x1,(rd_T140 x0 x5).f1⟩:S140):List (S140))).bind fun y169=>(laws_markBlkLastS.l0 k (y169.set (x5:Int).toNat (⟨(rd_T140 y169 x5).f0,wrap64 (x1+1)⟩:S140)) (wrap64 ((wrap64 (x1+1))+1)) (wrap64 (x5+1)))) else (none)) else (some (x1,x0))
def laws_markBlkLastS.f (k : Nat) (l0 : List (S140)) (a1 : Int) : Option (Int × (List (S140))) := laws_markBlkLastS.l0 k l0 a1 0
set_option maxHeartbeats 8000000 in
set_option maxRecDepth 100000 in
theorem laws_markBlkLastS.calls (k : Nat) (P0_ : Nat → Prop) (u9000_ : Value) (l0 : List (S140)) (a1 r1 : Int) (r2 : List (S140)) (w0 w : World) (hB : Below w0.heap.size w0 w) (ho0 : Kd.R k140 140 w w0.heap.size P0_ u9000_ l0) (h : laws_markBlkLastS.f k l0 a1 = some (r1, r2)) :
  Calls Try.prog 84 #[u9000_,.int .i64 a1] w fun e w'=>e=.returned (.int .i64 r1)∧Kd.R k140 140 w' w0.heap.size (fun k_=>(P0_ k_ ∨ w.heap.size≤k_)) u9000_ r2∧Below w0.heap.size w0 w'∧Kept w w' (fun k_=>P0_ k_):=by
 have HO0:=mA (show Kd.R k140 140 w w0.heap.size (fun k_=>(P0_ k_ ∨ w.heap.size≤k_)) u9000_ l0 from Kd.R_mono ho0 (fun k_ hk=>(.inl hk)));have HK:=mA (Kept.refl w (fun k_=>P0_ k_));have HW0:=mA hB.size;have HB:=mA hB;clear hB;have H:(laws_markBlkLastS.l0 k l0 a1 0)=some (r1,r2):=h;clear h;have H':=mA H;clear H
 go_enter Try.func84,Try.ntmps84
 go_wp2
 go_loopg [1,5] k (fun kq v1 v5 w'=>∃ (x0_1:List (S140)) (x1_1:Int) (x5_1:Int),v1=.int .i64 x1_1∧v5=.int .i64 x5_1∧Aside0 (laws_markBlkLastS.l0 kq x0_1 x1_1 x5_1=some (r1,r2))∧Aside0 (kq≤k)∧Aside0 (Kd.R k140 140 w' w0.heap.size (fun k_=>(P0_ k_ ∨ w.heap.size≤k_)) u9000_ x0_1)∧Aside0 (Kept w w' (fun k_=>P0_ k_))∧Aside0 (Below w0.heap.size w0 w'))
 case atStart=>exact ⟨(l0),(a1),(0),bZ,bZ,H',⟨Nat.le_refl _⟩,⟨pR HO0.out⟩,⟨by repeat (first|(with_reducible first|exact HK.out|apply Kept.alloc|apply Kept.drewN|apply Kept.drew)|exact HK.out)⟩,⟨pB HB.out⟩⟩
 case round =>
  clear H'
  obtain ⟨x0_1,x1_1,x5_1,rfl,rfl,HA,HK1,HO_0,HK,HB⟩:=hrel
  cases gk with
  | zero=>exact absurd HA.out (by simp [laws_markBlkLastS.l0])
  | succ k1 =>
   have H:=HA.out;clear HA;simp only [laws_markBlkLastS.l0] at H
   by_cases c3:x5_1<(x0_1.length:Int)
   ·rw [if_pos c3] at H;have c3b0:decide (x5_1<(x0_1.length:Int))=true:=decide_eq_true c3;clear c3
    by_cases c4:0≤x5_1
    ·rw [if_pos c4] at H;have c4b0:decide (0≤x5_1)=true:=decide_eq_true c4;clear c4;obtain ⟨y169,hy169⟩:∃ y_:List (S140),y_=(x0_1.set (x5_1:Int).toNat (⟨x1_1,(rd_T140 x0_1 x5_1).f1⟩:S140)):=⟨_,rfl⟩
     replace H:(laws_markBlkLastS.l0 k1 (y169.set (x5_1:Int).toNat (⟨(rd_T140 y169 x5_1).f0,wrap64 (x1_1+1)⟩:S140)) (wrap64 ((wrap64 (x1_1+1))+1)) (wrap64 (x5_1+1)))=some (r1,r2):=qH hy169 H
     have Ny169:=mA hy169;clear hy169;obtain ⟨y170,hy170⟩:∃ y_:List (S140),y_=(y169.set (x5_1:Int).toNat (⟨(rd_T140 y169 x5_1).f0,wrap64 (x1_1+1)⟩:S140)):=⟨_,rfl⟩
     replace H:(laws_markBlkLastS.l0 k1 y170 (wrap64 ((wrap64 (x1_1+1))+1)) (wrap64 (x5_1+1)))=some (r1,r2):=qH hy170 H
     have Ny170:=mA hy170;clear hy170;have H':=mA H;clear H;obtain ⟨Ao7,co7,rfl⟩:=Kd.R_slice HO_0.out;have p5:0≤(x5_1:Int):=of_decide_eq_true bA;have q5:(x5_1:Int)<((x0_1.length:Int):Int):=of_decide_eq_true bA
     obtain ⟨go5,co5,eo5,gb5,gl5,cl5,HG5⟩:=Kd.R_form HO_0.out (by omega)
     (first|cases eo5|(injection eo5 with ea_ en_ ec_;(first|subst ea_|(injection ea_ with ea_;subst ea_));subst ec_;clear en_))
     have GB5:=mA gb5;have GG5:=mA HG5;clear gb5 gl5 HG5;have HMgo5:=mA (show (P0_ go5 ∨ w.heap.size≤go5) from (HO_0.out.1 _ rfl));obtain ⟨ce5,hcl5,hM5,hcc5,hfr5⟩:=Kd.R_elem HO_0.out z140 (x5_1:Int) p5 q5;obtain rfl:=k140_openM hM5;have hx5_0:wr.cell? ⟨go5,(x5_1:Int).toNat * 2,none⟩=some (.int .i64 ((rd_T140 x0_1 x5_1).f0)):=hcc5 0 _ rfl;have hx5_1:wr.cell? ⟨go5,(x5_1:Int).toNat * 2+1,none⟩=some (.int .i64 ((rd_T140 x0_1 x5_1).f1)):=hcc5 1 _ rfl;have hf5_0:wr.frozen? ⟨go5,(x5_1:Int).toNat * 2,none⟩=false:=hfr5 0;have hf5_1:wr.frozen? ⟨go5,(x5_1:Int).toNat * 2+1,none⟩=false:=hfr5 1;clear hcl5 hcc5 hfr5 hM5;replace p5:=eq_true p5;replace q5:=eq_true q5;have HX8:=mA (show Kd.R k140 140 wr w0.heap.size (fun k_=>(P0_ k_ ∨ w.heap.size≤k_)) (.slice (some ⟨go5,0,none⟩) x0_1.length co7) x0_1 from (pR HO_0.out))
     obtain ⟨ce8,hcl8,hM8,hcc8,hfr8⟩:=Kd.R_elem HX8.out z140 (x5_1:Int) (of_decide_eq_true bA) (by have h_:(x5_1:Int)<((x0_1.length:Int):Int):=of_decide_eq_true bA;first|exact h_|(have e_:=(Kd.R_reads' HO_0.out).1;omega)|simpa using h_)
     obtain rfl:=k140_openM hM8
     have HP8:=Kd.R_seg HX8.out (x5_1:Int) (of_decide_eq_true bA) (by have h_:(x5_1:Int)<((x0_1.length:Int):Int):=of_decide_eq_true bA;first|exact h_|(have e_:=(Kd.R_reads' HO_0.out).1;omega)|simpa using h_) (seg:=[.int .i64 x1_1]) (j:=0) hcl8 hcc8 (show 1≤2 from by decide) (x':=(⟨x1_1,(rd_T140 x0_1 x5_1).f1⟩:S140)) (k140_mkM _ _ _ (⟨x1_1,(rd_T140 x0_1 x5_1).f1⟩:S140) ) (fun _ hk=>hk)
     have hx8_0:=hcc8 0 _ rfl
     (try simp only [show (k140).sz=2 from rfl,Nat.mul_one,Nat.add_zero] at hx8_0)
     have hf8_0:=hfr8 0
     (try simp only [show (k140).sz=2 from rfl,Nat.mul_one,Nat.add_zero] at hf8_0)
     clear hcl8 hcc8 hfr8 hM8
     go_wp2_with (first|((with_reducible refine gate_store (t:=3) (p:=16) rfl ?_);refine store_event (t:=3) (p:=16) (v:=?vo_w9) (w1:=(wr.setCell ⟨go5,(x5_1:Int).toNat * 2,none⟩ (.int .i64 x1_1))) ?hg ?ho ?hn ?hr ?_;(case ho=>rfl);(case hg=>rfl);(case hn=>rfl);(case hr=>first|(go_simp;done)|(go_simp;rfl));intro w9 hw;have hg:wr.grownBy w9 (some go5):=(by rw [hw];exact HP8.2);have hp_:Kd.R k140 140 w9 w0.heap.size (fun k_=>(P0_ k_ ∨ w.heap.size≤k_)) (.slice (some ⟨go5,0,none⟩) x0_1.length co7) y169:=(by rw [hw,Ny169.out];exact HP8.1);clear HP8;replace HB:=mA (by rw [hw];exact below_set (HB.out) GB5.out:Below w0.heap.size w0 w9);replace HK:=mA (Kept.of_grown (S:=(fun k_=>P0_ k_)) hg (by repeat (first|(with_reducible first|exact HK.out|apply Kept.alloc|apply Kept.drewN|apply Kept.drew)|exact HK.out)) (fun k_ e_=>(HO_0.out.1 k_ e_)));replace HO_0:=mA hp_;clear hg hw hp_;have p6:0≤(x5_1:Int):=of_decide_eq_true bA;have q6:(x5_1:Int)<((x0_1.length:Int):Int):=of_decide_eq_true bA;obtain ⟨ce6,hcl6,hM6,hcc6,hfr6⟩:=Kd.R_elem HO_0.out z140 (x5_1:Int) p6 q6;obtain rfl:=k140_openM hM6;have hx6_0:w9.cell? ⟨go5,(x5_1:Int).toNat * 2,none⟩=some (.int .i64 ((rd_T140 y169 x5_1).f0)):=hcc6 0 _ rfl;have hx6_1:w9.cell? ⟨go5,(x5_1:Int).toNat * 2+1,none⟩=some (.int .i64 ((rd_T140 y169 x5_1).f1)):=hcc6 1 _ rfl;have hf6_0:w9.frozen? ⟨go5,(x5_1:Int).toNat * 2,none⟩=false:=hfr6 0;have hf6_1:w9.frozen? ⟨go5,(x5_1:Int).toNat * 2+1,none⟩=false:=hfr6 1;clear hcl6 hcc6 hfr6 hM6;replace p6:=eq_true p6;replace q6:=eq_true q6;have HX10:=mA (show Kd.R k140 140 w9 w0.heap.size (fun k_=>(P0_ k_ ∨ w.heap.size≤k_)) (.slice (some ⟨go5,0,none⟩) x0_1.length co7) y169 from (pR HO_0.out));obtain ⟨ce10,hcl10,hM10,hcc10,hfr10⟩:=Kd.R_elem HX10.out z140 (x5_1:Int) (of_decide_eq_true bA) (by have h_:(x5_1:Int)<((x0_1.length:Int):Int):=of_decide_eq_true bA;first|exact h_|(have e_:=(Kd.R_reads' HO_0.out).1;omega)|simpa using h_);obtain rfl:=k140_openM hM10;have HP10:=Kd.R_seg HX10.out (x5_1:Int) (of_decide_eq_true bA) (by have h_:(x5_1:Int)<((x0_1.length:Int):Int):=of_decide_eq_true bA;first|exact h_|(have e_:=(Kd.R_reads' HO_0.out).1;omega)|simpa using h_) (seg:=[.int .i64 (wrap64 (x1_1+1))]) (j:=1) hcl10 hcc10 (show 2≤2 from by decide) (x':=(⟨(rd_T140 y169 x5_1).f0,wrap64 (x1_1+1)⟩:S140)) (k140_mkM _ _ _ (⟨(rd_T140 y169 x5_1).f0,wrap64 (x1_1+1)⟩:S140) ) (fun _ hk=>hk);have hx10_1:=hcc10 1 _ rfl;(try simp only [show (k140).sz=2 from rfl,Nat.mul_one,Nat.add_zero] at hx10_1);have hf10_1:=hfr10 1;(try simp only [show (k140).sz=2 from rfl,Nat.mul_one,Nat.add_zero] at hf10_1);clear hcl10 hcc10 hfr10 hM10)|((with_reducible refine gate_store (t:=3) (p:=23) rfl ?_);refine store_event (t:=3) (p:=23) (v:=?vo_w11) (w1:=(w9.setCell ⟨go5,(x5_1:Int).toNat * 2+1,none⟩ (.int .i64 (wrap64 (x1_1+1))))) ?hg ?ho ?hn ?hr ?_;(case ho=>rfl);(case hg=>rfl);(case hn=>rfl);(case hr=>first|(go_simp;done)|(go_simp;rfl));intro w11 hw;have hg:w9.grownBy w11 (some go5):=(by rw [hw];exact HP10.2);have hp_:Kd.R k140 140 w11 w0.heap.size (fun k_=>(P0_ k_ ∨ w.heap.size≤k_)) (.slice (some ⟨go5,0,none⟩) x0_1.length co7) y170:=(by rw [hw,Ny170.out];exact HP10.1);clear HP10;replace HB:=mA (by rw [hw];exact below_set (HB.out) GB5.out:Below w0.heap.size w0 w11);replace HK:=mA (Kept.of_grown (S:=(fun k_=>P0_ k_)) hg (by repeat (first|(with_reducible first|exact HK.out|apply Kept.alloc|apply Kept.drewN|apply Kept.drew)|exact HK.out)) (fun k_ e_=>(HO_0.out.1 k_ e_)));replace HO_0:=mA hp_;clear hg hw hp_))
     go_roundg k1
     case measure=>have:=HK1.out;omega
     case rel=>exact ⟨(y170),(wrap64 ((wrap64 (x1_1+1))+1)),(wrap64 (x5_1+1)),bZ,bZ,H',⟨by have:=HK1.out;omega⟩,⟨pR HO_0.out⟩,⟨by repeat (first|(with_reducible first|exact HK.out|apply Kept.alloc|apply Kept.drewN|apply Kept.drew)|exact HK.out)⟩,⟨pB HB.out⟩⟩
    ·rw [if_neg c4] at H
     exact absurd H (by simp)
   ·rw [if_neg c3] at H;have c3b0:decide (x5_1<(x0_1.length:Int))=false:=decide_eq_false c3;clear c3;simp only [Option.some.injEq,Prod.mk.injEq] at H;obtain ⟨rfl,rfl⟩:=H;obtain ⟨Ao12,co12,rfl⟩:=Kd.R_slice HO_0.out
    go_wp2
    go_ret
    exact ⟨by first|rfl|(simp [errW_none,errW_some]<;>rfl)|(simp [*,errW_none,errW_some]<;>rfl),pR HO_0.out,pB HB.out,by repeat (first|(with_reducible first|exact HK.out|apply Kept.alloc|apply Kept.drewN|apply Kept.drew)|exact HK.out)⟩
/-! ### laws_markWord: function 22 -/
def laws_markWord.f (k : Nat) (a0_0 a0_1 a0_2 a0_3 a0_4 a0_5 a0_6 a0_7 a0_8 a0_9 a0_10 a0_11 a0_12 a0_13 a0_14 a0_15 a0_16 a0_17 a0_18 a0_19 a0_20 a0_21 a0_22 a0_23 : Int) (l0_24 : List (S138)) (l0_25 : List (S140)) (a1 : Int) : Option (Int × (List (S138)) × (List (S140))) := (laws_markBlkPieceS.f k l0_24 a1).bind fun bt172 => ((laws_markBlkLastS.f k l0_25 bt172.1).bind fun bt174 => (some (bt174.1, bt172.2, bt174.2)))
set_option maxHeartbeats 8000000 in
set_option maxRecDepth 100000 in
theorem laws_markWord.calls (k : Nat) (a0_0 a0_1 a0_2 a0_3 a0_4 a0_5 a0_6 a0_7 a0_8 a0_9 a0_10 a0_11 a0_12 a0_13 a0_14 a0_15 a0_16 a0_17 a0_18 a0_19 a0_20 a0_21 a0_22 a0_23 : Int) (P0_24_ : Nat → Prop) (u9000_ : Value) (l0_24 : List (S138)) (P0_25_ : Nat → Prop) (u9001_ : Value) (l0_25 : List (S140)) (a1 r1 : Int) (r2 : List (S138)) (r3 : List (S140)) (w0 w : World) (hB : Below w0.heap.size w0 w) (ho0_24 : Kd.R k138 138 w w0.heap.size P0_24_ u9000_ l0_24) (ho0_25 : Kd.R k140 140 w w0.heap.size P0_25_ u9001_ l0_25) (h : laws_markWord.f k a0_0 a0_1 a0_2 a0_3 a0_4 a0_5 a0_6 a0_7 a0_8 a0_9 a0_10 a0_11 a0_12 a0_13 a0_14 a0_15 a0_16 a0_17 a0_18 a0_19 a0_20 a0_21 a0_22 a0_23 l0_24 l0_25 a1 = some (r1, r2, r3)) :
  Calls Try.prog 22 #[.agg #[.int .i64 a0_0,.int .i64 a0_1,.int .i64 a0_2,.int .i64 a0_3,.int .i64 a0_4,.int .i64 a0_5,.int .i64 a0_6,.int .i64 a0_7,.int .i64 a0_8,.int .i64 a0_9,.int .i64 a0_10,.int .i64 a0_11,.int .i64 a0_12,.int .i64 a0_13,.int .i64 a0_14,.int .i64 a0_15,.int .i64 a0_16,.int .i64 a0_17,.int .i64 a0_18,.int .i64 a0_19,.int .i64 a0_20,.int .i64 a0_21,.int .i64 a0_22,.int .i64 a0_23,u9000_,u9001_],.int .i64 a1] w fun e w'=>e=.returned (.int .i64 r1)∧Kd.R k138 138 w' w0.heap.size (fun k_=>((P0_24_ k_ ∨ P0_25_ k_) ∨ w.heap.size≤k_)) u9000_ r2∧Kd.R k140 140 w' w0.heap.size (fun k_=>((P0_24_ k_ ∨ P0_25_ k_) ∨ w.heap.size≤k_)) u9001_ r3∧Below w0.heap.size w0 w'∧Kept w w' (fun k_=>P0_24_ k_ ∨ P0_25_ k_):=by
 have hu28:=Try.underlying28;have HO0_24:=mA (show Kd.R k138 138 w w0.heap.size (fun k_=>((P0_24_ k_ ∨ P0_25_ k_) ∨ w.heap.size≤k_)) u9000_ l0_24 from Kd.R_mono ho0_24 (fun k_ hk=>(.inl (.inl hk))));have HO0_25:=mA (show Kd.R k140 140 w w0.heap.size (fun k_=>((P0_24_ k_ ∨ P0_25_ k_) ∨ w.heap.size≤k_)) u9001_ l0_25 from Kd.R_mono ho0_25 (fun k_ hk=>(.inl (.inr hk))));have HK:=mA (Kept.refl w (fun k_=>P0_24_ k_ ∨ P0_25_ k_));have HW0:=mA hB.size;have HB:=mA hB;clear hB;have H:((laws_markBlkPieceS.f k l0_24 a1).bind fun bt172=>((laws_markBlkLastS.f k l0_25 bt172.1).bind fun bt174=>(some (bt174.1,bt172.2,bt174.2))))=some (r1,r2,r3):=h;clear h;obtain ⟨⟨t172,t173⟩,A3,H⟩:=bI H;(try dsimp only at H);obtain ⟨⟨t174,t175⟩,A4,H⟩:=bI H;(try dsimp only at H);simp only [Option.some.injEq,Prod.mk.injEq] at H;obtain ⟨rfl,rfl,rfl⟩:=H;obtain ⟨Ao5,co5,rfl⟩:=Kd.R_slice HO0_24.out;obtain ⟨Ao6,co6,rfl⟩:=Kd.R_slice HO0_25.out
 go_enter Try.func22,Try.ntmps22
 go_wp2_with (first|((with_reducible refine gLg rfl (by assumption) ?_);refine ldV ?_)|((with_reducible refine gSt rfl (by assumption) ?_);refine stV ?_)|((with_reducible refine gT 2 rfl ?_);refine bX 2 ?_;intro gb171 hg w7 hbox hb;replace HO0_24:=rB HO0_24 hb;replace HO0_25:=rB HO0_25 hb;have BK171:=mA hbox;have GW171:=mA (by rw [hg];exact (by first|exact HK.out.1|exact (show Kept w _ (fun k_=>P0_24_ k_ ∨ P0_25_ k_) from by repeat (first|(with_reducible first|exact HK.out|apply Kept.alloc|apply Kept.drewN|apply Kept.drew)|exact HK.out)).1):w.heap.size≤gb171);replace HK:=mA (Kept.below (S:=(fun k_=>P0_24_ k_ ∨ P0_25_ k_)) (by repeat (first|(with_reducible first|exact HK.out|apply Kept.alloc|apply Kept.drewN|apply Kept.drew)|exact HK.out)) hb);have GE171:=gbpB HB hg;replace HB:=spB HB hb;clear hb hbox hg;have hcz8_0:=fun i_=>blk_cell BK171.out i_;have hfz8_0:=fun i_=>blk_frozen BK171.out i_)|((with_reducible refine gT 8 rfl ?_);refine gC (some 8) Try.func83 (laws_markBlkPieceS.calls k (fun k_=>some k_=(.slice Ao5 l0_24.length co5:Value).ownBlock) (.slice Ao5 l0_24.length co5) l0_24 a1 t172 t173 w0 _ ?s1 (Kd.R_tight rfl HO0_24.out) A3.out) ?_;(case s1=>repeat (first|(with_reducible first|exact HB.out|apply below_alloc|apply pw_below_drewN|apply below_drew1|refine below_set ?_ GE171.out)|exact HB.out));rintro e w9 ⟨rfl,hy0,hb,hkp⟩;refine ⟨_,rfl,?_⟩;replace HO0_25:=mA (Kd.R_mono (ok':=fun k_=>((P0_24_ k_ ∨ P0_25_ k_) ∨ w.heap.size≤k_)) (Kd.R_keptB ((Kd.R_apart' HO0_25.out (Kd.R_typed HO0_24.out) aD)) hkp (fun k_ hk_ hs_=>(hk_.2) hs_)) (fun k_ hk_=>hk_.1.1));replace BK171:=mA (blk_kept (pK BK171.out) hkp (fun hs_=>(fun e_=>(Kd.R_ne HO0_24.out BK171.out aD) e_) hs_));replace HK:=mA (Kept.then_ (S:=(fun k_=>P0_24_ k_ ∨ P0_25_ k_)) (by repeat (first|(with_reducible first|exact HK.out|apply Kept.alloc|apply Kept.drewN|apply Kept.drew|refine Kept.setCell ?_ (.inr GW171.out) _)|exact HK.out)) hkp (fun k_ hs_=>(fun e_=>(HO0_24.out.1 k_ e_.symm)) hs_));replace HO0_24:=mA (Kd.R_reok rfl hy0 (fun k_ e_=>HO0_24.out.1 k_ e_));replace HB:=mA hb;(try clear hb);(try clear hkp);(try clear hy0);have hcz10_0:=fun i_=>blk_cell BK171.out i_;have hfz10_0:=fun i_=>blk_frozen BK171.out i_)|((with_reducible refine gT 12 rfl ?_);refine gC (some 12) Try.func84 (laws_markBlkLastS.calls k (fun k_=>some k_=(.slice Ao6 l0_25.length co6:Value).ownBlock) (.slice Ao6 l0_25.length co6) l0_25 t172 t174 t175 w0 _ ?s1 (Kd.R_tight rfl HO0_25.out) A4.out) ?_;(case s1=>repeat (first|(with_reducible first|exact HB.out|apply below_alloc|apply pw_below_drewN|apply below_drew1|refine below_set ?_ GE171.out)|exact HB.out));rintro e w11 ⟨rfl,hy0,hb,hkp⟩;refine ⟨_,rfl,?_⟩;replace HO0_24:=mA (Kd.R_mono (ok':=fun k_=>((P0_24_ k_ ∨ P0_25_ k_) ∨ w.heap.size≤k_)) (Kd.R_keptB ((Kd.R_apart' HO0_24.out (Kd.R_typed HO0_25.out) aD)) hkp (fun k_ hk_ hs_=>(hk_.2) hs_)) (fun k_ hk_=>hk_.1.1));replace BK171:=mA (blk_kept (pK BK171.out) hkp (fun hs_=>(fun e_=>(Kd.R_ne HO0_25.out BK171.out aD) e_) hs_));replace HK:=mA (Kept.then_ (S:=(fun k_=>P0_24_ k_ ∨ P0_25_ k_)) (by repeat (first|(with_reducible first|exact HK.out|apply Kept.alloc|apply Kept.drewN|apply Kept.drew|refine Kept.setCell ?_ (.inr GW171.out) _)|exact HK.out)) hkp (fun k_ hs_=>(fun e_=>(HO0_25.out.1 k_ e_.symm)) hs_));replace HO0_25:=mA (Kd.R_reok rfl hy0 (fun k_ e_=>HO0_25.out.1 k_ e_));replace HB:=mA hb;(try clear hb);(try clear hkp);(try clear hy0)))
 go_ret
 exact ⟨by first|rfl|(simp [errW_none,errW_some]<;>rfl)|(simp [*,errW_none,errW_some]<;>rfl),pR HO0_24.out,pR HO0_25.out,pS HB.out,by repeat (first|(with_reducible first|exact HK.out|apply Kept.alloc|apply Kept.drewN|apply Kept.drew|refine Kept.setCell ?_ (.inr GW171.out) _)|exact HK.out)⟩
/-! ### laws_szSynPaperS: function 85 -/
def laws_szSynPaperS.f (l0 : List (S57)) (a1 : Int) : Option (Int) := if (wrap64 (a1 - (l0.length : Int))) < 0 then (some (-1)) else (some (wrap64 (a1 - (l0.length : Int))))
set_option maxHeartbeats 8000000 in
set_option maxRecDepth 100000 in
theorem laws_szSynPaperS.calls {A0 : Option Addr} {c0 : Nat} {l0 : List (S57)} {a1 r : Int} {w : World} (hr0 : Kd.C k57 w A0 l0.length l0) (hc0 : l0.length ≤ c0) (h : laws_szSynPaperS.f l0 a1 = some r) :
  Calls Try.prog 85 #[.slice A0 l0.length c0,.int .i64 a1] w fun e w'=>e=.returned (.int .i64 r)∧Drawn0 w w':=by
 have HR0:=mA hr0;have HC0:=mA hc0;clear hr0 hc0;have H:(if (wrap64 (a1 - (l0.length:Int)))<0 then (some (-1)) else (some (wrap64 (a1 - (l0.length:Int)))))=some r:=h;clear h
 by_cases c3:(wrap64 (a1 - (l0.length:Int)))<0
 ·rw [if_pos c3] at H;have c3b0:decide ((wrap64 (a1 - (l0.length:Int)))<0)=true:=decide_eq_true c3;clear c3;obtain rfl:=Option.some.inj H
  go_enter Try.func85,Try.ntmps85
  go_wp2
  go_ret
  exact ⟨by first|rfl|(simp;done)|(simp [*];done),by repeat (first|exact Drawn0.refl _|apply Drawn0.step)⟩
 ·rw [if_neg c3] at H;have c3b0:decide ((wrap64 (a1 - (l0.length:Int)))<0)=false:=decide_eq_false c3;clear c3;obtain rfl:=Option.some.inj H
  go_enter Try.func85,Try.ntmps85
  go_wp2
  go_ret
  exact ⟨by first|rfl|(simp;done)|(simp [*];done),by repeat (first|exact Drawn0.refl _|apply Drawn0.step)⟩
/-! ### laws_szSynVoter: function 25 -/
def laws_szSynVoter.f (a0_0 : Int) (l0_1 : List (S57)) (a1 : Int) : Option (Int) := (laws_szSynPaperS.f l0_1 a1).bind fun t177 => (if t177 < 0 then (some (-1)) else (some t177))
set_option maxHeartbeats 8000000 in
set_option maxRecDepth 100000 in
theorem laws_szSynVoter.calls {a0_0 : Int} {A0_1 : Option Addr} {c0_1 : Nat} {l0_1 : List (S57)} {a1 r : Int} {w : World} (hr0_1 : Kd.C k57 w A0_1 l0_1.length l0_1) (hc0_1 : l0_1.length ≤ c0_1) (h : laws_szSynVoter.f a0_0 l0_1 a1 = some r) :
  Calls Try.prog 25 #[.agg #[.int .i64 a0_0,.slice A0_1 l0_1.length c0_1],.int .i64 a1] w fun e w'=>e=.returned (.int .i64 r)∧Below w.heap.size w w':=by
 have hu47:=Try.underlying47;have HR0_1:=mA hr0_1;have HC0_1:=mA hc0_1;clear hr0_1 hc0_1;have HB:=mA (Below.refl w.heap.size w);have H:((laws_szSynPaperS.f l0_1 a1).bind fun t177=>(if t177<0 then (some (-1)) else (some t177)))=some r:=h;clear h;obtain ⟨t177,A3,H⟩:=bI H;(try dsimp only at H)
 by_cases c4:t177<0
 ·rw [if_pos c4] at H;have c4b0:decide (t177<0)=true:=decide_eq_true c4;clear c4;obtain rfl:=Option.some.inj H
  go_enter Try.func25,Try.ntmps25
  go_wp2_with (first|((with_reducible refine gT 2 rfl ?_);refine bE 2 #[.int .i64 a0_0,.slice A0_1 l0_1.length c0_1] 47 ?_;intro gb176 hg w5 hbox hb;have BK176:=mA hbox;have GW176:=gbpB HB hg;have GE176:=gbpB HB hg;replace HB:=spB HB hb;clear hb hbox hg;obtain ⟨hcz6_0,hcz6_1,hfz6_0,hfz6_1⟩:=box2 BK176.out)|((with_reducible refine gT 8 rfl ?_);refine gC (some 8) Try.func85 (laws_szSynPaperS.calls (cB HR0_1 HB) HC0_1.out A3.out) ?_;rintro e w' ⟨rfl,⟨nd,rfl⟩⟩;refine ⟨_,rfl,?_⟩))
  go_ret
  exact rZ (pS HB.out)
 ·rw [if_neg c4] at H;have c4b0:decide (t177<0)=false:=decide_eq_false c4;clear c4;obtain rfl:=Option.some.inj H
  go_enter Try.func25,Try.ntmps25
  go_wp2_with (first|((with_reducible refine gT 2 rfl ?_);refine bE 2 #[.int .i64 a0_0,.slice A0_1 l0_1.length c0_1] 47 ?_;intro gb176 hg w7 hbox hb;have BK176:=mA hbox;have GW176:=gbpB HB hg;have GE176:=gbpB HB hg;replace HB:=spB HB hb;clear hb hbox hg;obtain ⟨hcz8_0,hcz8_1,hfz8_0,hfz8_1⟩:=box2 BK176.out)|((with_reducible refine gT 8 rfl ?_);refine gC (some 8) Try.func85 (laws_szSynPaperS.calls (cB HR0_1 HB) HC0_1.out A3.out) ?_;rintro e w' ⟨rfl,⟨nd,rfl⟩⟩;refine ⟨_,rfl,?_⟩))
  go_ret
  exact rZ (pS HB.out)
/-! ### laws_toSynPaper: function 91 -/
def laws_toSynPaper.f (a0_0 a0_1 a0_2 a0_3 a0_4 a0_5 a0_6 a0_7 a0_8 a0_9 a0_10 a0_11 : Int) : Option (Int × Int × Int × Int × Int × Int × Int × Int × Int × Int × Int × Int) := (laws_toCmd.f a0_2 a0_3 a0_4 a0_5 a0_6 a0_7 a0_8 a0_9 a0_10 a0_11).bind fun bt181 => (some (a0_0, a0_1, bt181.1, bt181.2.1, bt181.2.2.1, bt181.2.2.2.1, bt181.2.2.2.2.1, bt181.2.2.2.2.2.1, bt181.2.2.2.2.2.2.1, bt181.2.2.2.2.2.2.2.1, bt181.2.2.2.2.2.2.2.2.1, bt181.2.2.2.2.2.2.2.2.2))
set_option maxHeartbeats 8000000 in
set_option maxRecDepth 100000 in
theorem laws_toSynPaper.calls {a0_0 a0_1 a0_2 a0_3 a0_4 a0_5 a0_6 a0_7 a0_8 a0_9 a0_10 a0_11 r1 r2 r3 r4 r5 r6 r7 r8 r9 r10 r11 r12 : Int} {w : World} (h : laws_toSynPaper.f a0_0 a0_1 a0_2 a0_3 a0_4 a0_5 a0_6 a0_7 a0_8 a0_9 a0_10 a0_11 = some (r1, r2, r3, r4, r5, r6, r7, r8, r9, r10, r11, r12)) :
  Calls Try.prog 91 #[.agg #[.int .i64 a0_0,.int .i64 a0_1,.int .i64 a0_2,.int .i64 a0_3,.int .i64 a0_4,.int .i64 a0_5,.int .i64 a0_6,.int .i64 a0_7,.int .i64 a0_8,.int .i64 a0_9,.int .i64 a0_10,.int .i64 a0_11]] w fun e w'=>e=.returned (.agg #[.int .i64 r1,.int .i64 r2,.int .i64 r3,.int .i64 r4,.int .i64 r5,.int .i64 r6,.int .i64 r7,.int .i64 r8,.int .i64 r9,.int .i64 r10,.int .i64 r11,.int .i64 r12])∧Below w.heap.size w w':=by
 have hu57:=Try.underlying57;have hu64:=Try.underlying64;have hu32:=Try.underlying32;have hu24:=Try.underlying24;have HB:=mA (Below.refl w.heap.size w);have H:((laws_toCmd.f a0_2 a0_3 a0_4 a0_5 a0_6 a0_7 a0_8 a0_9 a0_10 a0_11).bind fun bt181=>(some (a0_0,a0_1,bt181.1,bt181.2.1,bt181.2.2.1,bt181.2.2.2.1,bt181.2.2.2.2.1,bt181.2.2.2.2.2.1,bt181.2.2.2.2.2.2.1,bt181.2.2.2.2.2.2.2.1,bt181.2.2.2.2.2.2.2.2.1,bt181.2.2.2.2.2.2.2.2.2)))=some (r1,r2,r3,r4,r5,r6,r7,r8,r9,r10,r11,r12):=h;clear h;obtain ⟨⟨t181,t182,t183,t184,t185,t186,t187,t188,t189,t190⟩,A2,H⟩:=bI H;(try dsimp only at H);simp only [Option.some.injEq,Prod.mk.injEq] at H;obtain ⟨rfl,rfl,rfl,rfl,rfl,rfl,rfl,rfl,rfl,rfl,rfl,rfl⟩:=H
 go_enter Try.func91,Try.ntmps91
 go_wp2_with (first|((with_reducible refine gLg rfl (by assumption) ?_);refine ldV ?_)|((with_reducible refine gSt rfl (by assumption) ?_);refine stV ?_)|((with_reducible refine gT 1 rfl ?_);refine bX 1 ?_;intro gb178 hg w3 hbox hb;have BK178:=mA hbox;have GW178:=gbpB HB hg;have GE178:=gbpB HB hg;replace HB:=spB HB hb;clear hb hbox hg)|((with_reducible refine gT 2 rfl ?_);refine bJ 2 y64 ?_;intro gb179 hg w4 hbox hb;have BK179:=mA hbox;have GW179:=gbpS HB hg;have GE179:=gbpS HB hg;replace HB:=spS HB hb;have NB178_179:=mA (lN (blk_lt (pK BK178.out)) hg);have hN178_179:=NB178_179.out;have NB179_178:=nS NB178_179;have hN179_178:=NB179_178.out;replace BK178:=bK BK178 hb;clear hb hbox hg)|((with_reducible refine gT 3 rfl ?_);refine bJ 3 y64 ?_;intro gb180 hg w5 hbox hb;have BK180:=mA hbox;have GW180:=gbpS HB hg;have GE180:=gbpS HB hg;replace HB:=spS HB hb;have NB178_180:=mA (lN (blk_lt (pK BK178.out)) hg);have hN178_180:=NB178_180.out;have NB180_178:=nS NB178_180;have hN180_178:=NB180_178.out;replace BK178:=bK BK178 hb;have NB179_180:=mA (lN (blk_lt (pK BK179.out)) hg);have hN179_180:=NB179_180.out;have NB180_179:=nS NB179_180;have hN180_179:=NB180_179.out;replace BK179:=bK BK179 hb;clear hb hbox hg;have hcz8_0:=fun i_=>blk_cell BK178.out i_;have hfz8_0:=fun i_=>blk_frozen BK178.out i_;have hcz10_0:=fun i_=>blk_cell BK180.out i_;have hfz10_0:=fun i_=>blk_frozen BK180.out i_)|((with_reducible refine gT 12 rfl ?_);refine gC (some 12) Try.func36 (laws_toCmd.calls A2.out) ?_;rintro e w11 ⟨rfl,hb⟩;refine ⟨_,rfl,?_⟩;replace BK178:=bF BK178 hb;replace BK179:=bF BK179 hb;replace BK180:=mA (blk_below (g:=gb180) (o:=.cells #[.int .i64 a0_0,.int .i64 a0_1,.int .i64 0,.int .i64 0,.int .i64 0,.int .i64 0,.int .i64 0,.int .i64 0,.int .i64 0,.int .i64 0,.int .i64 0,.int .i64 0] 64 (0,0)) (pP BK180) hb);replace HB:=spS HB hb;(try clear hb);have hcz12_0:=fun i_=>blk_cell BK180.out i_;have hfz12_0:=fun i_=>blk_frozen BK180.out i_;have hcz13_0:=fun i_=>blk_cell BK179.out i_;have hfz13_0:=fun i_=>blk_frozen BK179.out i_))
 refine bodyPost_ret (results_cell_row rfl _ _ gb179 64 #[.int .i64 a0_0,.int .i64 a0_1,.int .i64 t181,.int .i64 t182,.int .i64 t183,.int .i64 t184,.int .i64 t185,.int .i64 t186,.int .i64 t187,.int .i64 t188,.int .i64 t189,.int .i64 t190] (0,0) _ rfl (pP BK179) Try.underlying64 rfl aK) rfl ?_
 exact rZ (pS HB.out)
/-! ### laws_toSynPaperS: function 87 -/
def laws_toSynPaperS.l0 : Nat → List (S57) → List (S64) → Int → Option ((List (S64)))
 | 0,_,_,_=>none
 | k+1,x0,x3,x4=>if x4<(x0.length:Int) then (if 0≤x4 then ((laws_toSynPaper.f ((rd_T57 x0 x4).f0) ((rd_T57 x0 x4).f1) ((rd_T57 x0 x4).f2.f0) ((rd_T57 x0 x4).f2.f1) ((rd_T57 x0 x4).f2.f2) ((rd_T57 x0 x4).f2.f3) ((rd_T57 x0 x4).f2.f4) ((rd_T57 x0 x4).f2.f5) ((rd_T57 x0 x4).f2.f6) ((rd_T57 x0 x4).f2.f7) ((rd_T57 x0 x4).f2.f8) ((rd_T57 x0 x4).f2.f9)).bind fun bt195=>(if x4<(x3.length:Int) then (laws_toSynPaperS.l0 k x0 (x3.set (x4:Int).toNat (⟨bt195.1,bt195.2.1,(⟨bt195.2.2.1,bt195.2.2.2.1,bt195.2.2.2.2.1,bt195.2.2.2.2.2.1,bt195.2.2.2.2.2.2.1,bt195.2.2.2.2.2.2.2.1,bt195.2.2.2.2.2.2.2.2.1,bt195.2.2.2.2.2.2.2.2.2.1,bt195.2.2.2.2.2.2.2.2.2.2.1,bt195.2.2.2.2.2.2.2.2.2.2.2⟩:S24)⟩:S64)) (wrap64 (x4+1))) else (none))) else (none)) else (some x3)
def laws_toSynPaperS.f (k : Nat) (l0 : List (S57)) : Option ((List (S64))) := if 0 ≤ (l0.length : Int) then (if ((l0.length : Int) : Int).toNat ≤ 2932031007402 then (laws_toSynPaperS.l0 k l0 (List.replicate ((l0.length : Int) : Int).toNat z64) 0) else (none)) else (none)
set_option maxHeartbeats 8000000 in
set_option maxRecDepth 100000 in
theorem laws_toSynPaperS.calls {k : Nat} {A0 : Option Addr} {c0 : Nat} {l0 : List (S57)} {r : List (S64)} {w : World} (hr0 : Kd.C k57 w A0 l0.length l0) (hc0 : l0.length ≤ c0) (h : laws_toSynPaperS.f k l0 = some r) :
  Calls Try.prog 87 #[.slice A0 l0.length c0] w fun e w'=>∃ v0_:Value,e=.returned (v0_)∧Kd.R k64 64 w' w.heap.size (fun _=>True) v0_ r∧Below w.heap.size w w':=by
 have hu57:=Try.underlying57;have hu64:=Try.underlying64;have HR0:=mA hr0;have HC0:=mA hc0;clear hr0 hc0;have HB:=mA (Below.refl w.heap.size w);have H:(if 0≤(l0.length:Int) then (if ((l0.length:Int):Int).toNat≤2932031007402 then (laws_toSynPaperS.l0 k l0 (List.replicate ((l0.length:Int):Int).toNat z64) 0) else (none)) else (none))=some r:=h;clear h
 by_cases c2:0≤(l0.length:Int)
 ·rw [if_pos c2] at H;have c2b0:=eq_true c2;have c2b1:decide (0≤(l0.length:Int))=true:=decide_eq_true c2;clear c2
  by_cases c3:((l0.length:Int):Int).toNat≤2932031007402
  ·rw [if_pos c3] at H;have c3b0:=eq_true c3;have c3b1:decide (((l0.length:Int):Int).toNat≤2932031007402)=true:=decide_eq_true c3;clear c3;obtain ⟨y191,hy191⟩:∃ y_:List (S64),y_=(List.replicate ((l0.length:Int):Int).toNat z64):=⟨_,rfl⟩
   replace H:(laws_toSynPaperS.l0 k l0 y191 0)=some r:=qH hy191 H
   have Ny191:=mA hy191;clear hy191;have H':=mA H;clear H
   go_enter Try.func87,Try.ntmps87
   go_wp2_with (first|((with_reducible refine gLg rfl (by assumption) ?_);first|refine ldW ?_|refine ldX ?_)|((with_reducible refine gT 7 rfl ?_);refine Kd.R_make k64 _ 64 rfl (N:=7) rfl 50 _ _ rfl (l0.length:Int) rfl rfl Try.underlying50 (.agg #[(.int .i64 0),(.int .i64 0),(.int .i64 0),(.int .i64 0),(.int .i64 0),(.int .i64 0),(.int .i64 0),(.int .i64 0),(.int .i64 0),(.int .i64 0),(.int .i64 0),(.int .i64 0)]) 96 info64 rfl aD (by omega) z64 (ok:=fun _=>True) (okp:=fun _=>True) (k64_mkM _ _ _ z64 ) (fun _ hk=>hk) trivial (of_decide_eq_true bA) (Nat.le_trans (Nat.mul_le_mul_right _ (of_decide_eq_true bA:(l0.length:Int).toNat≤2932031007402)) (by omega)) (Below.refl _ _) (Nat.le_refl _) ?_;intro v192 w4 ho5 hb hg_ hnew_;clear hg_ hnew_;(first|rw [← Ny191.out] at ho5|(simp only [Int.reduceToNat] at ho5;rw [← Ny191.out] at ho5));have HO193:=mA (Kd.R_lower ho5 (bpB HB));replace HB:=spB HB hb;clear hb ho5))
   go_loopg [4] k (fun kq v4 w'=>∃ (x3_1:List (S64)) (x4_1:Int),v4=.int .i64 x4_1∧Aside0 (laws_toSynPaperS.l0 kq l0 x3_1 x4_1=some r)∧Aside0 (kq≤k)∧Aside0 (Kd.R k64 64 w' w.heap.size (fun _=>True) v192 x3_1)∧Aside0 (Below w.heap.size w w'))
   case atStart=>exact ⟨(y191),(0),bZ,H',⟨Nat.le_refl _⟩,⟨pR HO193.out⟩,⟨pB HB.out⟩⟩
   case round =>
    clear H'
    (try clear c2);(try clear c2b0);(try clear c2b1);(try clear c3);(try clear c3b0);(try clear c3b1)
    obtain ⟨x3_1,x4_1,rfl,HA,HK1,HO_3,HB⟩:=hrel
    cases gk with
    | zero=>exact absurd HA.out (by simp [laws_toSynPaperS.l0])
    | succ k1 =>
     have H:=HA.out;clear HA;simp only [laws_toSynPaperS.l0] at H
     by_cases c6:x4_1<(l0.length:Int)
     ·rw [if_pos c6] at H;have c6b0:decide (x4_1<(l0.length:Int))=true:=decide_eq_true c6;clear c6
      by_cases c7:0≤x4_1
      ·rw [if_pos c7] at H;have c7b0:decide (0≤x4_1)=true:=decide_eq_true c7;clear c7;obtain ⟨⟨t195,t196,t197,t198,t199,t200,t201,t202,t203,t204,t205,t206⟩,A8,H⟩:=bI H;(try dsimp only at H)
       by_cases c9:x4_1<(x3_1.length:Int)
       ·rw [if_pos c9] at H;have c9b0:decide (x4_1<(x3_1.length:Int))=true:=decide_eq_true c9;clear c9;obtain ⟨y207,hy207⟩:∃ y_:List (S64),y_=(x3_1.set (x4_1:Int).toNat (⟨t195,t196,(⟨t197,t198,t199,t200,t201,t202,t203,t204,t205,t206⟩:S24)⟩:S64)):=⟨_,rfl⟩
        replace H:(laws_toSynPaperS.l0 k1 l0 y207 (wrap64 (x4_1+1)))=some r:=qH hy207 H
        have Ny207:=mA hy207;clear hy207;have H':=mA H;clear H;have p194:0≤(x4_1:Int):=of_decide_eq_true bA;have q194:x4_1<(l0.length:Int):=of_decide_eq_true bA;obtain ⟨ad194,e194,hs194⟩:=at_R57 HR0.out x4_1 p194 q194;have hx194_0:=RS.hd hs194 rfl;cases e194;replace hx194_0:=hC HB hx194_0;replace hs194:=rS HB hs194;replace p194:=eq_true p194;replace q194:=eq_true q194
        go_wp2_with (first|((with_reducible refine gLg rfl (by assumption) ?_);first|refine ldW ?_|refine ldX ?_)|((with_reducible refine gT 20 rfl ?_);refine gC (some 20) Try.func91 (laws_toSynPaper.calls A8.out) ?_;rintro e w11 ⟨rfl,hb⟩;refine ⟨_,rfl,?_⟩;replace HO_3:=rB HO_3 hb;replace HB:=spB HB hb;(try clear hb);have p10:0≤(x4_1:Int):=of_decide_eq_true bA;have q10:(x4_1:Int)<((x3_1.length:Int):Int):=of_decide_eq_true bA;obtain ⟨go10,co10,eo10,gb10,gl10,cl10,HG10⟩:=Kd.R_form HO_3.out (by omega);(first|cases eo10|(injection eo10 with ea_ en_ ec_;(first|subst ea_|(injection ea_ with ea_;subst ea_));subst ec_;clear en_));have GB10:=mA gb10;have GG10:=mA HG10;clear gb10 gl10 HG10;replace p10:=eq_true p10;replace q10:=eq_true q10;have HX12:=mA (show Kd.R k64 64 w11 w.heap.size (fun _=>True) (.slice (some ⟨go10,0,none⟩) x3_1.length co10) x3_1 from (pR HO_3.out));obtain ⟨ce12,hcl12,hM12,hcc12,hfr12⟩:=Kd.R_elem HX12.out z64 (x4_1:Int) (of_decide_eq_true bA) (by have h_:(x4_1:Int)<((x3_1.length:Int):Int):=of_decide_eq_true bA;first|exact h_|(have e_:=(Kd.R_reads' HO_3.out).1;omega)|simpa using h_);obtain rfl:=k64_openM hM12;have HP12:=Kd.R_seg HX12.out (x4_1:Int) (of_decide_eq_true bA) (by have h_:(x4_1:Int)<((x3_1.length:Int):Int):=of_decide_eq_true bA;first|exact h_|(have e_:=(Kd.R_reads' HO_3.out).1;omega)|simpa using h_) (seg:=[.int .i64 t195,.int .i64 t196,.int .i64 t197,.int .i64 t198,.int .i64 t199,.int .i64 t200,.int .i64 t201,.int .i64 t202,.int .i64 t203,.int .i64 t204,.int .i64 t205,.int .i64 t206]) (j:=0) hcl12 hcc12 (show 12≤12 from by decide) (x':=(⟨t195,t196,(⟨t197,t198,t199,t200,t201,t202,t203,t204,t205,t206⟩:S24)⟩:S64)) (k64_mkM _ _ _ (⟨t195,t196,(⟨t197,t198,t199,t200,t201,t202,t203,t204,t205,t206⟩:S24)⟩:S64) ) (fun _ hk=>hk);have HCC12:=mA hcc12;clear hcl12 hcc12 hfr12 hM12)|((with_reducible refine gate_store (t:=64) (p:=21) rfl ?_);refine stR (p:=21) GG10 HCC12.out ?_;intro w13 hw;have hg:w11.grownBy w13 (some go10):=(by rw [hw];exact HP12.2);have hp_:Kd.R k64 64 w13 w.heap.size (fun _=>True) (.slice (some ⟨go10,0,none⟩) x3_1.length co10) y207:=(by rw [hw,Ny207.out];exact HP12.1);clear HP12;replace HO_3:=mA hp_;replace HB:=mA (by rw [hw];exact below_sets GB10.out _ _ (HB.out):Below w.heap.size w w13);clear hg hw hp_))
        go_roundg k1
        case measure=>have:=HK1.out;omega
        case rel=>exact ⟨(y207),(wrap64 (x4_1+1)),bZ,H',⟨by have:=HK1.out;omega⟩,⟨pR HO_3.out⟩,⟨pB HB.out⟩⟩
       ·rw [if_neg c9] at H
        exact absurd H (by simp)
      ·rw [if_neg c7] at H
       exact absurd H (by simp)
     ·rw [if_neg c6] at H;have c6b0:decide (x4_1<(l0.length:Int))=false:=decide_eq_false c6;clear c6;obtain rfl:=Option.some.inj H
      go_wp2_with (first|((with_reducible refine gLg rfl (by assumption) ?_);first|refine ldW ?_|refine ldX ?_))
      go_ret
      exact ⟨_,by first|rfl|(simp [errW_none,errW_some]<;>rfl)|(simp [*,errW_none,errW_some]<;>rfl),pR HO_3.out,pB HB.out⟩
  ·rw [if_neg c3] at H
   exact absurd H (by simp)
 ·rw [if_neg c2] at H
  exact absurd H (by simp)
/-! ### laws_toSynVoter: function 27 -/
def laws_toSynVoter.f (k : Nat) (a0_0 : Int) (l0_1 : List (S57)) : Option (Int × (List (S64))) := (laws_toSynPaperS.f k l0_1).bind fun t211 => (some (a0_0, t211))
set_option maxHeartbeats 8000000 in
set_option maxRecDepth 100000 in
theorem laws_toSynVoter.calls {k : Nat} {a0_0 : Int} {A0_1 : Option Addr} {c0_1 : Nat} {l0_1 : List (S57)} {r1 : Int} {r2 : List (S64)} {w : World} (hr0_1 : Kd.C k57 w A0_1 l0_1.length l0_1) (hc0_1 : l0_1.length ≤ c0_1) (h : laws_toSynVoter.f k a0_0 l0_1 = some (r1, r2)) :
  Calls Try.prog 27 #[.agg #[.int .i64 a0_0,.slice A0_1 l0_1.length c0_1]] w fun e w'=>∃ v1_:Value,e=.returned (.agg #[.int .i64 r1,v1_])∧Kd.R k64 64 w' w.heap.size (fun _=>True) v1_ r2∧Below w.heap.size w w':=by
 have hu47:=Try.underlying47;have hu52:=Try.underlying52;have HR0_1:=mA hr0_1;have HC0_1:=mA hc0_1;clear hr0_1 hc0_1;have HB:=mA (Below.refl w.heap.size w);have H:((laws_toSynPaperS.f k l0_1).bind fun t211=>(some (a0_0,t211)))=some (r1,r2):=h;clear h;obtain ⟨t211,A2,H⟩:=bI H;(try dsimp only at H);simp only [Option.some.injEq,Prod.mk.injEq] at H;obtain ⟨rfl,rfl⟩:=H
 go_enter Try.func27,Try.ntmps27
 go_wp2_with (first|((with_reducible refine gT 1 rfl ?_);refine bE 1 #[.int .i64 a0_0,.slice A0_1 l0_1.length c0_1] 47 ?_;intro gb208 hg w3 hbox hb;have BK208:=mA hbox;have GW208:=gbpB HB hg;have GE208:=gbpB HB hg;replace HB:=spB HB hb;clear hb hbox hg)|((with_reducible refine gT 2 rfl ?_);refine bE 2 #[.int .i64 0,.slice none 0 0] 52 ?_;intro gb209 hg w4 hbox hb;have BK209:=mA hbox;have GW209:=gbpS HB hg;have GE209:=gbpS HB hg;replace HB:=spS HB hb;have NB208_209:=mA (lN (blk_lt (pK BK208.out)) hg);have hN208_209:=NB208_209.out;have NB209_208:=nS NB208_209;have hN209_208:=NB209_208.out;replace BK208:=bK BK208 hb;clear hb hbox hg)|((with_reducible refine gT 3 rfl ?_);refine bE 3 #[.int .i64 0,.slice none 0 0] 52 ?_;intro gb210 hg w5 hbox hb;have BK210:=mA hbox;have GW210:=gbpS HB hg;have GE210:=gbpS HB hg;replace HB:=spS HB hb;have NB208_210:=mA (lN (blk_lt (pK BK208.out)) hg);have hN208_210:=NB208_210.out;have NB210_208:=nS NB208_210;have hN210_208:=NB210_208.out;replace BK208:=bK BK208 hb;have NB209_210:=mA (lN (blk_lt (pK BK209.out)) hg);have hN209_210:=NB209_210.out;have NB210_209:=nS NB209_210;have hN210_209:=NB210_209.out;replace BK209:=bK BK209 hb;clear hb hbox hg;obtain ⟨hcz8_0,hcz8_1,hfz8_0,hfz8_1⟩:=box2 BK208.out;obtain ⟨hcz10_0,hcz10_1,hfz10_0,hfz10_1⟩:=box2 BK210.out)|((with_reducible refine gT 9 rfl ?_);refine gC (some 9) Try.func87 (laws_toSynPaperS.calls (Kd.C_below HR0_1.out (pS HB.out)) HC0_1.out A2.out) ?_;rintro e w11 ⟨v212,rfl,ho0,hb⟩;refine ⟨_,rfl,?_⟩;have HO213:=mA (Kd.R_lower ho0 (bpS HB));replace BK208:=bF BK208 hb;replace BK209:=bF BK209 hb;replace BK210:=mA (blk_below (g:=gb210) (o:=.cells #[.int .i64 a0_0,.slice none 0 0] 52 (0,0)) (pP BK210) hb);replace HB:=spS HB hb;(try clear hb);(try clear ho0);obtain ⟨Ao12,co12,rfl⟩:=Kd.R_slice HO213.out;obtain ⟨hcz13_0,hcz13_1,hfz13_0,hfz13_1⟩:=box2 BK210.out;obtain ⟨hcz14_0,hcz14_1,hfz14_0,hfz14_1⟩:=box2 BK209.out))
 refine bodyPost_ret (results_cell_row rfl _ _ gb209 52 #[.int .i64 a0_0,.slice Ao12 t211.length co12] (0,0) _ rfl (pP BK209) Try.underlying52 rfl aK) rfl ?_
 exact ⟨_,by first|rfl|(simp [errW_none,errW_some]<;>rfl)|(simp [*,errW_none,errW_some]<;>rfl),pUU HO213 BK210 BK209,pS HB.out⟩
/-! ### laws_eqSynPaper: function 95 -/
def laws_eqSynPaper.f (a0_0 a0_1 a0_2 a0_3 a0_4 a0_5 a0_6 a0_7 a0_8 a0_9 a0_10 a0_11 a1_0 a1_1 a1_2 a1_3 a1_4 a1_5 a1_6 a1_7 a1_8 a1_9 a1_10 a1_11 : Int) : Option (Bool) := if a0_0 = a1_0 then (if a0_1 = a1_1 then ((laws_eqCmd.f a0_2 a0_3 a0_4 a0_5 a0_6 a0_7 a0_8 a0_9 a0_10 a0_11 a1_2 a1_3 a1_4 a1_5 a1_6 a1_7 a1_8 a1_9 a1_10 a1_11).bind fun t216 => (if t216 = true then (some true) else (some false))) else (some false)) else (some false)
set_option maxHeartbeats 8000000 in
set_option maxRecDepth 100000 in
theorem laws_eqSynPaper.calls {a0_0 a0_1 a0_2 a0_3 a0_4 a0_5 a0_6 a0_7 a0_8 a0_9 a0_10 a0_11 a1_0 a1_1 a1_2 a1_3 a1_4 a1_5 a1_6 a1_7 a1_8 a1_9 a1_10 a1_11 : Int} {r : Bool} {w : World} (h : laws_eqSynPaper.f a0_0 a0_1 a0_2 a0_3 a0_4 a0_5 a0_6 a0_7 a0_8 a0_9 a0_10 a0_11 a1_0 a1_1 a1_2 a1_3 a1_4 a1_5 a1_6 a1_7 a1_8 a1_9 a1_10 a1_11 = some r) :
  Calls Try.prog 95 #[.agg #[.int .i64 a0_0,.int .i64 a0_1,.int .i64 a0_2,.int .i64 a0_3,.int .i64 a0_4,.int .i64 a0_5,.int .i64 a0_6,.int .i64 a0_7,.int .i64 a0_8,.int .i64 a0_9,.int .i64 a0_10,.int .i64 a0_11],.agg #[.int .i64 a1_0,.int .i64 a1_1,.int .i64 a1_2,.int .i64 a1_3,.int .i64 a1_4,.int .i64 a1_5,.int .i64 a1_6,.int .i64 a1_7,.int .i64 a1_8,.int .i64 a1_9,.int .i64 a1_10,.int .i64 a1_11]] w fun e w'=>e=.returned (.bool r)∧Below w.heap.size w w':=by
 have hu64:=Try.underlying64;have hu24:=Try.underlying24;have HB:=mA (Below.refl w.heap.size w);have H:(if a0_0=a1_0 then (if a0_1=a1_1 then ((laws_eqCmd.f a0_2 a0_3 a0_4 a0_5 a0_6 a0_7 a0_8 a0_9 a0_10 a0_11 a1_2 a1_3 a1_4 a1_5 a1_6 a1_7 a1_8 a1_9 a1_10 a1_11).bind fun t216=>(if t216=true then (some true) else (some false))) else (some false)) else (some false))=some r:=h;clear h
 by_cases c3:a0_0=a1_0
 ·rw [if_pos c3] at H;obtain ⟨c3b0,c3b1⟩:=eqB c3;clear c3
  by_cases c4:a0_1=a1_1
  ·rw [if_pos c4] at H;obtain ⟨c4b0,c4b1⟩:=eqB c4;clear c4;obtain ⟨t216,A5,H⟩:=bI H;(try dsimp only at H)
   by_cases c6:t216=true
   ·subst c6;rw [if_pos rfl] at H;obtain rfl:=Option.some.inj H
    go_enter Try.func95,Try.ntmps95
    go_wp2_with (first|((with_reducible refine gLg rfl (by assumption) ?_);refine ldV ?_)|((with_reducible refine gSt rfl (by assumption) ?_);refine stV ?_)|((with_reducible refine gT 2 rfl ?_);refine bX 2 ?_;intro gb214 hg w7 hbox hb;have BK214:=mA hbox;have GW214:=gbpB HB hg;have GE214:=gbpB HB hg;replace HB:=spB HB hb;clear hb hbox hg)|((with_reducible refine gT 3 rfl ?_);refine bX 3 ?_;intro gb215 hg w8 hbox hb;have BK215:=mA hbox;have GW215:=gbpS HB hg;have GE215:=gbpS HB hg;replace HB:=spS HB hb;have NB214_215:=mA (lN (blk_lt (pK BK214.out)) hg);have hN214_215:=NB214_215.out;have NB215_214:=nS NB214_215;have hN215_214:=NB215_214.out;replace BK214:=bK BK214 hb;clear hb hbox hg;have hcz10_0:=fun i_=>blk_cell BK214.out i_;have hfz10_0:=fun i_=>blk_frozen BK214.out i_;have hcz11_0:=fun i_=>blk_cell BK215.out i_;have hfz11_0:=fun i_=>blk_frozen BK215.out i_)|((with_reducible refine gT 19 rfl ?_);refine gC (some 19) Try.func80 (laws_eqCmd.calls A5.out) ?_;rintro e w12 ⟨rfl,hb⟩;refine ⟨_,rfl,?_⟩;replace BK214:=bK BK214 hb;replace BK215:=bK BK215 hb;replace HB:=spS HB hb;(try clear hb)))
    go_ret
    exact rZ (pS HB.out)
   ·replace c6:=Bool.eq_false_iff.mpr c6;subst c6
    rw [if_neg nFT] at H
    obtain rfl:=Option.some.inj H
    go_enter Try.func95,Try.ntmps95
    go_wp2_with (first|((with_reducible refine gLg rfl (by assumption) ?_);refine ldV ?_)|((with_reducible refine gSt rfl (by assumption) ?_);refine stV ?_)|((with_reducible refine gT 2 rfl ?_);refine bX 2 ?_;intro gb214 hg w13 hbox hb;have BK214:=mA hbox;have GW214:=gbpB HB hg;have GE214:=gbpB HB hg;replace HB:=spB HB hb;clear hb hbox hg)|((with_reducible refine gT 3 rfl ?_);refine bX 3 ?_;intro gb215 hg w14 hbox hb;have BK215:=mA hbox;have GW215:=gbpS HB hg;have GE215:=gbpS HB hg;replace HB:=spS HB hb;have NB214_215:=mA (lN (blk_lt (pK BK214.out)) hg);have hN214_215:=NB214_215.out;have NB215_214:=nS NB214_215;have hN215_214:=NB215_214.out;replace BK214:=bK BK214 hb;clear hb hbox hg;have hcz16_0:=fun i_=>blk_cell BK214.out i_;have hfz16_0:=fun i_=>blk_frozen BK214.out i_;have hcz17_0:=fun i_=>blk_cell BK215.out i_;have hfz17_0:=fun i_=>blk_frozen BK215.out i_)|((with_reducible refine gT 19 rfl ?_);refine gC (some 19) Try.func80 (laws_eqCmd.calls A5.out) ?_;rintro e w18 ⟨rfl,hb⟩;refine ⟨_,rfl,?_⟩;replace BK214:=bK BK214 hb;replace BK215:=bK BK215 hb;replace HB:=spS HB hb;(try clear hb)))
    go_ret
    exact rZ (pS HB.out)
  ·rw [if_neg c4] at H;have c4b0:(a0_1 == a1_1)=false:=beq_eq_false_iff_ne.mpr c4;have c4b1:(a0_1 != a1_1)=true:=bne_iff_ne.mpr c4;obtain rfl:=Option.some.inj H
   go_enter Try.func95,Try.ntmps95
   go_wp2_with (first|((with_reducible refine gLg rfl (by assumption) ?_);refine ldV ?_)|((with_reducible refine gSt rfl (by assumption) ?_);refine stV ?_)|((with_reducible refine gT 2 rfl ?_);refine bX 2 ?_;intro gb214 hg w19 hbox hb;have BK214:=mA hbox;have GW214:=gbpB HB hg;have GE214:=gbpB HB hg;replace HB:=spB HB hb;clear hb hbox hg)|((with_reducible refine gT 3 rfl ?_);refine bX 3 ?_;intro gb215 hg w20 hbox hb;have BK215:=mA hbox;have GW215:=gbpS HB hg;have GE215:=gbpS HB hg;replace HB:=spS HB hb;have NB214_215:=mA (lN (blk_lt (pK BK214.out)) hg);have hN214_215:=NB214_215.out;have NB215_214:=nS NB214_215;have hN215_214:=NB215_214.out;replace BK214:=bK BK214 hb;clear hb hbox hg;have hcz22_0:=fun i_=>blk_cell BK214.out i_;have hfz22_0:=fun i_=>blk_frozen BK214.out i_;have hcz23_0:=fun i_=>blk_cell BK215.out i_;have hfz23_0:=fun i_=>blk_frozen BK215.out i_))
   go_ret
   exact rZ (pS HB.out)
 ·rw [if_neg c3] at H;have c3b0:(a0_0 == a1_0)=false:=beq_eq_false_iff_ne.mpr c3;have c3b1:(a0_0 != a1_0)=true:=bne_iff_ne.mpr c3;obtain rfl:=Option.some.inj H
  go_enter Try.func95,Try.ntmps95
  go_wp2_with (first|((with_reducible refine gLg rfl (by assumption) ?_);refine ldV ?_)|((with_reducible refine gSt rfl (by assumption) ?_);refine stV ?_)|((with_reducible refine gT 2 rfl ?_);refine bX 2 ?_;intro gb214 hg w24 hbox hb;have BK214:=mA hbox;have GW214:=gbpB HB hg;have GE214:=gbpB HB hg;replace HB:=spB HB hb;clear hb hbox hg)|((with_reducible refine gT 3 rfl ?_);refine bX 3 ?_;intro gb215 hg w25 hbox hb;have BK215:=mA hbox;have GW215:=gbpS HB hg;have GE215:=gbpS HB hg;replace HB:=spS HB hb;have NB214_215:=mA (lN (blk_lt (pK BK214.out)) hg);have hN214_215:=NB214_215.out;have NB215_214:=nS NB214_215;have hN215_214:=NB215_214.out;replace BK214:=bK BK214 hb;clear hb hbox hg;have hcz27_0:=fun i_=>blk_cell BK214.out i_;have hfz27_0:=fun i_=>blk_frozen BK214.out i_;have hcz28_0:=fun i_=>blk_cell BK215.out i_;have hfz28_0:=fun i_=>blk_frozen BK215.out i_))
  go_ret
  exact rZ (pS HB.out)
/-! ### laws_eqSynPaperS: function 89 -/
def laws_eqSynPaperS.l0 : Nat → List (S64) → List (S64) → Int → Option (Bool)
 | 0,_,_,_=>none
 | k+1,x0,x1,x5=>if x5<(x0.length:Int) then (if 0≤x5 then (if x5<(x1.length:Int) then ((laws_eqSynPaper.f ((rd_T64 x0 x5).f0) ((rd_T64 x0 x5).f1) ((rd_T64 x0 x5).f2.f0) ((rd_T64 x0 x5).f2.f1) ((rd_T64 x0 x5).f2.f2) ((rd_T64 x0 x5).f2.f3) ((rd_T64 x0 x5).f2.f4) ((rd_T64 x0 x5).f2.f5) ((rd_T64 x0 x5).f2.f6) ((rd_T64 x0 x5).f2.f7) ((rd_T64 x0 x5).f2.f8) ((rd_T64 x0 x5).f2.f9) ((rd_T64 x1 x5).f0) ((rd_T64 x1 x5).f1) ((rd_T64 x1 x5).f2.f0) ((rd_T64 x1 x5).f2.f1) ((rd_T64 x1 x5).f2.f2) ((rd_T64 x1 x5).f2.f3) ((rd_T64 x1 x5).f2.f4) ((rd_T64 x1 x5).f2.f5) ((rd_T64 x1 x5).f2.f6) ((rd_T64 x1 x5).f2.f7) ((rd_T64 x1 x5).f2.f8) ((rd_T64 x1 x5).f2.f9)).bind fun t219=>(if t219=true then (laws_eqSynPaperS.l0 k x0 x1 (wrap64 (x5+1))) else (some false))) else (none)) else (none)) else (some true)
def laws_eqSynPaperS.f (k : Nat) (l0 : List (S64)) (l1 : List (S64)) : Option (Bool) := if (l0.length : Int) = (l1.length : Int) then (laws_eqSynPaperS.l0 k l0 l1 0) else (some false)
def laws_eqSynPaperS.T6 : Bool × List (List Nat × List Nat) := (true, [([], []), ([], []), ([0, 1], [0, 1]), ([2], [2]), ([], []), ([], []), ([4, 5], [4, 5]), ([6], [6]), ([3, 7], [3, 7]), ([8], [8])])
def laws_eqSynPaperS.B6 : List Nat := [0, 0, 3, 7, 0, 0, 48, 112, 255, 511]
theorem laws_eqSynPaperS.tab6 : rtab .any (opsOf Try.f89 6) = laws_eqSynPaperS.T6 := by kernel_rfl
theorem laws_eqSynPaperS.bits6 : waitsOk laws_eqSynPaperS.T6.2 laws_eqSynPaperS.B6 = true := by kernel_rfl
set_option maxHeartbeats 8000000 in
set_option maxRecDepth 100000 in
theorem laws_eqSynPaperS.calls {k : Nat} {A0 : Option Addr} {c0 : Nat} {l0 : List (S64)} {A1 : Option Addr} {c1 : Nat} {l1 : List (S64)} {r : Bool} {w : World} (hr0 : Kd.C k64 w A0 l0.length l0) (hc0 : l0.length ≤ c0) (hr1 : Kd.C k64 w A1 l1.length l1) (hc1 : l1.length ≤ c1) (h : laws_eqSynPaperS.f k l0 l1 = some r) :
  Calls Try.prog 89 #[.slice A0 l0.length c0,.slice A1 l1.length c1] w fun e w'=>e=.returned (.bool r)∧Below w.heap.size w w':=by
 have hu64:=Try.underlying64;have HR0:=mA hr0;have HC0:=mA hc0;clear hr0 hc0;have HR1:=mA hr1;have HC1:=mA hc1;clear hr1 hc1;have HB:=mA (Below.refl w.heap.size w);have H:(if (l0.length:Int)=(l1.length:Int) then (laws_eqSynPaperS.l0 k l0 l1 0) else (some false))=some r:=h;clear h
 by_cases c3:(l0.length:Int)=(l1.length:Int)
 ·rw [if_pos c3] at H;have c3b0:((l0.length:Int) == (l1.length:Int))=true:=beq_iff_eq.mpr c3;have c3b1:((l0.length:Int) != (l1.length:Int))=false:=bne_eq_false_iff_eq.mpr c3
  have c3b2:(l0.length == l1.length)=true:=by first|simpa using c3|(simp at c3 ⊢;omega)
  clear c3;have H':=mA H;clear H
  go_enter Try.func89,Try.ntmps89
  go_wp2
  go_loopg [5] k (fun kq v5 w'=>∃ (x5_1:Int),v5=.int .i64 x5_1∧Aside0 (laws_eqSynPaperS.l0 kq l0 l1 x5_1=some r)∧Aside0 (kq≤k)∧Aside0 (Below w.heap.size w w'))
  case atStart=>exact ⟨(0),bZ,H',⟨Nat.le_refl _⟩,⟨pB HB.out⟩⟩
  case round =>
   clear H'
   (try clear c3);(try clear c3b0);(try clear c3b1);(try clear c3b2)
   obtain ⟨x5_1,rfl,HA,HK1,HB⟩:=hrel
   cases gk with
   | zero=>exact absurd HA.out (by simp [laws_eqSynPaperS.l0])
   | succ k1 =>
    have H:=HA.out;clear HA;simp only [laws_eqSynPaperS.l0] at H
    by_cases c4:x5_1<(l0.length:Int)
    ·rw [if_pos c4] at H;have c4b0:decide (x5_1<(l0.length:Int))=true:=decide_eq_true c4;clear c4
     by_cases c5:0≤x5_1
     ·rw [if_pos c5] at H;have c5b0:decide (0≤x5_1)=true:=decide_eq_true c5;clear c5
      by_cases c6:x5_1<(l1.length:Int)
      ·rw [if_pos c6] at H;have c6b0:decide (x5_1<(l1.length:Int))=true:=decide_eq_true c6;clear c6;obtain ⟨t219,A7,H⟩:=bI H;(try dsimp only at H)
       have H0_:=mA H;clear H
       try go_wp2
       replace HB:=mA (below_drew1 HB.out);have p217:0≤(x5_1:Int):=of_decide_eq_true bA;have q217:x5_1<(l0.length:Int):=of_decide_eq_true bA;obtain ⟨ad217,e217,hs217⟩:=at_R64 HR0.out x5_1 p217 q217;cases e217;replace p217:=eq_true p217;replace q217:=eq_true q217;have p218:0≤(x5_1:Int):=of_decide_eq_true bA;have q218:x5_1<(l1.length:Int):=of_decide_eq_true bA;obtain ⟨ad218,e218,hs218⟩:=at_R64 HR1.out x5_1 p218 q218;cases e218;replace p218:=eq_true p218;replace q218:=eq_true q218
       refine start_ (n:=10) (S:=fun w'=>RS w' (ad217.add ((x5_1).toNat * 12)) (d64 (rd_T64 l0 x5_1))∧RS w' (ad218.add ((x5_1).toNat * 12)) (d64 (rd_T64 l1 x5_1))) (ds:=[]) _ aK rfl rfl ⟨rS HB hs217,rS HB hs218⟩ (fun hHeld=>?_);refine with_tabW laws_eqSynPaperS.tab6 laws_eqSynPaperS.bits6 (fun HT_ HW_=>?_)
       generalize wr.drew=w9 at HB hHeld ⊢
       refine qu 0 ?_;refine qu 1 ?_;refine qu 2 ?_;refine qu 4 ?_;refine qu 5 ?_;refine qu 6 ?_;refine qt 3 ?_;refine qt 7 ?_
       refine qo 8 ?_;intro K hK
       refine gD Try.func95 (laws_eqSynPaper.calls A7.out) ?_
       rintro e w10 ⟨rfl,hb⟩;refine ⟨_,rfl,?_⟩;replace HB:=spB HB hb
       (try clear hb)
       refine hK.out _ _ ⟨rS HB hs217,rS HB hs218⟩ (fun hHeld=>?_);clear hK K;refine no_ (some 25) ?_;refine qu 9 ?_;refine qe ?_
       have H:=H0_.out;clear H0_
       by_cases c8:t219=true
       ·subst c8;rw [if_pos rfl] at H;have H':=mA H;clear H
        try go_wp2
        go_roundg k1
        case measure=>have:=HK1.out;omega
        case rel=>exact ⟨(wrap64 (x5_1+1)),bZ,H',⟨by have:=HK1.out;omega⟩,⟨pB HB.out⟩⟩
       ·replace c8:=Bool.eq_false_iff.mpr c8;subst c8
        rw [if_neg nFT] at H
        obtain rfl:=Option.some.inj H
        try go_wp2
        go_ret
        exact rZ (pB HB.out)
      ·rw [if_neg c6] at H
       exact absurd H (by simp)
     ·rw [if_neg c5] at H
      exact absurd H (by simp)
    ·rw [if_neg c4] at H;have c4b0:decide (x5_1<(l0.length:Int))=false:=decide_eq_false c4;clear c4;obtain rfl:=Option.some.inj H
     go_wp2
     go_ret
     exact rZ (pB HB.out)
 ·rw [if_neg c3] at H;have c3b0:((l0.length:Int) == (l1.length:Int))=false:=beq_eq_false_iff_ne.mpr c3;have c3b1:((l0.length:Int) != (l1.length:Int))=true:=bne_iff_ne.mpr c3
  have c3b2:(l0.length == l1.length)=false:=by first|simpa using c3|(simp at c3 ⊢;omega)
  obtain rfl:=Option.some.inj H
  go_enter Try.func89,Try.ntmps89
  go_wp2
  go_ret
  exact rZ (pB HB.out)
/-! ### laws_eqSynVoter: function 29 -/
def laws_eqSynVoter.f (k : Nat) (a0_0 : Int) (l0_1 : List (S64)) (a1_0 : Int) (l1_1 : List (S64)) : Option (Bool) := if a0_0 = a1_0 then ((laws_eqSynPaperS.f k l0_1 l1_1).bind fun t222 => (if t222 = true then (some true) else (some false))) else (some false)
set_option maxHeartbeats 8000000 in
set_option maxRecDepth 100000 in
theorem laws_eqSynVoter.calls {k : Nat} {a0_0 : Int} {A0_1 : Option Addr} {c0_1 : Nat} {l0_1 : List (S64)} {a1_0 : Int} {A1_1 : Option Addr} {c1_1 : Nat} {l1_1 : List (S64)} {r : Bool} {w : World} (hr0_1 : Kd.C k64 w A0_1 l0_1.length l0_1) (hc0_1 : l0_1.length ≤ c0_1) (hr1_1 : Kd.C k64 w A1_1 l1_1.length l1_1) (hc1_1 : l1_1.length ≤ c1_1) (h : laws_eqSynVoter.f k a0_0 l0_1 a1_0 l1_1 = some r) :
  Calls Try.prog 29 #[.agg #[.int .i64 a0_0,.slice A0_1 l0_1.length c0_1],.agg #[.int .i64 a1_0,.slice A1_1 l1_1.length c1_1]] w fun e w'=>e=.returned (.bool r)∧Below w.heap.size w w':=by
 have hu52:=Try.underlying52;have HR0_1:=mA hr0_1;have HC0_1:=mA hc0_1;clear hr0_1 hc0_1;have HR1_1:=mA hr1_1;have HC1_1:=mA hc1_1;clear hr1_1 hc1_1;have HB:=mA (Below.refl w.heap.size w);have H:(if a0_0=a1_0 then ((laws_eqSynPaperS.f k l0_1 l1_1).bind fun t222=>(if t222=true then (some true) else (some false))) else (some false))=some r:=h;clear h
 by_cases c3:a0_0=a1_0
 ·rw [if_pos c3] at H;obtain ⟨c3b0,c3b1⟩:=eqB c3;clear c3;obtain ⟨t222,A4,H⟩:=bI H;(try dsimp only at H)
  by_cases c5:t222=true
  ·subst c5;rw [if_pos rfl] at H;obtain rfl:=Option.some.inj H
   go_enter Try.func29,Try.ntmps29
   go_wp2_with (first|((with_reducible refine gT 2 rfl ?_);refine bE 2 #[.int .i64 a0_0,.slice A0_1 l0_1.length c0_1] 52 ?_;intro gb220 hg w6 hbox hb;have BK220:=mA hbox;have GW220:=gbpB HB hg;have GE220:=gbpB HB hg;replace HB:=spB HB hb;clear hb hbox hg)|((with_reducible refine gT 3 rfl ?_);refine bE 3 #[.int .i64 a1_0,.slice A1_1 l1_1.length c1_1] 52 ?_;intro gb221 hg w7 hbox hb;have BK221:=mA hbox;have GW221:=gbpS HB hg;have GE221:=gbpS HB hg;replace HB:=spS HB hb;have NB220_221:=mA (lN (blk_lt (pK BK220.out)) hg);have hN220_221:=NB220_221.out;have NB221_220:=nS NB220_221;have hN221_220:=NB221_220.out;replace BK220:=bK BK220 hb;clear hb hbox hg;obtain ⟨hcz9_0,hcz9_1,hfz9_0,hfz9_1⟩:=box2 BK220.out;obtain ⟨hcz10_0,hcz10_1,hfz10_0,hfz10_1⟩:=box2 BK221.out)|((with_reducible refine gT 14 rfl ?_);refine gC (some 14) Try.func89 (laws_eqSynPaperS.calls (cB HR0_1 HB) HC0_1.out (cB HR1_1 HB) HC1_1.out A4.out) ?_;rintro e w11 ⟨rfl,hb⟩;refine ⟨_,rfl,?_⟩;replace BK220:=bK BK220 hb;replace BK221:=bK BK221 hb;replace HB:=spS HB hb;(try clear hb)))
   go_ret
   exact rZ (pS HB.out)
  ·replace c5:=Bool.eq_false_iff.mpr c5;subst c5
   rw [if_neg nFT] at H
   obtain rfl:=Option.some.inj H
   go_enter Try.func29,Try.ntmps29
   go_wp2_with (first|((with_reducible refine gT 2 rfl ?_);refine bE 2 #[.int .i64 a0_0,.slice A0_1 l0_1.length c0_1] 52 ?_;intro gb220 hg w12 hbox hb;have BK220:=mA hbox;have GW220:=gbpB HB hg;have GE220:=gbpB HB hg;replace HB:=spB HB hb;clear hb hbox hg)|((with_reducible refine gT 3 rfl ?_);refine bE 3 #[.int .i64 a1_0,.slice A1_1 l1_1.length c1_1] 52 ?_;intro gb221 hg w13 hbox hb;have BK221:=mA hbox;have GW221:=gbpS HB hg;have GE221:=gbpS HB hg;replace HB:=spS HB hb;have NB220_221:=mA (lN (blk_lt (pK BK220.out)) hg);have hN220_221:=NB220_221.out;have NB221_220:=nS NB220_221;have hN221_220:=NB221_220.out;replace BK220:=bK BK220 hb;clear hb hbox hg;obtain ⟨hcz15_0,hcz15_1,hfz15_0,hfz15_1⟩:=box2 BK220.out;obtain ⟨hcz16_0,hcz16_1,hfz16_0,hfz16_1⟩:=box2 BK221.out)|((with_reducible refine gT 14 rfl ?_);refine gC (some 14) Try.func89 (laws_eqSynPaperS.calls (cB HR0_1 HB) HC0_1.out (cB HR1_1 HB) HC1_1.out A4.out) ?_;rintro e w17 ⟨rfl,hb⟩;refine ⟨_,rfl,?_⟩;replace BK220:=bK BK220 hb;replace BK221:=bK BK221 hb;replace HB:=spS HB hb;(try clear hb)))
   go_ret
   exact rZ (pS HB.out)
 ·rw [if_neg c3] at H;have c3b0:(a0_0 == a1_0)=false:=beq_eq_false_iff_ne.mpr c3;have c3b1:(a0_0 != a1_0)=true:=bne_iff_ne.mpr c3;obtain rfl:=Option.some.inj H
  go_enter Try.func29,Try.ntmps29
  go_wp2_with (first|((with_reducible refine gT 2 rfl ?_);refine bE 2 #[.int .i64 a0_0,.slice A0_1 l0_1.length c0_1] 52 ?_;intro gb220 hg w18 hbox hb;have BK220:=mA hbox;have GW220:=gbpB HB hg;have GE220:=gbpB HB hg;replace HB:=spB HB hb;clear hb hbox hg)|((with_reducible refine gT 3 rfl ?_);refine bE 3 #[.int .i64 a1_0,.slice A1_1 l1_1.length c1_1] 52 ?_;intro gb221 hg w19 hbox hb;have BK221:=mA hbox;have GW221:=gbpS HB hg;have GE221:=gbpS HB hg;replace HB:=spS HB hb;have NB220_221:=mA (lN (blk_lt (pK BK220.out)) hg);have hN220_221:=NB220_221.out;have NB221_220:=nS NB220_221;have hN221_220:=NB221_220.out;replace BK220:=bK BK220 hb;clear hb hbox hg;obtain ⟨hcz21_0,hcz21_1,hfz21_0,hfz21_1⟩:=box2 BK220.out;obtain ⟨hcz22_0,hcz22_1,hfz22_0,hfz22_1⟩:=box2 BK221.out))
  go_ret
  exact rZ (pS HB.out)
end Go.Proofs.Ytoieojmfkkidnaa.P
