-- printed by pprint.py (this session's program over the kit's printer) out of the translation. Lean checks it.
import Derived.Test.YtoieojmfkkidnaaPx0
import Derived.Test.YtoieojmfkkidnaaPx1
namespace Go.Proofs.Ytoieojmfkkidnaa.P
open Go.RowKit Go.Proofs.YtoieojmfkkidnaaX Go.Proofs.YtoieojmfkkidnaaW.PrintWords Go.Proofs.YtoieojmfkkidnaaW.PrintLast Go.Proofs.YtoieojmfkkidnaaW.PrintMore
attribute [local go_sem] max2_int min2_int max_two min_two max_three min_three max_four min_four   -- for this text's walks alone
set_option linter.unusedVariables false
set_option linter.unusedSimpArgs false

/-! ### laws_eqSynSeeker: function 34 -/
def laws_eqSynSeeker.f (k : Nat) (a0_0 a0_1 a0_2 a0_3 a0_4 a0_5 a0_6 a0_7 a0_8 a0_9 a0_10 a0_11 a0_12 a0_13 a0_14 a0_15 a0_16 a0_17 a0_18 a0_19 a0_20 a0_21 a0_22 a0_23 a0_24 : Int) (l0_25 : List Int) (a1_0 a1_1 a1_2 a1_3 a1_4 a1_5 a1_6 a1_7 a1_8 a1_9 a1_10 a1_11 a1_12 a1_13 a1_14 a1_15 a1_16 a1_17 a1_18 a1_19 a1_20 a1_21 a1_22 a1_23 a1_24 : Int) (l1_25 : List Int) : Option (Bool) := if a0_0 = a1_0 then (if a0_1 = a1_1 then (if a0_2 = a1_2 then ((laws_eqCmd.f a0_3 a0_4 a0_5 a0_6 a0_7 a0_8 a0_9 a0_10 a0_11 a0_12 a1_3 a1_4 a1_5 a1_6 a1_7 a1_8 a1_9 a1_10 a1_11 a1_12).bind fun t110 => (if t110 = true then ((laws_eqSynPaper.f a0_13 a0_14 a0_15 a0_16 a0_17 a0_18 a0_19 a0_20 a0_21 a0_22 a0_23 a0_24 a1_13 a1_14 a1_15 a1_16 a1_17 a1_18 a1_19 a1_20 a1_21 a1_22 a1_23 a1_24).bind fun t111 => (if t111 = true then ((laws_eqIntS.f k l0_25 l1_25).bind fun t112 => (if t112 = true then (some true) else (some false))) else (some false))) else (some false))) else (some false)) else (some false)) else (some false)
theorem laws_eqSynSeeker.mono : ∀ a0 a1 a2 a3 a4 a5 a6 a7 a8 a9 a10 a11 a12 a13 a14 a15 a16 a17 a18 a19 a20 a21 a22 a23 a24 a25 a26 a27 a28 a29 a30 a31 a32 a33 a34 a35 a36 a37 a38 a39 a40 a41 a42 a43 a44 a45 a46 a47 a48 a49 a50 a51 k, LeO (laws_eqSynSeeker.f k a0 a1 a2 a3 a4 a5 a6 a7 a8 a9 a10 a11 a12 a13 a14 a15 a16 a17 a18 a19 a20 a21 a22 a23 a24 a25 a26 a27 a28 a29 a30 a31 a32 a33 a34 a35 a36 a37 a38 a39 a40 a41 a42 a43 a44 a45 a46 a47 a48 a49 a50 a51) (laws_eqSynSeeker.f (k + 1) a0 a1 a2 a3 a4 a5 a6 a7 a8 a9 a10 a11 a12 a13 a14 a15 a16 a17 a18 a19 a20 a21 a22 a23 a24 a25 a26 a27 a28 a29 a30 a31 a32 a33 a34 a35 a36 a37 a38 a39 a40 a41 a42 a43 a44 a45 a46 a47 a48 a49 a50 a51) := by
 intro a0 a1 a2 a3 a4 a5 a6 a7 a8 a9 a10 a11 a12 a13 a14 a15 a16 a17 a18 a19 a20 a21 a22 a23 a24 a25 a26 a27 a28 a29 a30 a31 a32 a33 a34 a35 a36 a37 a38 a39 a40 a41 a42 a43 a44 a45 a46 a47 a48 a49 a50 a51 k
 unfold laws_eqSynSeeker.f
 repeat' first
   | (with_reducible first|apply laws_eqIntS.mono|exact LeO.refl _|exact LeO.none _|refine LeO.ite ?_ ?_|refine LeO.bind ?_ (fun _=>?_))|exact LeO.none _|refine LeO.ite ?_ ?_|refine LeO.bind ?_ (fun _=>?_)
set_option maxHeartbeats 8000000 in
set_option maxRecDepth 100000 in
theorem laws_eqSynSeeker.calls {k : Nat} {a0_0 a0_1 a0_2 a0_3 a0_4 a0_5 a0_6 a0_7 a0_8 a0_9 a0_10 a0_11 a0_12 a0_13 a0_14 a0_15 a0_16 a0_17 a0_18 a0_19 a0_20 a0_21 a0_22 a0_23 a0_24 : Int} {A0_25 : Option Addr} {c0_25 : Nat} {l0_25 : List Int} {a1_0 a1_1 a1_2 a1_3 a1_4 a1_5 a1_6 a1_7 a1_8 a1_9 a1_10 a1_11 a1_12 a1_13 a1_14 a1_15 a1_16 a1_17 a1_18 a1_19 a1_20 a1_21 a1_22 a1_23 a1_24 : Int} {A1_25 : Option Addr} {c1_25 : Nat} {l1_25 : List Int} {r : Bool} {w : World} (hr0_25 : Kd.C (Kd.int .i64) w A0_25 l0_25.length l0_25) (hc0_25 : l0_25.length ≤ c0_25) (hr1_25 : Kd.C (Kd.int .i64) w A1_25 l1_25.length l1_25) (hc1_25 : l1_25.length ≤ c1_25) (h : laws_eqSynSeeker.f k a0_0 a0_1 a0_2 a0_3 a0_4 a0_5 a0_6 a0_7 a0_8 a0_9 a0_10 a0_11 a0_12 a0_13 a0_14 a0_15 a0_16 a0_17 a0_18 a0_19 a0_20 a0_21 a0_22 a0_23 a0_24 l0_25 a1_0 a1_1 a1_2 a1_3 a1_4 a1_5 a1_6 a1_7 a1_8 a1_9 a1_10 a1_11 a1_12 a1_13 a1_14 a1_15 a1_16 a1_17 a1_18 a1_19 a1_20 a1_21 a1_22 a1_23 a1_24 l1_25 = some r) :
  Calls Try.prog 34 #[.agg #[.int .i64 a0_0,.int .i64 a0_1,.int .i64 a0_2,.int .i64 a0_3,.int .i64 a0_4,.int .i64 a0_5,.int .i64 a0_6,.int .i64 a0_7,.int .i64 a0_8,.int .i64 a0_9,.int .i64 a0_10,.int .i64 a0_11,.int .i64 a0_12,.int .i64 a0_13,.int .i64 a0_14,.int .i64 a0_15,.int .i64 a0_16,.int .i64 a0_17,.int .i64 a0_18,.int .i64 a0_19,.int .i64 a0_20,.int .i64 a0_21,.int .i64 a0_22,.int .i64 a0_23,.int .i64 a0_24,.slice A0_25 l0_25.length c0_25],.agg #[.int .i64 a1_0,.int .i64 a1_1,.int .i64 a1_2,.int .i64 a1_3,.int .i64 a1_4,.int .i64 a1_5,.int .i64 a1_6,.int .i64 a1_7,.int .i64 a1_8,.int .i64 a1_9,.int .i64 a1_10,.int .i64 a1_11,.int .i64 a1_12,.int .i64 a1_13,.int .i64 a1_14,.int .i64 a1_15,.int .i64 a1_16,.int .i64 a1_17,.int .i64 a1_18,.int .i64 a1_19,.int .i64 a1_20,.int .i64 a1_21,.int .i64 a1_22,.int .i64 a1_23,.int .i64 a1_24,.slice A1_25 l1_25.length c1_25]] w fun e w'=>e=.returned (.bool r)∧Below w.heap.size w w':=by
 have hu66:=Try.underlying66;have hu24:=Try.underlying24;have hu64:=Try.underlying64;have HR0_25:=mA hr0_25;have HC0_25:=mA hc0_25;clear hr0_25 hc0_25;have HR1_25:=mA hr1_25;have HC1_25:=mA hc1_25;clear hr1_25 hc1_25;have HB:=mA (Below.refl w.heap.size w);have H:(if a0_0=a1_0 then (if a0_1=a1_1 then (if a0_2=a1_2 then ((laws_eqCmd.f a0_3 a0_4 a0_5 a0_6 a0_7 a0_8 a0_9 a0_10 a0_11 a0_12 a1_3 a1_4 a1_5 a1_6 a1_7 a1_8 a1_9 a1_10 a1_11 a1_12).bind fun t110=>(if t110=true then ((laws_eqSynPaper.f a0_13 a0_14 a0_15 a0_16 a0_17 a0_18 a0_19 a0_20 a0_21 a0_22 a0_23 a0_24 a1_13 a1_14 a1_15 a1_16 a1_17 a1_18 a1_19 a1_20 a1_21 a1_22 a1_23 a1_24).bind fun t111=>(if t111=true then ((laws_eqIntS.f k l0_25 l1_25).bind fun t112=>(if t112=true then (some true) else (some false))) else (some false))) else (some false))) else (some false)) else (some false)) else (some false))=some r:=h;clear h
 by_cases c3:a0_0=a1_0
 ·rw [if_pos c3] at H;obtain ⟨c3b0,c3b1⟩:=eqB c3;clear c3
  by_cases c4:a0_1=a1_1
  ·rw [if_pos c4] at H;obtain ⟨c4b0,c4b1⟩:=eqB c4;clear c4
   by_cases c5:a0_2=a1_2
   ·rw [if_pos c5] at H;obtain ⟨c5b0,c5b1⟩:=eqB c5;clear c5;obtain ⟨t110,A6,H⟩:=bI H;(try dsimp only at H)
    by_cases c7:t110=true
    ·subst c7;rw [if_pos rfl] at H;obtain ⟨t111,A8,H⟩:=bI H;(try dsimp only at H)
     by_cases c9:t111=true
     ·subst c9;rw [if_pos rfl] at H;obtain ⟨t112,A10,H⟩:=bI H;(try dsimp only at H)
      by_cases c11:t112=true
      ·subst c11;rw [if_pos rfl] at H;obtain rfl:=Option.some.inj H
       go_enter Try.func34,Try.ntmps34
       go_wp2_with (first|((with_reducible refine gLg rfl (by assumption) ?_);refine ldV ?_)|((with_reducible refine gSt rfl (by assumption) ?_);refine stV ?_)|((with_reducible refine gT 2 rfl ?_);refine bX 2 ?_;intro gb108 hg w12 hbox hb;have BK108:=mA hbox;have GW108:=gbpB HB hg;have GE108:=gbpB HB hg;replace HB:=spB HB hb;clear hb hbox hg)|((with_reducible refine gT 3 rfl ?_);refine bX 3 ?_;intro gb109 hg w13 hbox hb;have BK109:=mA hbox;have GW109:=gbpS HB hg;have GE109:=gbpS HB hg;replace HB:=spS HB hb;have NB108_109:=mA (lN (blk_lt (pK BK108.out)) hg);have hN108_109:=NB108_109.out;have NB109_108:=nS NB108_109;have hN109_108:=NB109_108.out;replace BK108:=bK BK108 hb;clear hb hbox hg;have hcz15_0:=fun i_=>blk_cell BK108.out i_;have hfz15_0:=fun i_=>blk_frozen BK108.out i_;have hcz16_0:=fun i_=>blk_cell BK109.out i_;have hfz16_0:=fun i_=>blk_frozen BK109.out i_)|((with_reducible refine gT 24 rfl ?_);refine gC (some 24) Try.func80 (laws_eqCmd.calls A6.out) ?_;rintro e w17 ⟨rfl,hb⟩;refine ⟨_,rfl,?_⟩;replace BK108:=bK BK108 hb;replace BK109:=bK BK109 hb;replace HB:=spS HB hb;(try clear hb);have hcz18_0:=fun i_=>blk_cell BK108.out i_;have hfz18_0:=fun i_=>blk_frozen BK108.out i_;have hcz19_0:=fun i_=>blk_cell BK109.out i_;have hfz19_0:=fun i_=>blk_frozen BK109.out i_)|((with_reducible refine gT 30 rfl ?_);refine gC (some 30) Try.func95 (laws_eqSynPaper.calls A8.out) ?_;rintro e w20 ⟨rfl,hb⟩;refine ⟨_,rfl,?_⟩;replace BK108:=bK BK108 hb;replace BK109:=bK BK109 hb;replace HB:=spS HB hb;(try clear hb);have hcz21_0:=fun i_=>blk_cell BK108.out i_;have hfz21_0:=fun i_=>blk_frozen BK108.out i_;have hcz22_0:=fun i_=>blk_cell BK109.out i_;have hfz22_0:=fun i_=>blk_frozen BK109.out i_)|((with_reducible refine gT 36 rfl ?_);refine gC (some 36) Try.func96 (laws_eqIntS.calls (cB HR0_25 HB) HC0_25.out (cB HR1_25 HB) HC1_25.out A10.out) ?_;rintro e w' ⟨rfl,⟨nd,rfl⟩⟩;refine ⟨_,rfl,?_⟩))
       go_ret
       exact rZ (pS HB.out)
      ·replace c11:=Bool.eq_false_iff.mpr c11;subst c11
       rw [if_neg nFT] at H
       obtain rfl:=Option.some.inj H
       go_enter Try.func34,Try.ntmps34
       go_wp2_with (first|((with_reducible refine gLg rfl (by assumption) ?_);refine ldV ?_)|((with_reducible refine gSt rfl (by assumption) ?_);refine stV ?_)|((with_reducible refine gT 2 rfl ?_);refine bX 2 ?_;intro gb108 hg w23 hbox hb;have BK108:=mA hbox;have GW108:=gbpB HB hg;have GE108:=gbpB HB hg;replace HB:=spB HB hb;clear hb hbox hg)|((with_reducible refine gT 3 rfl ?_);refine bX 3 ?_;intro gb109 hg w24 hbox hb;have BK109:=mA hbox;have GW109:=gbpS HB hg;have GE109:=gbpS HB hg;replace HB:=spS HB hb;have NB108_109:=mA (lN (blk_lt (pK BK108.out)) hg);have hN108_109:=NB108_109.out;have NB109_108:=nS NB108_109;have hN109_108:=NB109_108.out;replace BK108:=bK BK108 hb;clear hb hbox hg;have hcz26_0:=fun i_=>blk_cell BK108.out i_;have hfz26_0:=fun i_=>blk_frozen BK108.out i_;have hcz27_0:=fun i_=>blk_cell BK109.out i_;have hfz27_0:=fun i_=>blk_frozen BK109.out i_)|((with_reducible refine gT 24 rfl ?_);refine gC (some 24) Try.func80 (laws_eqCmd.calls A6.out) ?_;rintro e w28 ⟨rfl,hb⟩;refine ⟨_,rfl,?_⟩;replace BK108:=bK BK108 hb;replace BK109:=bK BK109 hb;replace HB:=spS HB hb;(try clear hb);have hcz29_0:=fun i_=>blk_cell BK108.out i_;have hfz29_0:=fun i_=>blk_frozen BK108.out i_;have hcz30_0:=fun i_=>blk_cell BK109.out i_;have hfz30_0:=fun i_=>blk_frozen BK109.out i_)|((with_reducible refine gT 30 rfl ?_);refine gC (some 30) Try.func95 (laws_eqSynPaper.calls A8.out) ?_;rintro e w31 ⟨rfl,hb⟩;refine ⟨_,rfl,?_⟩;replace BK108:=bK BK108 hb;replace BK109:=bK BK109 hb;replace HB:=spS HB hb;(try clear hb);have hcz32_0:=fun i_=>blk_cell BK108.out i_;have hfz32_0:=fun i_=>blk_frozen BK108.out i_;have hcz33_0:=fun i_=>blk_cell BK109.out i_;have hfz33_0:=fun i_=>blk_frozen BK109.out i_)|((with_reducible refine gT 36 rfl ?_);refine gC (some 36) Try.func96 (laws_eqIntS.calls (cB HR0_25 HB) HC0_25.out (cB HR1_25 HB) HC1_25.out A10.out) ?_;rintro e w' ⟨rfl,⟨nd,rfl⟩⟩;refine ⟨_,rfl,?_⟩))
       go_ret
       exact rZ (pS HB.out)
     ·replace c9:=Bool.eq_false_iff.mpr c9;subst c9
      rw [if_neg nFT] at H
      obtain rfl:=Option.some.inj H
      go_enter Try.func34,Try.ntmps34
      go_wp2_with (first|((with_reducible refine gLg rfl (by assumption) ?_);refine ldV ?_)|((with_reducible refine gSt rfl (by assumption) ?_);refine stV ?_)|((with_reducible refine gT 2 rfl ?_);refine bX 2 ?_;intro gb108 hg w34 hbox hb;have BK108:=mA hbox;have GW108:=gbpB HB hg;have GE108:=gbpB HB hg;replace HB:=spB HB hb;clear hb hbox hg)|((with_reducible refine gT 3 rfl ?_);refine bX 3 ?_;intro gb109 hg w35 hbox hb;have BK109:=mA hbox;have GW109:=gbpS HB hg;have GE109:=gbpS HB hg;replace HB:=spS HB hb;have NB108_109:=mA (lN (blk_lt (pK BK108.out)) hg);have hN108_109:=NB108_109.out;have NB109_108:=nS NB108_109;have hN109_108:=NB109_108.out;replace BK108:=bK BK108 hb;clear hb hbox hg;have hcz37_0:=fun i_=>blk_cell BK108.out i_;have hfz37_0:=fun i_=>blk_frozen BK108.out i_;have hcz38_0:=fun i_=>blk_cell BK109.out i_;have hfz38_0:=fun i_=>blk_frozen BK109.out i_)|((with_reducible refine gT 24 rfl ?_);refine gC (some 24) Try.func80 (laws_eqCmd.calls A6.out) ?_;rintro e w39 ⟨rfl,hb⟩;refine ⟨_,rfl,?_⟩;replace BK108:=bK BK108 hb;replace BK109:=bK BK109 hb;replace HB:=spS HB hb;(try clear hb);have hcz40_0:=fun i_=>blk_cell BK108.out i_;have hfz40_0:=fun i_=>blk_frozen BK108.out i_;have hcz41_0:=fun i_=>blk_cell BK109.out i_;have hfz41_0:=fun i_=>blk_frozen BK109.out i_)|((with_reducible refine gT 30 rfl ?_);refine gC (some 30) Try.func95 (laws_eqSynPaper.calls A8.out) ?_;rintro e w42 ⟨rfl,hb⟩;refine ⟨_,rfl,?_⟩;replace BK108:=bK BK108 hb;replace BK109:=bK BK109 hb;replace HB:=spS HB hb;(try clear hb)))
      go_ret
      exact rZ (pS HB.out)
    ·replace c7:=Bool.eq_false_iff.mpr c7;subst c7
     rw [if_neg nFT] at H
     obtain rfl:=Option.some.inj H
     go_enter Try.func34,Try.ntmps34
     go_wp2_with (first|((with_reducible refine gLg rfl (by assumption) ?_);refine ldV ?_)|((with_reducible refine gSt rfl (by assumption) ?_);refine stV ?_)|((with_reducible refine gT 2 rfl ?_);refine bX 2 ?_;intro gb108 hg w43 hbox hb;have BK108:=mA hbox;have GW108:=gbpB HB hg;have GE108:=gbpB HB hg;replace HB:=spB HB hb;clear hb hbox hg)|((with_reducible refine gT 3 rfl ?_);refine bX 3 ?_;intro gb109 hg w44 hbox hb;have BK109:=mA hbox;have GW109:=gbpS HB hg;have GE109:=gbpS HB hg;replace HB:=spS HB hb;have NB108_109:=mA (lN (blk_lt (pK BK108.out)) hg);have hN108_109:=NB108_109.out;have NB109_108:=nS NB108_109;have hN109_108:=NB109_108.out;replace BK108:=bK BK108 hb;clear hb hbox hg;have hcz46_0:=fun i_=>blk_cell BK108.out i_;have hfz46_0:=fun i_=>blk_frozen BK108.out i_;have hcz47_0:=fun i_=>blk_cell BK109.out i_;have hfz47_0:=fun i_=>blk_frozen BK109.out i_)|((with_reducible refine gT 24 rfl ?_);refine gC (some 24) Try.func80 (laws_eqCmd.calls A6.out) ?_;rintro e w48 ⟨rfl,hb⟩;refine ⟨_,rfl,?_⟩;replace BK108:=bK BK108 hb;replace BK109:=bK BK109 hb;replace HB:=spS HB hb;(try clear hb)))
     go_ret
     exact rZ (pS HB.out)
   ·rw [if_neg c5] at H;have c5b0:(a0_2 == a1_2)=false:=beq_eq_false_iff_ne.mpr c5;have c5b1:(a0_2 != a1_2)=true:=bne_iff_ne.mpr c5;obtain rfl:=Option.some.inj H
    go_enter Try.func34,Try.ntmps34
    go_wp2_with (first|((with_reducible refine gLg rfl (by assumption) ?_);refine ldV ?_)|((with_reducible refine gSt rfl (by assumption) ?_);refine stV ?_)|((with_reducible refine gT 2 rfl ?_);refine bX 2 ?_;intro gb108 hg w49 hbox hb;have BK108:=mA hbox;have GW108:=gbpB HB hg;have GE108:=gbpB HB hg;replace HB:=spB HB hb;clear hb hbox hg)|((with_reducible refine gT 3 rfl ?_);refine bX 3 ?_;intro gb109 hg w50 hbox hb;have BK109:=mA hbox;have GW109:=gbpS HB hg;have GE109:=gbpS HB hg;replace HB:=spS HB hb;have NB108_109:=mA (lN (blk_lt (pK BK108.out)) hg);have hN108_109:=NB108_109.out;have NB109_108:=nS NB108_109;have hN109_108:=NB109_108.out;replace BK108:=bK BK108 hb;clear hb hbox hg;have hcz52_0:=fun i_=>blk_cell BK108.out i_;have hfz52_0:=fun i_=>blk_frozen BK108.out i_;have hcz53_0:=fun i_=>blk_cell BK109.out i_;have hfz53_0:=fun i_=>blk_frozen BK109.out i_))
    go_ret
    exact rZ (pS HB.out)
  ·rw [if_neg c4] at H;have c4b0:(a0_1 == a1_1)=false:=beq_eq_false_iff_ne.mpr c4;have c4b1:(a0_1 != a1_1)=true:=bne_iff_ne.mpr c4;obtain rfl:=Option.some.inj H
   go_enter Try.func34,Try.ntmps34
   go_wp2_with (first|((with_reducible refine gLg rfl (by assumption) ?_);refine ldV ?_)|((with_reducible refine gSt rfl (by assumption) ?_);refine stV ?_)|((with_reducible refine gT 2 rfl ?_);refine bX 2 ?_;intro gb108 hg w54 hbox hb;have BK108:=mA hbox;have GW108:=gbpB HB hg;have GE108:=gbpB HB hg;replace HB:=spB HB hb;clear hb hbox hg)|((with_reducible refine gT 3 rfl ?_);refine bX 3 ?_;intro gb109 hg w55 hbox hb;have BK109:=mA hbox;have GW109:=gbpS HB hg;have GE109:=gbpS HB hg;replace HB:=spS HB hb;have NB108_109:=mA (lN (blk_lt (pK BK108.out)) hg);have hN108_109:=NB108_109.out;have NB109_108:=nS NB108_109;have hN109_108:=NB109_108.out;replace BK108:=bK BK108 hb;clear hb hbox hg;have hcz57_0:=fun i_=>blk_cell BK108.out i_;have hfz57_0:=fun i_=>blk_frozen BK108.out i_;have hcz58_0:=fun i_=>blk_cell BK109.out i_;have hfz58_0:=fun i_=>blk_frozen BK109.out i_))
   go_ret
   exact rZ (pS HB.out)
 ·rw [if_neg c3] at H;have c3b0:(a0_0 == a1_0)=false:=beq_eq_false_iff_ne.mpr c3;have c3b1:(a0_0 != a1_0)=true:=bne_iff_ne.mpr c3;obtain rfl:=Option.some.inj H
  go_enter Try.func34,Try.ntmps34
  go_wp2_with (first|((with_reducible refine gLg rfl (by assumption) ?_);refine ldV ?_)|((with_reducible refine gSt rfl (by assumption) ?_);refine stV ?_)|((with_reducible refine gT 2 rfl ?_);refine bX 2 ?_;intro gb108 hg w59 hbox hb;have BK108:=mA hbox;have GW108:=gbpB HB hg;have GE108:=gbpB HB hg;replace HB:=spB HB hb;clear hb hbox hg)|((with_reducible refine gT 3 rfl ?_);refine bX 3 ?_;intro gb109 hg w60 hbox hb;have BK109:=mA hbox;have GW109:=gbpS HB hg;have GE109:=gbpS HB hg;replace HB:=spS HB hb;have NB108_109:=mA (lN (blk_lt (pK BK108.out)) hg);have hN108_109:=NB108_109.out;have NB109_108:=nS NB108_109;have hN109_108:=NB109_108.out;replace BK108:=bK BK108 hb;clear hb hbox hg;have hcz62_0:=fun i_=>blk_cell BK108.out i_;have hfz62_0:=fun i_=>blk_frozen BK108.out i_;have hcz63_0:=fun i_=>blk_cell BK109.out i_;have hfz63_0:=fun i_=>blk_frozen BK109.out i_))
  go_ret
  exact rZ (pS HB.out)

/-! ### spec_l6In: function 67 -/
def spec_l6In.f (a0 a1 a2 : Int) : Option (Bool) := if a0 ≥ a1 then (some (decide (a0 ≤ a2))) else (some false)
set_option maxHeartbeats 8000000 in
set_option maxRecDepth 100000 in
theorem spec_l6In.calls {a0 a1 a2 : Int} {r : Bool} {w : World} (h : spec_l6In.f a0 a1 a2 = some r) :
  Calls Try.prog 67 #[.int .i64 a0,.int .i64 a1,.int .i64 a2] w fun e w'=>e=.returned (.bool r)∧Drawn0 w w':=by
 have H:(if a0 ≥ a1 then (some (decide (a0≤a2))) else (some false))=some r:=h;clear h
 by_cases c4:a0 ≥ a1
 ·rw [if_pos c4] at H;have c4b0:decide (a1≤a0)=true:=decide_eq_true c4;clear c4;obtain rfl:=Option.some.inj H
  go_enter Try.func67,Try.ntmps67
  go_wp2
  go_ret
  exact ⟨by first|rfl|(simp;done)|(simp [*];done),by repeat (first|exact Drawn0.refl _|apply Drawn0.step)⟩
 ·rw [if_neg c4] at H;have c4b0:decide (a1≤a0)=false:=decide_eq_false c4;clear c4;obtain rfl:=Option.some.inj H
  go_enter Try.func67,Try.ntmps67
  go_wp2
  go_ret
  exact ⟨by first|rfl|(simp;done)|(simp [*];done),by repeat (first|exact Drawn0.refl _|apply Drawn0.step)⟩

/-! ### spec_l11Num: function 66 -/
def spec_l11Num.f (a0 : Int) : Option (Bool) := (spec_l6In.f a0 (-1) 99999).bind fun t113 => (some t113)
set_option maxHeartbeats 8000000 in
set_option maxRecDepth 100000 in
theorem spec_l11Num.calls {a0 : Int} {r : Bool} {w : World} (h : spec_l11Num.f a0 = some r) :
  Calls Try.prog 66 #[.int .i64 a0] w fun e w'=>e=.returned (.bool r)∧Drawn0 w w':=by
 have H:((spec_l6In.f a0 (-1) 99999).bind fun t113=>(some t113))=some r:=h;clear h;obtain ⟨t113,A2,H⟩:=bI H;(try dsimp only at H);obtain rfl:=Option.some.inj H
 go_enter Try.func66,Try.ntmps66
 go_wp2_with (first|((with_reducible refine gT 4 rfl ?_);refine gC (some 4) Try.func67 (spec_l6In.calls A2.out) ?_;rintro e w' ⟨rfl,⟨nd,rfl⟩⟩;refine ⟨_,rfl,?_⟩))
 go_ret
 exact ⟨by first|rfl|(simp;done)|(simp [*];done),by repeat (first|exact Drawn0.refl _|apply Drawn0.step)⟩

/-! ### spec_l11CmdOk: function 69 -/
def spec_l11CmdOk.f (a0_0 a0_1 a0_2 a0_3 a0_4 a0_5 a0_6 a0_7 a0_8 a0_9 : Int) : Option (Bool) := (spec_l6In.f a0_0 0 7).bind fun t115 => (if t115 = true then ((spec_l11Num.f a0_1).bind fun t116 => (if t116 = true then ((spec_l11Num.f a0_2).bind fun t117 => (if t117 = true then ((spec_l11Num.f a0_3).bind fun t118 => (if t118 = true then ((spec_l11Num.f a0_4).bind fun t119 => (if t119 = true then ((spec_l11Num.f a0_5).bind fun t120 => (if t120 = true then ((spec_l11Num.f a0_6).bind fun t121 => (if t121 = true then ((spec_l11Num.f a0_7).bind fun t122 => (if t122 = true then ((spec_l11Num.f a0_8).bind fun t123 => (if t123 = true then ((spec_l11Num.f a0_9).bind fun t124 => (some t124)) else (some false))) else (some false))) else (some false))) else (some false))) else (some false))) else (some false))) else (some false))) else (some false))) else (some false))
set_option maxHeartbeats 8000000 in
set_option maxRecDepth 100000 in
theorem spec_l11CmdOk.calls {a0_0 a0_1 a0_2 a0_3 a0_4 a0_5 a0_6 a0_7 a0_8 a0_9 : Int} {r : Bool} {w : World} (h : spec_l11CmdOk.f a0_0 a0_1 a0_2 a0_3 a0_4 a0_5 a0_6 a0_7 a0_8 a0_9 = some r) :
  Calls Try.prog 69 #[.agg #[.int .i64 a0_0,.int .i64 a0_1,.int .i64 a0_2,.int .i64 a0_3,.int .i64 a0_4,.int .i64 a0_5,.int .i64 a0_6,.int .i64 a0_7,.int .i64 a0_8,.int .i64 a0_9]] w fun e w'=>e=.returned (.bool r)∧Below w.heap.size w w':=by
 have hu24:=Try.underlying24;have HB:=mA (Below.refl w.heap.size w);have H:((spec_l6In.f a0_0 0 7).bind fun t115=>(if t115=true then ((spec_l11Num.f a0_1).bind fun t116=>(if t116=true then ((spec_l11Num.f a0_2).bind fun t117=>(if t117=true then ((spec_l11Num.f a0_3).bind fun t118=>(if t118=true then ((spec_l11Num.f a0_4).bind fun t119=>(if t119=true then ((spec_l11Num.f a0_5).bind fun t120=>(if t120=true then ((spec_l11Num.f a0_6).bind fun t121=>(if t121=true then ((spec_l11Num.f a0_7).bind fun t122=>(if t122=true then ((spec_l11Num.f a0_8).bind fun t123=>(if t123=true then ((spec_l11Num.f a0_9).bind fun t124=>(some t124)) else (some false))) else (some false))) else (some false))) else (some false))) else (some false))) else (some false))) else (some false))) else (some false))) else (some false)))=some r:=h;clear h;obtain ⟨t115,A2,H⟩:=bI H;(try dsimp only at H)
 by_cases c3:t115=true
 ·subst c3;rw [if_pos rfl] at H;obtain ⟨t116,A4,H⟩:=bI H;(try dsimp only at H)
  by_cases c5:t116=true
  ·subst c5;rw [if_pos rfl] at H;obtain ⟨t117,A6,H⟩:=bI H;(try dsimp only at H)
   by_cases c7:t117=true
   ·subst c7;rw [if_pos rfl] at H;obtain ⟨t118,A8,H⟩:=bI H;(try dsimp only at H)
    by_cases c9:t118=true
    ·subst c9;rw [if_pos rfl] at H;obtain ⟨t119,A10,H⟩:=bI H;(try dsimp only at H)
     by_cases c11:t119=true
     ·subst c11;rw [if_pos rfl] at H;obtain ⟨t120,A12,H⟩:=bI H;(try dsimp only at H)
      by_cases c13:t120=true
      ·subst c13;rw [if_pos rfl] at H;obtain ⟨t121,A14,H⟩:=bI H;(try dsimp only at H)
       by_cases c15:t121=true
       ·subst c15;rw [if_pos rfl] at H;obtain ⟨t122,A16,H⟩:=bI H;(try dsimp only at H)
        by_cases c17:t122=true
        ·subst c17;rw [if_pos rfl] at H;obtain ⟨t123,A18,H⟩:=bI H;(try dsimp only at H)
         by_cases c19:t123=true
         ·subst c19;rw [if_pos rfl] at H;obtain ⟨t124,A20,H⟩:=bI H;(try dsimp only at H);obtain rfl:=Option.some.inj H
          go_enter Try.func69,Try.ntmps69
          go_wp2_with (first|((with_reducible refine gLg rfl (by assumption) ?_);refine ldV ?_)|((with_reducible refine gSt rfl (by assumption) ?_);refine stV ?_)|((with_reducible refine gT 1 rfl ?_);refine bX 1 ?_;intro gb114 hg w21 hbox hb;have BK114:=mA hbox;have GW114:=gbpB HB hg;have GE114:=gbpB HB hg;replace HB:=spB HB hb;clear hb hbox hg;have hcz22_0:=fun i_=>blk_cell BK114.out i_;have hfz22_0:=fun i_=>blk_frozen BK114.out i_)|((with_reducible refine gT 5 rfl ?_);refine gC (some 5) Try.func67 (spec_l6In.calls A2.out) ?_;rintro e w' ⟨rfl,⟨nd,rfl⟩⟩;refine ⟨_,rfl,?_⟩)|(go_at_call 66;(with_reducible refine (spec_l11Num.calls A4.out).mono ?_);rintro e w' ⟨rfl,⟨nd,rfl⟩⟩)|(go_at_call 66;(with_reducible refine (spec_l11Num.calls A6.out).mono ?_);rintro e w' ⟨rfl,⟨nd,rfl⟩⟩)|(go_at_call 66;(with_reducible refine (spec_l11Num.calls A8.out).mono ?_);rintro e w' ⟨rfl,⟨nd,rfl⟩⟩)|(go_at_call 66;(with_reducible refine (spec_l11Num.calls A10.out).mono ?_);rintro e w' ⟨rfl,⟨nd,rfl⟩⟩)|(go_at_call 66;(with_reducible refine (spec_l11Num.calls A12.out).mono ?_);rintro e w' ⟨rfl,⟨nd,rfl⟩⟩)|(go_at_call 66;(with_reducible refine (spec_l11Num.calls A14.out).mono ?_);rintro e w' ⟨rfl,⟨nd,rfl⟩⟩)|(go_at_call 66;(with_reducible refine (spec_l11Num.calls A16.out).mono ?_);rintro e w' ⟨rfl,⟨nd,rfl⟩⟩)|(go_at_call 66;(with_reducible refine (spec_l11Num.calls A18.out).mono ?_);rintro e w' ⟨rfl,⟨nd,rfl⟩⟩)|(go_at_call 66;(with_reducible refine (spec_l11Num.calls A20.out).mono ?_);rintro e w' ⟨rfl,⟨nd,rfl⟩⟩))
          go_ret
          exact rZ (pS HB.out)
         ·replace c19:=Bool.eq_false_iff.mpr c19;subst c19
          rw [if_neg nFT] at H
          obtain rfl:=Option.some.inj H
          go_enter Try.func69,Try.ntmps69
          go_wp2_with (first|((with_reducible refine gLg rfl (by assumption) ?_);refine ldV ?_)|((with_reducible refine gSt rfl (by assumption) ?_);refine stV ?_)|((with_reducible refine gT 1 rfl ?_);refine bX 1 ?_;intro gb114 hg w23 hbox hb;have BK114:=mA hbox;have GW114:=gbpB HB hg;have GE114:=gbpB HB hg;replace HB:=spB HB hb;clear hb hbox hg;have hcz24_0:=fun i_=>blk_cell BK114.out i_;have hfz24_0:=fun i_=>blk_frozen BK114.out i_)|((with_reducible refine gT 5 rfl ?_);refine gC (some 5) Try.func67 (spec_l6In.calls A2.out) ?_;rintro e w' ⟨rfl,⟨nd,rfl⟩⟩;refine ⟨_,rfl,?_⟩)|(go_at_call 66;(with_reducible refine (spec_l11Num.calls A4.out).mono ?_);rintro e w' ⟨rfl,⟨nd,rfl⟩⟩)|(go_at_call 66;(with_reducible refine (spec_l11Num.calls A6.out).mono ?_);rintro e w' ⟨rfl,⟨nd,rfl⟩⟩)|(go_at_call 66;(with_reducible refine (spec_l11Num.calls A8.out).mono ?_);rintro e w' ⟨rfl,⟨nd,rfl⟩⟩)|(go_at_call 66;(with_reducible refine (spec_l11Num.calls A10.out).mono ?_);rintro e w' ⟨rfl,⟨nd,rfl⟩⟩)|(go_at_call 66;(with_reducible refine (spec_l11Num.calls A12.out).mono ?_);rintro e w' ⟨rfl,⟨nd,rfl⟩⟩)|(go_at_call 66;(with_reducible refine (spec_l11Num.calls A14.out).mono ?_);rintro e w' ⟨rfl,⟨nd,rfl⟩⟩)|(go_at_call 66;(with_reducible refine (spec_l11Num.calls A16.out).mono ?_);rintro e w' ⟨rfl,⟨nd,rfl⟩⟩)|(go_at_call 66;(with_reducible refine (spec_l11Num.calls A18.out).mono ?_);rintro e w' ⟨rfl,⟨nd,rfl⟩⟩))
          go_ret
          exact rZ (pS HB.out)
        ·replace c17:=Bool.eq_false_iff.mpr c17;subst c17
         rw [if_neg nFT] at H
         obtain rfl:=Option.some.inj H
         go_enter Try.func69,Try.ntmps69
         go_wp2_with (first|((with_reducible refine gLg rfl (by assumption) ?_);refine ldV ?_)|((with_reducible refine gSt rfl (by assumption) ?_);refine stV ?_)|((with_reducible refine gT 1 rfl ?_);refine bX 1 ?_;intro gb114 hg w25 hbox hb;have BK114:=mA hbox;have GW114:=gbpB HB hg;have GE114:=gbpB HB hg;replace HB:=spB HB hb;clear hb hbox hg;have hcz26_0:=fun i_=>blk_cell BK114.out i_;have hfz26_0:=fun i_=>blk_frozen BK114.out i_)|((with_reducible refine gT 5 rfl ?_);refine gC (some 5) Try.func67 (spec_l6In.calls A2.out) ?_;rintro e w' ⟨rfl,⟨nd,rfl⟩⟩;refine ⟨_,rfl,?_⟩)|(go_at_call 66;(with_reducible refine (spec_l11Num.calls A4.out).mono ?_);rintro e w' ⟨rfl,⟨nd,rfl⟩⟩)|(go_at_call 66;(with_reducible refine (spec_l11Num.calls A6.out).mono ?_);rintro e w' ⟨rfl,⟨nd,rfl⟩⟩)|(go_at_call 66;(with_reducible refine (spec_l11Num.calls A8.out).mono ?_);rintro e w' ⟨rfl,⟨nd,rfl⟩⟩)|(go_at_call 66;(with_reducible refine (spec_l11Num.calls A10.out).mono ?_);rintro e w' ⟨rfl,⟨nd,rfl⟩⟩)|(go_at_call 66;(with_reducible refine (spec_l11Num.calls A12.out).mono ?_);rintro e w' ⟨rfl,⟨nd,rfl⟩⟩)|(go_at_call 66;(with_reducible refine (spec_l11Num.calls A14.out).mono ?_);rintro e w' ⟨rfl,⟨nd,rfl⟩⟩)|(go_at_call 66;(with_reducible refine (spec_l11Num.calls A16.out).mono ?_);rintro e w' ⟨rfl,⟨nd,rfl⟩⟩))
         go_ret
         exact rZ (pS HB.out)
       ·replace c15:=Bool.eq_false_iff.mpr c15;subst c15
        rw [if_neg nFT] at H
        obtain rfl:=Option.some.inj H
        go_enter Try.func69,Try.ntmps69
        go_wp2_with (first|((with_reducible refine gLg rfl (by assumption) ?_);refine ldV ?_)|((with_reducible refine gSt rfl (by assumption) ?_);refine stV ?_)|((with_reducible refine gT 1 rfl ?_);refine bX 1 ?_;intro gb114 hg w27 hbox hb;have BK114:=mA hbox;have GW114:=gbpB HB hg;have GE114:=gbpB HB hg;replace HB:=spB HB hb;clear hb hbox hg;have hcz28_0:=fun i_=>blk_cell BK114.out i_;have hfz28_0:=fun i_=>blk_frozen BK114.out i_)|((with_reducible refine gT 5 rfl ?_);refine gC (some 5) Try.func67 (spec_l6In.calls A2.out) ?_;rintro e w' ⟨rfl,⟨nd,rfl⟩⟩;refine ⟨_,rfl,?_⟩)|(go_at_call 66;(with_reducible refine (spec_l11Num.calls A4.out).mono ?_);rintro e w' ⟨rfl,⟨nd,rfl⟩⟩)|(go_at_call 66;(with_reducible refine (spec_l11Num.calls A6.out).mono ?_);rintro e w' ⟨rfl,⟨nd,rfl⟩⟩)|(go_at_call 66;(with_reducible refine (spec_l11Num.calls A8.out).mono ?_);rintro e w' ⟨rfl,⟨nd,rfl⟩⟩)|(go_at_call 66;(with_reducible refine (spec_l11Num.calls A10.out).mono ?_);rintro e w' ⟨rfl,⟨nd,rfl⟩⟩)|(go_at_call 66;(with_reducible refine (spec_l11Num.calls A12.out).mono ?_);rintro e w' ⟨rfl,⟨nd,rfl⟩⟩)|(go_at_call 66;(with_reducible refine (spec_l11Num.calls A14.out).mono ?_);rintro e w' ⟨rfl,⟨nd,rfl⟩⟩))
        go_ret
        exact rZ (pS HB.out)
      ·replace c13:=Bool.eq_false_iff.mpr c13;subst c13
       rw [if_neg nFT] at H
       obtain rfl:=Option.some.inj H
       go_enter Try.func69,Try.ntmps69
       go_wp2_with (first|((with_reducible refine gLg rfl (by assumption) ?_);refine ldV ?_)|((with_reducible refine gSt rfl (by assumption) ?_);refine stV ?_)|((with_reducible refine gT 1 rfl ?_);refine bX 1 ?_;intro gb114 hg w29 hbox hb;have BK114:=mA hbox;have GW114:=gbpB HB hg;have GE114:=gbpB HB hg;replace HB:=spB HB hb;clear hb hbox hg;have hcz30_0:=fun i_=>blk_cell BK114.out i_;have hfz30_0:=fun i_=>blk_frozen BK114.out i_)|((with_reducible refine gT 5 rfl ?_);refine gC (some 5) Try.func67 (spec_l6In.calls A2.out) ?_;rintro e w' ⟨rfl,⟨nd,rfl⟩⟩;refine ⟨_,rfl,?_⟩)|(go_at_call 66;(with_reducible refine (spec_l11Num.calls A4.out).mono ?_);rintro e w' ⟨rfl,⟨nd,rfl⟩⟩)|(go_at_call 66;(with_reducible refine (spec_l11Num.calls A6.out).mono ?_);rintro e w' ⟨rfl,⟨nd,rfl⟩⟩)|(go_at_call 66;(with_reducible refine (spec_l11Num.calls A8.out).mono ?_);rintro e w' ⟨rfl,⟨nd,rfl⟩⟩)|(go_at_call 66;(with_reducible refine (spec_l11Num.calls A10.out).mono ?_);rintro e w' ⟨rfl,⟨nd,rfl⟩⟩)|(go_at_call 66;(with_reducible refine (spec_l11Num.calls A12.out).mono ?_);rintro e w' ⟨rfl,⟨nd,rfl⟩⟩))
       go_ret
       exact rZ (pS HB.out)
     ·replace c11:=Bool.eq_false_iff.mpr c11;subst c11
      rw [if_neg nFT] at H
      obtain rfl:=Option.some.inj H
      go_enter Try.func69,Try.ntmps69
      go_wp2_with (first|((with_reducible refine gLg rfl (by assumption) ?_);refine ldV ?_)|((with_reducible refine gSt rfl (by assumption) ?_);refine stV ?_)|((with_reducible refine gT 1 rfl ?_);refine bX 1 ?_;intro gb114 hg w31 hbox hb;have BK114:=mA hbox;have GW114:=gbpB HB hg;have GE114:=gbpB HB hg;replace HB:=spB HB hb;clear hb hbox hg;have hcz32_0:=fun i_=>blk_cell BK114.out i_;have hfz32_0:=fun i_=>blk_frozen BK114.out i_)|((with_reducible refine gT 5 rfl ?_);refine gC (some 5) Try.func67 (spec_l6In.calls A2.out) ?_;rintro e w' ⟨rfl,⟨nd,rfl⟩⟩;refine ⟨_,rfl,?_⟩)|(go_at_call 66;(with_reducible refine (spec_l11Num.calls A4.out).mono ?_);rintro e w' ⟨rfl,⟨nd,rfl⟩⟩)|(go_at_call 66;(with_reducible refine (spec_l11Num.calls A6.out).mono ?_);rintro e w' ⟨rfl,⟨nd,rfl⟩⟩)|(go_at_call 66;(with_reducible refine (spec_l11Num.calls A8.out).mono ?_);rintro e w' ⟨rfl,⟨nd,rfl⟩⟩)|(go_at_call 66;(with_reducible refine (spec_l11Num.calls A10.out).mono ?_);rintro e w' ⟨rfl,⟨nd,rfl⟩⟩))
      go_ret
      exact rZ (pS HB.out)
    ·replace c9:=Bool.eq_false_iff.mpr c9;subst c9
     rw [if_neg nFT] at H
     obtain rfl:=Option.some.inj H
     go_enter Try.func69,Try.ntmps69
     go_wp2_with (first|((with_reducible refine gLg rfl (by assumption) ?_);refine ldV ?_)|((with_reducible refine gSt rfl (by assumption) ?_);refine stV ?_)|((with_reducible refine gT 1 rfl ?_);refine bX 1 ?_;intro gb114 hg w33 hbox hb;have BK114:=mA hbox;have GW114:=gbpB HB hg;have GE114:=gbpB HB hg;replace HB:=spB HB hb;clear hb hbox hg;have hcz34_0:=fun i_=>blk_cell BK114.out i_;have hfz34_0:=fun i_=>blk_frozen BK114.out i_)|((with_reducible refine gT 5 rfl ?_);refine gC (some 5) Try.func67 (spec_l6In.calls A2.out) ?_;rintro e w' ⟨rfl,⟨nd,rfl⟩⟩;refine ⟨_,rfl,?_⟩)|(go_at_call 66;(with_reducible refine (spec_l11Num.calls A4.out).mono ?_);rintro e w' ⟨rfl,⟨nd,rfl⟩⟩)|(go_at_call 66;(with_reducible refine (spec_l11Num.calls A6.out).mono ?_);rintro e w' ⟨rfl,⟨nd,rfl⟩⟩)|(go_at_call 66;(with_reducible refine (spec_l11Num.calls A8.out).mono ?_);rintro e w' ⟨rfl,⟨nd,rfl⟩⟩))
     go_ret
     exact rZ (pS HB.out)
   ·replace c7:=Bool.eq_false_iff.mpr c7;subst c7
    rw [if_neg nFT] at H
    obtain rfl:=Option.some.inj H
    go_enter Try.func69,Try.ntmps69
    go_wp2_with (first|((with_reducible refine gLg rfl (by assumption) ?_);refine ldV ?_)|((with_reducible refine gSt rfl (by assumption) ?_);refine stV ?_)|((with_reducible refine gT 1 rfl ?_);refine bX 1 ?_;intro gb114 hg w35 hbox hb;have BK114:=mA hbox;have GW114:=gbpB HB hg;have GE114:=gbpB HB hg;replace HB:=spB HB hb;clear hb hbox hg;have hcz36_0:=fun i_=>blk_cell BK114.out i_;have hfz36_0:=fun i_=>blk_frozen BK114.out i_)|((with_reducible refine gT 5 rfl ?_);refine gC (some 5) Try.func67 (spec_l6In.calls A2.out) ?_;rintro e w' ⟨rfl,⟨nd,rfl⟩⟩;refine ⟨_,rfl,?_⟩)|(go_at_call 66;(with_reducible refine (spec_l11Num.calls A4.out).mono ?_);rintro e w' ⟨rfl,⟨nd,rfl⟩⟩)|(go_at_call 66;(with_reducible refine (spec_l11Num.calls A6.out).mono ?_);rintro e w' ⟨rfl,⟨nd,rfl⟩⟩))
    go_ret
    exact rZ (pS HB.out)
  ·replace c5:=Bool.eq_false_iff.mpr c5;subst c5
   rw [if_neg nFT] at H
   obtain rfl:=Option.some.inj H
   go_enter Try.func69,Try.ntmps69
   go_wp2_with (first|((with_reducible refine gLg rfl (by assumption) ?_);refine ldV ?_)|((with_reducible refine gSt rfl (by assumption) ?_);refine stV ?_)|((with_reducible refine gT 1 rfl ?_);refine bX 1 ?_;intro gb114 hg w37 hbox hb;have BK114:=mA hbox;have GW114:=gbpB HB hg;have GE114:=gbpB HB hg;replace HB:=spB HB hb;clear hb hbox hg;have hcz38_0:=fun i_=>blk_cell BK114.out i_;have hfz38_0:=fun i_=>blk_frozen BK114.out i_)|((with_reducible refine gT 5 rfl ?_);refine gC (some 5) Try.func67 (spec_l6In.calls A2.out) ?_;rintro e w' ⟨rfl,⟨nd,rfl⟩⟩;refine ⟨_,rfl,?_⟩)|(go_at_call 66;(with_reducible refine (spec_l11Num.calls A4.out).mono ?_);rintro e w' ⟨rfl,⟨nd,rfl⟩⟩))
   go_ret
   exact rZ (pS HB.out)
 ·replace c3:=Bool.eq_false_iff.mpr c3;subst c3
  rw [if_neg nFT] at H
  obtain rfl:=Option.some.inj H
  go_enter Try.func69,Try.ntmps69
  go_wp2_with (first|((with_reducible refine gLg rfl (by assumption) ?_);refine ldV ?_)|((with_reducible refine gSt rfl (by assumption) ?_);refine stV ?_)|((with_reducible refine gT 1 rfl ?_);refine bX 1 ?_;intro gb114 hg w39 hbox hb;have BK114:=mA hbox;have GW114:=gbpB HB hg;have GE114:=gbpB HB hg;replace HB:=spB HB hb;clear hb hbox hg;have hcz40_0:=fun i_=>blk_cell BK114.out i_;have hfz40_0:=fun i_=>blk_frozen BK114.out i_)|((with_reducible refine gT 5 rfl ?_);refine gC (some 5) Try.func67 (spec_l6In.calls A2.out) ?_;rintro e w' ⟨rfl,⟨nd,rfl⟩⟩;refine ⟨_,rfl,?_⟩))
  go_ret
  exact rZ (pS HB.out)

end Go.Proofs.Ytoieojmfkkidnaa.P
