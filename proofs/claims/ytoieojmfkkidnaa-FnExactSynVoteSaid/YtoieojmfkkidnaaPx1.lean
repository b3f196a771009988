-- printed by pprint.py (this session's program over the kit's printer) out of the translation. Lean checks it.
import Derived.Test.YtoieojmfkkidnaaPx0
namespace Go.Proofs.Ytoieojmfkkidnaa.P
open Go.RowKit Go.Proofs.YtoieojmfkkidnaaX Go.Proofs.YtoieojmfkkidnaaW.PrintWords Go.Proofs.YtoieojmfkkidnaaW.PrintLast Go.Proofs.YtoieojmfkkidnaaW.PrintMore
attribute [local go_sem] max2_int min2_int max_two min_two max_three min_three max_four min_four   -- for this text's walks alone
set_option linter.unusedVariables false
set_option linter.unusedSimpArgs false
/-! ### laws_szBlkPieceS: function 63 -/
def laws_szBlkPieceS.f (l0 : List (S146)) (a1 : Int) : Option (Int) := if (wrap64 (a1 - (l0.length : Int))) < 0 then (some (-1)) else (some (wrap64 (a1 - (l0.length : Int))))
set_option maxHeartbeats 8000000 in
set_option maxRecDepth 100000 in
theorem laws_szBlkPieceS.calls {A0 : Option Addr} {c0 : Nat} {l0 : List (S146)} {a1 r : Int} {w : World} (hr0 : Kd.C k146 w A0 l0.length l0) (hc0 : l0.length ≤ c0) (h : laws_szBlkPieceS.f l0 a1 = some r) :
  Calls Try.prog 63 #[.slice A0 l0.length c0,.int .i64 a1] w fun e w'=>e=.returned (.int .i64 r)∧Drawn0 w w':=by
 have HR0:=mA hr0;have HC0:=mA hc0;clear hr0 hc0;have H:(if (wrap64 (a1 - (l0.length:Int)))<0 then (some (-1)) else (some (wrap64 (a1 - (l0.length:Int)))))=some r:=h;clear h
 by_cases c3:(wrap64 (a1 - (l0.length:Int)))<0
 ·rw [if_pos c3] at H;have c3b0:decide ((wrap64 (a1 - (l0.length:Int)))<0)=true:=decide_eq_true c3;clear c3;obtain rfl:=Option.some.inj H
  go_enter Try.func63,Try.ntmps63
  go_wp2
  go_ret
  exact ⟨by first|rfl|(simp;done)|(simp [*];done),by repeat (first|exact Drawn0.refl _|apply Drawn0.step)⟩
 ·rw [if_neg c3] at H;have c3b0:decide ((wrap64 (a1 - (l0.length:Int)))<0)=false:=decide_eq_false c3;clear c3;obtain rfl:=Option.some.inj H
  go_enter Try.func63,Try.ntmps63
  go_wp2
  go_ret
  exact ⟨by first|rfl|(simp;done)|(simp [*];done),by repeat (first|exact Drawn0.refl _|apply Drawn0.step)⟩
/-! ### laws_szBlkLastS: function 64 -/
def laws_szBlkLastS.f (l0 : List (S148)) (a1 : Int) : Option (Int) := if (wrap64 (a1 - (l0.length : Int))) < 0 then (some (-1)) else (some (wrap64 (a1 - (l0.length : Int))))
set_option maxHeartbeats 8000000 in
set_option maxRecDepth 100000 in
theorem laws_szBlkLastS.calls {A0 : Option Addr} {c0 : Nat} {l0 : List (S148)} {a1 r : Int} {w : World} (hr0 : Kd.C k148 w A0 l0.length l0) (hc0 : l0.length ≤ c0) (h : laws_szBlkLastS.f l0 a1 = some r) :
  Calls Try.prog 64 #[.slice A0 l0.length c0,.int .i64 a1] w fun e w'=>e=.returned (.int .i64 r)∧Drawn0 w w':=by
 have HR0:=mA hr0;have HC0:=mA hc0;clear hr0 hc0;have H:(if (wrap64 (a1 - (l0.length:Int)))<0 then (some (-1)) else (some (wrap64 (a1 - (l0.length:Int)))))=some r:=h;clear h
 by_cases c3:(wrap64 (a1 - (l0.length:Int)))<0
 ·rw [if_pos c3] at H;have c3b0:decide ((wrap64 (a1 - (l0.length:Int)))<0)=true:=decide_eq_true c3;clear c3;obtain rfl:=Option.some.inj H
  go_enter Try.func64,Try.ntmps64
  go_wp2
  go_ret
  exact ⟨by first|rfl|(simp;done)|(simp [*];done),by repeat (first|exact Drawn0.refl _|apply Drawn0.step)⟩
 ·rw [if_neg c3] at H;have c3b0:decide ((wrap64 (a1 - (l0.length:Int)))<0)=false:=decide_eq_false c3;clear c3;obtain rfl:=Option.some.inj H
  go_enter Try.func64,Try.ntmps64
  go_wp2
  go_ret
  exact ⟨by first|rfl|(simp;done)|(simp [*];done),by repeat (first|exact Drawn0.refl _|apply Drawn0.step)⟩
/-! ### laws_szWord: function 16 -/
def laws_szWord.f (a0_0 a0_1 a0_2 a0_3 a0_4 a0_5 a0_6 a0_7 a0_8 a0_9 a0_10 a0_11 a0_12 a0_13 a0_14 a0_15 a0_16 a0_17 a0_18 a0_19 a0_20 a0_21 a0_22 a0_23 : Int) (l0_24 : List (S146)) (l0_25 : List (S148)) (a1 : Int) : Option (Int) := (laws_szBlkPieceS.f l0_24 a1).bind fun t102 => (if t102 < 0 then (some (-1)) else ((laws_szBlkLastS.f l0_25 t102).bind fun t103 => (if t103 < 0 then (some (-1)) else (some t103))))
set_option maxHeartbeats 8000000 in
set_option maxRecDepth 100000 in
theorem laws_szWord.calls {a0_0 a0_1 a0_2 a0_3 a0_4 a0_5 a0_6 a0_7 a0_8 a0_9 a0_10 a0_11 a0_12 a0_13 a0_14 a0_15 a0_16 a0_17 a0_18 a0_19 a0_20 a0_21 a0_22 a0_23 : Int} {A0_24 : Option Addr} {c0_24 : Nat} {l0_24 : List (S146)} {A0_25 : Option Addr} {c0_25 : Nat} {l0_25 : List (S148)} {a1 r : Int} {w : World} (hr0_24 : Kd.C k146 w A0_24 l0_24.length l0_24) (hc0_24 : l0_24.length ≤ c0_24) (hr0_25 : Kd.C k148 w A0_25 l0_25.length l0_25) (hc0_25 : l0_25.length ≤ c0_25) (h : laws_szWord.f a0_0 a0_1 a0_2 a0_3 a0_4 a0_5 a0_6 a0_7 a0_8 a0_9 a0_10 a0_11 a0_12 a0_13 a0_14 a0_15 a0_16 a0_17 a0_18 a0_19 a0_20 a0_21 a0_22 a0_23 l0_24 l0_25 a1 = some r) :
  Calls Try.prog 16 #[.agg #[.int .i64 a0_0,.int .i64 a0_1,.int .i64 a0_2,.int .i64 a0_3,.int .i64 a0_4,.int .i64 a0_5,.int .i64 a0_6,.int .i64 a0_7,.int .i64 a0_8,.int .i64 a0_9,.int .i64 a0_10,.int .i64 a0_11,.int .i64 a0_12,.int .i64 a0_13,.int .i64 a0_14,.int .i64 a0_15,.int .i64 a0_16,.int .i64 a0_17,.int .i64 a0_18,.int .i64 a0_19,.int .i64 a0_20,.int .i64 a0_21,.int .i64 a0_22,.int .i64 a0_23,.slice A0_24 l0_24.length c0_24,.slice A0_25 l0_25.length c0_25],.int .i64 a1] w fun e w'=>e=.returned (.int .i64 r)∧Below w.heap.size w w':=by
 have hu36:=Try.underlying36;have HR0_24:=mA hr0_24;have HC0_24:=mA hc0_24;clear hr0_24 hc0_24;have HR0_25:=mA hr0_25;have HC0_25:=mA hc0_25;clear hr0_25 hc0_25;have HB:=mA (Below.refl w.heap.size w);have H:((laws_szBlkPieceS.f l0_24 a1).bind fun t102=>(if t102<0 then (some (-1)) else ((laws_szBlkLastS.f l0_25 t102).bind fun t103=>(if t103<0 then (some (-1)) else (some t103)))))=some r:=h;clear h;obtain ⟨t102,A3,H⟩:=bI H;(try dsimp only at H)
 by_cases c4:t102<0
 ·rw [if_pos c4] at H;have c4b0:decide (t102<0)=true:=decide_eq_true c4;clear c4;obtain rfl:=Option.some.inj H
  go_enter Try.func16,Try.ntmps16
  go_wp2_with (first|((with_reducible refine gLg rfl (by assumption) ?_);refine ldV ?_)|((with_reducible refine gSt rfl (by assumption) ?_);refine stV ?_)|((with_reducible refine gT 2 rfl ?_);refine bX 2 ?_;intro gb101 hg w5 hbox hb;have BK101:=mA hbox;have GW101:=gbpB HB hg;have GE101:=gbpB HB hg;replace HB:=spB HB hb;clear hb hbox hg;have hcz6_0:=fun i_=>blk_cell BK101.out i_;have hfz6_0:=fun i_=>blk_frozen BK101.out i_)|((with_reducible refine gT 8 rfl ?_);refine gC (some 8) Try.func63 (laws_szBlkPieceS.calls (cB HR0_24 HB) HC0_24.out A3.out) ?_;rintro e w' ⟨rfl,⟨nd,rfl⟩⟩;refine ⟨_,rfl,?_⟩))
  go_ret
  exact rZ (pS HB.out)
 ·rw [if_neg c4] at H;have c4b0:decide (t102<0)=false:=decide_eq_false c4;clear c4;obtain ⟨t103,A7,H⟩:=bI H;(try dsimp only at H)
  by_cases c8:t103<0
  ·rw [if_pos c8] at H;have c8b0:decide (t103<0)=true:=decide_eq_true c8;clear c8;obtain rfl:=Option.some.inj H
   go_enter Try.func16,Try.ntmps16
   go_wp2_with (first|((with_reducible refine gLg rfl (by assumption) ?_);refine ldV ?_)|((with_reducible refine gSt rfl (by assumption) ?_);refine stV ?_)|((with_reducible refine gT 2 rfl ?_);refine bX 2 ?_;intro gb101 hg w9 hbox hb;have BK101:=mA hbox;have GW101:=gbpB HB hg;have GE101:=gbpB HB hg;replace HB:=spB HB hb;clear hb hbox hg;have hcz10_0:=fun i_=>blk_cell BK101.out i_;have hfz10_0:=fun i_=>blk_frozen BK101.out i_)|((with_reducible refine gT 8 rfl ?_);refine gC (some 8) Try.func63 (laws_szBlkPieceS.calls (cB HR0_24 HB) HC0_24.out A3.out) ?_;rintro e w' ⟨rfl,⟨nd,rfl⟩⟩;refine ⟨_,rfl,?_⟩)|((with_reducible refine gT 14 rfl ?_);refine gC (some 14) Try.func64 (laws_szBlkLastS.calls (pC (Kd.C_below HR0_25.out (pS HB.out))) HC0_25.out A7.out) ?_;rintro e w' ⟨rfl,⟨nd,rfl⟩⟩;refine ⟨_,rfl,?_⟩))
   go_ret
   exact rZ (pS HB.out)
  ·rw [if_neg c8] at H;have c8b0:decide (t103<0)=false:=decide_eq_false c8;clear c8;obtain rfl:=Option.some.inj H
   go_enter Try.func16,Try.ntmps16
   go_wp2_with (first|((with_reducible refine gLg rfl (by assumption) ?_);refine ldV ?_)|((with_reducible refine gSt rfl (by assumption) ?_);refine stV ?_)|((with_reducible refine gT 2 rfl ?_);refine bX 2 ?_;intro gb101 hg w11 hbox hb;have BK101:=mA hbox;have GW101:=gbpB HB hg;have GE101:=gbpB HB hg;replace HB:=spB HB hb;clear hb hbox hg;have hcz12_0:=fun i_=>blk_cell BK101.out i_;have hfz12_0:=fun i_=>blk_frozen BK101.out i_)|((with_reducible refine gT 8 rfl ?_);refine gC (some 8) Try.func63 (laws_szBlkPieceS.calls (cB HR0_24 HB) HC0_24.out A3.out) ?_;rintro e w' ⟨rfl,⟨nd,rfl⟩⟩;refine ⟨_,rfl,?_⟩)|((with_reducible refine gT 14 rfl ?_);refine gC (some 14) Try.func64 (laws_szBlkLastS.calls (pC (Kd.C_below HR0_25.out (pS HB.out))) HC0_25.out A7.out) ?_;rintro e w' ⟨rfl,⟨nd,rfl⟩⟩;refine ⟨_,rfl,?_⟩))
   go_ret
   exact rZ (pS HB.out)
/-! ### laws_toCmd: function 36 -/
def laws_toCmd.f (a0_0 a0_1 a0_2 a0_3 a0_4 a0_5 a0_6 a0_7 a0_8 a0_9 : Int) : Option (Int × Int × Int × Int × Int × Int × Int × Int × Int × Int) := some (a0_0, a0_1, a0_2, a0_3, a0_4, a0_5, a0_6, a0_7, a0_8, a0_9)
set_option maxHeartbeats 8000000 in
set_option maxRecDepth 100000 in
theorem laws_toCmd.calls {a0_0 a0_1 a0_2 a0_3 a0_4 a0_5 a0_6 a0_7 a0_8 a0_9 r1 r2 r3 r4 r5 r6 r7 r8 r9 r10 : Int} {w : World} (h : laws_toCmd.f a0_0 a0_1 a0_2 a0_3 a0_4 a0_5 a0_6 a0_7 a0_8 a0_9 = some (r1, r2, r3, r4, r5, r6, r7, r8, r9, r10)) :
  Calls Try.prog 36 #[.agg #[.int .i64 a0_0,.int .i64 a0_1,.int .i64 a0_2,.int .i64 a0_3,.int .i64 a0_4,.int .i64 a0_5,.int .i64 a0_6,.int .i64 a0_7,.int .i64 a0_8,.int .i64 a0_9]] w fun e w'=>e=.returned (.agg #[.int .i64 r1,.int .i64 r2,.int .i64 r3,.int .i64 r4,.int .i64 r5,.int .i64 r6,.int .i64 r7,.int .i64 r8,.int .i64 r9,.int .i64 r10])∧Below w.heap.size w w':=by
 have hu32:=Try.underlying32;have hu24:=Try.underlying24;have HB:=mA (Below.refl w.heap.size w);have H:(some (a0_0,a0_1,a0_2,a0_3,a0_4,a0_5,a0_6,a0_7,a0_8,a0_9))=some (r1,r2,r3,r4,r5,r6,r7,r8,r9,r10):=h;clear h;simp only [Option.some.injEq,Prod.mk.injEq] at H;obtain ⟨rfl,rfl,rfl,rfl,rfl,rfl,rfl,rfl,rfl,rfl⟩:=H
 go_enter Try.func36,Try.ntmps36
 go_wp2_with (first|((with_reducible refine gLg rfl (by assumption) ?_);refine ldV ?_)|((with_reducible refine gSt rfl (by assumption) ?_);refine stV ?_)|((with_reducible refine gT 1 rfl ?_);refine bX 1 ?_;intro gb104 hg w2 hbox hb;have BK104:=mA hbox;have GW104:=gbpB HB hg;have GE104:=gbpB HB hg;replace HB:=spB HB hb;clear hb hbox hg)|((with_reducible refine gT 2 rfl ?_);refine bJ 2 y24 ?_;intro gb105 hg w3 hbox hb;have BK105:=mA hbox;have GW105:=gbpS HB hg;have GE105:=gbpS HB hg;replace HB:=spS HB hb;have NB104_105:=mA (lN (blk_lt (pK BK104.out)) hg);have hN104_105:=NB104_105.out;have NB105_104:=nS NB104_105;have hN105_104:=NB105_104.out;replace BK104:=bK BK104 hb;clear hb hbox hg)|((with_reducible refine gT 3 rfl ?_);refine bJ 3 y24 ?_;intro gb106 hg w4 hbox hb;have BK106:=mA hbox;have GW106:=gbpS HB hg;have GE106:=gbpS HB hg;replace HB:=spS HB hb;have NB104_106:=mA (lN (blk_lt (pK BK104.out)) hg);have hN104_106:=NB104_106.out;have NB106_104:=nS NB104_106;have hN106_104:=NB106_104.out;replace BK104:=bK BK104 hb;have NB105_106:=mA (lN (blk_lt (pK BK105.out)) hg);have hN105_106:=NB105_106.out;have NB106_105:=nS NB105_106;have hN106_105:=NB106_105.out;replace BK105:=bK BK105 hb;clear hb hbox hg;have hcz7_0:=fun i_=>blk_cell BK104.out i_;have hfz7_0:=fun i_=>blk_frozen BK104.out i_;have hcz9_0:=fun i_=>blk_cell BK106.out i_;have hfz9_0:=fun i_=>blk_frozen BK106.out i_;have hcz10_0:=fun i_=>blk_cell BK105.out i_;have hfz10_0:=fun i_=>blk_frozen BK105.out i_))
 refine bodyPost_ret (results_cell_row rfl _ _ gb105 24 #[.int .i64 a0_0,.int .i64 a0_1,.int .i64 a0_2,.int .i64 a0_3,.int .i64 a0_4,.int .i64 a0_5,.int .i64 a0_6,.int .i64 a0_7,.int .i64 a0_8,.int .i64 a0_9] (0,0) _ rfl (pP BK105) Try.underlying24 rfl aK) rfl ?_
 exact rZ (pS HB.out)
/-! ### laws_toBlkPiece: function 130 -/
def laws_toBlkPiece.f (a0_0 a0_1 a0_2 a0_3 : Int) : Option (Int × Int × Int × Int) := some (a0_0, a0_1, a0_2, a0_3)
set_option maxHeartbeats 8000000 in
set_option maxRecDepth 100000 in
theorem laws_toBlkPiece.calls {a0_0 a0_1 a0_2 a0_3 r1 r2 r3 r4 : Int} {w : World} (h : laws_toBlkPiece.f a0_0 a0_1 a0_2 a0_3 = some (r1, r2, r3, r4)) :
  Calls Try.prog 130 #[.agg #[.int .i64 a0_0,.int .i64 a0_1,.int .i64 a0_2,.int .i64 a0_3]] w fun e w'=>e=.returned (.agg #[.int .i64 r1,.int .i64 r2,.int .i64 r3,.int .i64 r4])∧Below w.heap.size w w':=by
 have hu146:=Try.underlying146;have hu138:=Try.underlying138;have HB:=mA (Below.refl w.heap.size w);have H:(some (a0_0,a0_1,a0_2,a0_3))=some (r1,r2,r3,r4):=h;clear h;simp only [Option.some.injEq,Prod.mk.injEq] at H;obtain ⟨rfl,rfl,rfl,rfl⟩:=H
 go_enter Try.func130,Try.ntmps130
 go_wp2_with (first|((with_reducible refine gT 1 rfl ?_);refine bX 1 ?_;intro gb107 hg w2 hbox hb;have BK107:=mA hbox;have GW107:=gbpB HB hg;have GE107:=gbpB HB hg;replace HB:=spB HB hb;clear hb hbox hg)|((with_reducible refine gT 2 rfl ?_);refine bJ 2 y138 ?_;intro gb108 hg w3 hbox hb;have BK108:=mA hbox;have GW108:=gbpS HB hg;have GE108:=gbpS HB hg;replace HB:=spS HB hb;have NB107_108:=mA (lN (blk_lt (pK BK107.out)) hg);have hN107_108:=NB107_108.out;have NB108_107:=nS NB107_108;have hN108_107:=NB108_107.out;replace BK107:=bK BK107 hb;clear hb hbox hg)|((with_reducible refine gT 3 rfl ?_);refine bJ 3 y138 ?_;intro gb109 hg w4 hbox hb;have BK109:=mA hbox;have GW109:=gbpS HB hg;have GE109:=gbpS HB hg;replace HB:=spS HB hb;have NB107_109:=mA (lN (blk_lt (pK BK107.out)) hg);have hN107_109:=NB107_109.out;have NB109_107:=nS NB107_109;have hN109_107:=NB109_107.out;replace BK107:=bK BK107 hb;have NB108_109:=mA (lN (blk_lt (pK BK108.out)) hg);have hN108_109:=NB108_109.out;have NB109_108:=nS NB108_109;have hN109_108:=NB109_108.out;replace BK108:=bK BK108 hb;clear hb hbox hg;obtain ⟨hcz7_0,hcz7_1,hcz7_2,hcz7_3,hfz7_0,hfz7_1,hfz7_2,hfz7_3⟩:=box4 BK107.out;obtain ⟨hcz9_0,hcz9_1,hcz9_2,hcz9_3,hfz9_0,hfz9_1,hfz9_2,hfz9_3⟩:=box4 BK109.out;obtain ⟨hcz10_0,hcz10_1,hcz10_2,hcz10_3,hfz10_0,hfz10_1,hfz10_2,hfz10_3⟩:=box4 BK108.out))
 refine bodyPost_ret (results_cell_row rfl _ _ gb108 138 #[.int .i64 a0_0,.int .i64 a0_1,.int .i64 a0_2,.int .i64 a0_3] (0,0) _ rfl (pP BK108) Try.underlying138 rfl aK) rfl ?_
 exact rZ (pS HB.out)
/-! ### laws_toBlkPieceS: function 72 -/
def laws_toBlkPieceS.l0 : Nat → List (S146) → List (S138) → Int → Option ((List (S138)))
 | 0,_,_,_=>none
 | k+1,x0,x3,x4=>if x4<(x0.length:Int) then (if 0≤x4 then ((laws_toBlkPiece.f ((rd_T146 x0 x4).f0) ((rd_T146 x0 x4).f1) ((rd_T146 x0 x4).f2) ((rd_T146 x0 x4).f3)).bind fun bt114=>(if x4<(x3.length:Int) then (laws_toBlkPieceS.l0 k x0 (x3.set (x4:Int).toNat (⟨bt114.1,bt114.2.1,bt114.2.2.1,bt114.2.2.2⟩:S138)) (wrap64 (x4+1))) else (none))) else (none)) else (some x3)
def laws_toBlkPieceS.f (k : Nat) (l0 : List (S146)) : Option ((List (S138))) := if 0 ≤ (l0.length : Int) then (if ((l0.length : Int) : Int).toNat ≤ 8796093022208 then (laws_toBlkPieceS.l0 k l0 (List.replicate ((l0.length : Int) : Int).toNat z138) 0) else (none)) else (none)
set_option maxHeartbeats 8000000 in
set_option maxRecDepth 100000 in
theorem laws_toBlkPieceS.calls {k : Nat} {A0 : Option Addr} {c0 : Nat} {l0 : List (S146)} {r : List (S138)} {w : World} (hr0 : Kd.C k146 w A0 l0.length l0) (hc0 : l0.length ≤ c0) (h : laws_toBlkPieceS.f k l0 = some r) :
  Calls Try.prog 72 #[.slice A0 l0.length c0] w fun e w'=>∃ v0_:Value,e=.returned (v0_)∧Kd.R k138 138 w' w.heap.size (fun _=>True) v0_ r∧Below w.heap.size w w':=by
 have hu146:=Try.underlying146;have hu138:=Try.underlying138;have HR0:=mA hr0;have HC0:=mA hc0;clear hr0 hc0;have HB:=mA (Below.refl w.heap.size w);have H:(if 0≤(l0.length:Int) then (if ((l0.length:Int):Int).toNat≤8796093022208 then (laws_toBlkPieceS.l0 k l0 (List.replicate ((l0.length:Int):Int).toNat z138) 0) else (none)) else (none))=some r:=h;clear h
 by_cases c2:0≤(l0.length:Int)
 ·rw [if_pos c2] at H;have c2b0:=eq_true c2;have c2b1:decide (0≤(l0.length:Int))=true:=decide_eq_true c2;clear c2
  by_cases c3:((l0.length:Int):Int).toNat≤8796093022208
  ·rw [if_pos c3] at H;have c3b0:=eq_true c3;have c3b1:decide (((l0.length:Int):Int).toNat≤8796093022208)=true:=decide_eq_true c3;clear c3;obtain ⟨y110,hy110⟩:∃ y_:List (S138),y_=(List.replicate ((l0.length:Int):Int).toNat z138):=⟨_,rfl⟩
   replace H:(laws_toBlkPieceS.l0 k l0 y110 0)=some r:=qH hy110 H
   have Ny110:=mA hy110;clear hy110;have H':=mA H;clear H
   go_enter Try.func72,Try.ntmps72
   go_wp2_with (first|((with_reducible refine gT 7 rfl ?_);refine Kd.R_make k138 _ 138 rfl (N:=7) rfl 25 _ _ rfl (l0.length:Int) rfl rfl Try.underlying25 (.agg #[(.int .i64 0),(.int .i64 0),(.int .i64 0),(.int .i64 0)]) 32 info138 rfl aD (by omega) z138 (ok:=fun _=>True) (okp:=fun _=>True) (k138_mkM _ _ _ z138 ) (fun _ hk=>hk) trivial (of_decide_eq_true bA) (Nat.le_trans (Nat.mul_le_mul_right _ (of_decide_eq_true bA:(l0.length:Int).toNat≤8796093022208)) (by omega)) (Below.refl _ _) (Nat.le_refl _) ?_;intro v111 w4 ho5 hb hg_ hnew_;clear hg_ hnew_;(first|rw [← Ny110.out] at ho5|(simp only [Int.reduceToNat] at ho5;rw [← Ny110.out] at ho5));have HO112:=mA (Kd.R_lower ho5 (bpB HB));replace HB:=spB HB hb;clear hb ho5))
   go_loopg [4] k (fun kq v4 w'=>∃ (x3_1:List (S138)) (x4_1:Int),v4=.int .i64 x4_1∧Aside0 (laws_toBlkPieceS.l0 kq l0 x3_1 x4_1=some r)∧Aside0 (kq≤k)∧Aside0 (Kd.R k138 138 w' w.heap.size (fun _=>True) v111 x3_1)∧Aside0 (Below w.heap.size w w'))
   case atStart=>exact ⟨(y110),(0),bZ,H',⟨Nat.le_refl _⟩,⟨pR HO112.out⟩,⟨pB HB.out⟩⟩
   case round =>
    clear H'
    (try clear c2);(try clear c2b0);(try clear c2b1);(try clear c3);(try clear c3b0);(try clear c3b1)
    obtain ⟨x3_1,x4_1,rfl,HA,HK1,HO_3,HB⟩:=hrel
    cases gk with
    | zero=>exact absurd HA.out (by simp [laws_toBlkPieceS.l0])
    | succ k1 =>
     have H:=HA.out;clear HA;simp only [laws_toBlkPieceS.l0] at H
     by_cases c6:x4_1<(l0.length:Int)
     ·rw [if_pos c6] at H;have c6b0:decide (x4_1<(l0.length:Int))=true:=decide_eq_true c6;clear c6
      by_cases c7:0≤x4_1
      ·rw [if_pos c7] at H;have c7b0:decide (0≤x4_1)=true:=decide_eq_true c7;clear c7;obtain ⟨⟨t114,t115,t116,t117⟩,A8,H⟩:=bI H;(try dsimp only at H)
       by_cases c9:x4_1<(x3_1.length:Int)
       ·rw [if_pos c9] at H;have c9b0:decide (x4_1<(x3_1.length:Int))=true:=decide_eq_true c9;clear c9;obtain ⟨y118,hy118⟩:∃ y_:List (S138),y_=(x3_1.set (x4_1:Int).toNat (⟨t114,t115,t116,t117⟩:S138)):=⟨_,rfl⟩
        replace H:(laws_toBlkPieceS.l0 k1 l0 y118 (wrap64 (x4_1+1)))=some r:=qH hy118 H
        have Ny118:=mA hy118;clear hy118;have H':=mA H;clear H;have p113:0≤(x4_1:Int):=of_decide_eq_true bA;have q113:x4_1<(l0.length:Int):=of_decide_eq_true bA;obtain ⟨ad113,e113,hx113_0,hx113_1,hx113_2,hx113_3⟩:=at_T146 HR0.out x4_1 p113 q113;cases e113;replace hx113_0:=hC HB hx113_0;replace hx113_1:=hC HB hx113_1;replace hx113_2:=hC HB hx113_2;replace hx113_3:=hC HB hx113_3;replace p113:=eq_true p113;replace q113:=eq_true q113
        go_wp2_with (first|((with_reducible refine gT 20 rfl ?_);refine gC (some 20) Try.func130 (laws_toBlkPiece.calls A8.out) ?_;rintro e w11 ⟨rfl,hb⟩;refine ⟨_,rfl,?_⟩;replace HO_3:=rB HO_3 hb;replace HB:=spB HB hb;(try clear hb);have p10:0≤(x4_1:Int):=of_decide_eq_true bA;have q10:(x4_1:Int)<((x3_1.length:Int):Int):=of_decide_eq_true bA;obtain ⟨go10,co10,eo10,gb10,gl10,cl10,HG10⟩:=Kd.R_form HO_3.out (by omega);(first|cases eo10|(injection eo10 with ea_ en_ ec_;(first|subst ea_|(injection ea_ with ea_;subst ea_));subst ec_;clear en_));have GB10:=mA gb10;have GG10:=mA HG10;clear gb10 gl10 HG10;replace p10:=eq_true p10;replace q10:=eq_true q10;have HX12:=mA (show Kd.R k138 138 w11 w.heap.size (fun _=>True) (.slice (some ⟨go10,0,none⟩) x3_1.length co10) x3_1 from (pR HO_3.out));obtain ⟨ce12,hcl12,hM12,hcc12,hfr12⟩:=Kd.R_elem HX12.out z138 (x4_1:Int) (of_decide_eq_true bA) (by have h_:(x4_1:Int)<((x3_1.length:Int):Int):=of_decide_eq_true bA;first|exact h_|(have e_:=(Kd.R_reads' HO_3.out).1;omega)|simpa using h_);obtain rfl:=k138_openM hM12;have HP12:=Kd.R_seg HX12.out (x4_1:Int) (of_decide_eq_true bA) (by have h_:(x4_1:Int)<((x3_1.length:Int):Int):=of_decide_eq_true bA;first|exact h_|(have e_:=(Kd.R_reads' HO_3.out).1;omega)|simpa using h_) (seg:=[.int .i64 t114,.int .i64 t115,.int .i64 t116,.int .i64 t117]) (j:=0) hcl12 hcc12 (show 4≤4 from by decide) (x':=(⟨t114,t115,t116,t117⟩:S138)) (k138_mkM _ _ _ (⟨t114,t115,t116,t117⟩:S138) ) (fun _ hk=>hk);have HCC12:=mA hcc12;clear hcl12 hcc12 hfr12 hM12)|((with_reducible refine gate_store (t:=138) (p:=21) rfl ?_);refine stR (p:=21) GG10 HCC12.out ?_;intro w13 hw;have hg:w11.grownBy w13 (some go10):=(by rw [hw];exact HP12.2);have hp_:Kd.R k138 138 w13 w.heap.size (fun _=>True) (.slice (some ⟨go10,0,none⟩) x3_1.length co10) y118:=(by rw [hw,Ny118.out];exact HP12.1);clear HP12;replace HO_3:=mA hp_;replace HB:=mA (by rw [hw];exact below_sets GB10.out _ _ (HB.out):Below w.heap.size w w13);clear hg hw hp_))
        go_roundg k1
        case measure=>have:=HK1.out;omega
        case rel=>exact ⟨(y118),(wrap64 (x4_1+1)),bZ,H',⟨by have:=HK1.out;omega⟩,⟨pR HO_3.out⟩,⟨pB HB.out⟩⟩
       ·rw [if_neg c9] at H
        exact absurd H (by simp)
      ·rw [if_neg c7] at H
       exact absurd H (by simp)
     ·rw [if_neg c6] at H;have c6b0:decide (x4_1<(l0.length:Int))=false:=decide_eq_false c6;clear c6;obtain rfl:=Option.some.inj H
      go_wp2
      go_ret
      exact ⟨_,by first|rfl|(simp [errW_none,errW_some]<;>rfl)|(simp [*,errW_none,errW_some]<;>rfl),pR HO_3.out,pB HB.out⟩
  ·rw [if_neg c3] at H
   exact absurd H (by simp)
 ·rw [if_neg c2] at H
  exact absurd H (by simp)
/-! ### laws_toBlkLast: function 131 -/
def laws_toBlkLast.f (a0_0 a0_1 : Int) : Option (Int × Int) := some (a0_0, a0_1)
set_option maxHeartbeats 8000000 in
set_option maxRecDepth 100000 in
theorem laws_toBlkLast.calls {a0_0 a0_1 r1 r2 : Int} {w : World} (h : laws_toBlkLast.f a0_0 a0_1 = some (r1, r2)) :
  Calls Try.prog 131 #[.agg #[.int .i64 a0_0,.int .i64 a0_1]] w fun e w'=>e=.returned (.agg #[.int .i64 r1,.int .i64 r2])∧Below w.heap.size w w':=by
 have hu148:=Try.underlying148;have hu140:=Try.underlying140;have HB:=mA (Below.refl w.heap.size w);have H:(some (a0_0,a0_1))=some (r1,r2):=h;clear h;simp only [Option.some.injEq,Prod.mk.injEq] at H;obtain ⟨rfl,rfl⟩:=H
 go_enter Try.func131,Try.ntmps131
 go_wp2_with (first|((with_reducible refine gT 1 rfl ?_);refine bE 1 #[.int .i64 a0_0,.int .i64 a0_1] 148 ?_;intro gb119 hg w2 hbox hb;have BK119:=mA hbox;have GW119:=gbpB HB hg;have GE119:=gbpB HB hg;replace HB:=spB HB hb;clear hb hbox hg)|((with_reducible refine gT 2 rfl ?_);refine bE 2 #[.int .i64 0,.int .i64 0] 140 ?_;intro gb120 hg w3 hbox hb;have BK120:=mA hbox;have GW120:=gbpS HB hg;have GE120:=gbpS HB hg;replace HB:=spS HB hb;have NB119_120:=mA (lN (blk_lt (pK BK119.out)) hg);have hN119_120:=NB119_120.out;have NB120_119:=nS NB119_120;have hN120_119:=NB120_119.out;replace BK119:=bK BK119 hb;clear hb hbox hg)|((with_reducible refine gT 3 rfl ?_);refine bE 3 #[.int .i64 0,.int .i64 0] 140 ?_;intro gb121 hg w4 hbox hb;have BK121:=mA hbox;have GW121:=gbpS HB hg;have GE121:=gbpS HB hg;replace HB:=spS HB hb;have NB119_121:=mA (lN (blk_lt (pK BK119.out)) hg);have hN119_121:=NB119_121.out;have NB121_119:=nS NB119_121;have hN121_119:=NB121_119.out;replace BK119:=bK BK119 hb;have NB120_121:=mA (lN (blk_lt (pK BK120.out)) hg);have hN120_121:=NB120_121.out;have NB121_120:=nS NB120_121;have hN121_120:=NB121_120.out;replace BK120:=bK BK120 hb;clear hb hbox hg;obtain ⟨hcz7_0,hcz7_1,hfz7_0,hfz7_1⟩:=box2 BK119.out;obtain ⟨hcz9_0,hcz9_1,hfz9_0,hfz9_1⟩:=box2 BK121.out;obtain ⟨hcz10_0,hcz10_1,hfz10_0,hfz10_1⟩:=box2 BK120.out))
 refine bodyPost_ret (results_cell_row rfl _ _ gb120 140 #[.int .i64 a0_0,.int .i64 a0_1] (0,0) _ rfl (pP BK120) Try.underlying140 rfl aK) rfl ?_
 exact rZ (pS HB.out)
/-! ### laws_toBlkLastS: function 73 -/
def laws_toBlkLastS.l0 : Nat → List (S148) → List (S140) → Int → Option ((List (S140)))
 | 0,_,_,_=>none
 | k+1,x0,x3,x4=>if x4<(x0.length:Int) then (if 0≤x4 then ((laws_toBlkLast.f ((rd_T148 x0 x4).f0) ((rd_T148 x0 x4).f1)).bind fun bt126=>(if x4<(x3.length:Int) then (laws_toBlkLastS.l0 k x0 (x3.set (x4:Int).toNat (⟨bt126.1,bt126.2⟩:S140)) (wrap64 (x4+1))) else (none))) else (none)) else (some x3)
def laws_toBlkLastS.f (k : Nat) (l0 : List (S148)) : Option ((List (S140))) := if 0 ≤ (l0.length : Int) then (if ((l0.length : Int) : Int).toNat ≤ 17592186044416 then (laws_toBlkLastS.l0 k l0 (List.replicate ((l0.length : Int) : Int).toNat z140) 0) else (none)) else (none)
set_option maxHeartbeats 8000000 in
set_option maxRecDepth 100000 in
theorem laws_toBlkLastS.calls {k : Nat} {A0 : Option Addr} {c0 : Nat} {l0 : List (S148)} {r : List (S140)} {w : World} (hr0 : Kd.C k148 w A0 l0.length l0) (hc0 : l0.length ≤ c0) (h : laws_toBlkLastS.f k l0 = some r) :
  Calls Try.prog 73 #[.slice A0 l0.length c0] w fun e w'=>∃ v0_:Value,e=.returned (v0_)∧Kd.R k140 140 w' w.heap.size (fun _=>True) v0_ r∧Below w.heap.size w w':=by
 have hu148:=Try.underlying148;have hu140:=Try.underlying140;have HR0:=mA hr0;have HC0:=mA hc0;clear hr0 hc0;have HB:=mA (Below.refl w.heap.size w);have H:(if 0≤(l0.length:Int) then (if ((l0.length:Int):Int).toNat≤17592186044416 then (laws_toBlkLastS.l0 k l0 (List.replicate ((l0.length:Int):Int).toNat z140) 0) else (none)) else (none))=some r:=h;clear h
 by_cases c2:0≤(l0.length:Int)
 ·rw [if_pos c2] at H;have c2b0:=eq_true c2;have c2b1:decide (0≤(l0.length:Int))=true:=decide_eq_true c2;clear c2
  by_cases c3:((l0.length:Int):Int).toNat≤17592186044416
  ·rw [if_pos c3] at H;have c3b0:=eq_true c3;have c3b1:decide (((l0.length:Int):Int).toNat≤17592186044416)=true:=decide_eq_true c3;clear c3;obtain ⟨y122,hy122⟩:∃ y_:List (S140),y_=(List.replicate ((l0.length:Int):Int).toNat z140):=⟨_,rfl⟩
   replace H:(laws_toBlkLastS.l0 k l0 y122 0)=some r:=qH hy122 H
   have Ny122:=mA hy122;clear hy122;have H':=mA H;clear H
   go_enter Try.func73,Try.ntmps73
   go_wp2_with (first|((with_reducible refine gT 7 rfl ?_);refine Kd.R_make k140 _ 140 rfl (N:=7) rfl 26 _ _ rfl (l0.length:Int) rfl rfl Try.underlying26 (.agg #[(.int .i64 0),(.int .i64 0)]) 16 info140 rfl aD (by omega) z140 (ok:=fun _=>True) (okp:=fun _=>True) (k140_mkM _ _ _ z140 ) (fun _ hk=>hk) trivial (of_decide_eq_true bA) (Nat.le_trans (Nat.mul_le_mul_right _ (of_decide_eq_true bA:(l0.length:Int).toNat≤17592186044416)) (by omega)) (Below.refl _ _) (Nat.le_refl _) ?_;intro v123 w4 ho5 hb hg_ hnew_;clear hg_ hnew_;(first|rw [← Ny122.out] at ho5|(simp only [Int.reduceToNat] at ho5;rw [← Ny122.out] at ho5));have HO124:=mA (Kd.R_lower ho5 (bpB HB));replace HB:=spB HB hb;clear hb ho5))
   go_loopg [4] k (fun kq v4 w'=>∃ (x3_1:List (S140)) (x4_1:Int),v4=.int .i64 x4_1∧Aside0 (laws_toBlkLastS.l0 kq l0 x3_1 x4_1=some r)∧Aside0 (kq≤k)∧Aside0 (Kd.R k140 140 w' w.heap.size (fun _=>True) v123 x3_1)∧Aside0 (Below w.heap.size w w'))
   case atStart=>exact ⟨(y122),(0),bZ,H',⟨Nat.le_refl _⟩,⟨pR HO124.out⟩,⟨pB HB.out⟩⟩
   case round =>
    clear H'
    (try clear c2);(try clear c2b0);(try clear c2b1);(try clear c3);(try clear c3b0);(try clear c3b1)
    obtain ⟨x3_1,x4_1,rfl,HA,HK1,HO_3,HB⟩:=hrel
    cases gk with
    | zero=>exact absurd HA.out (by simp [laws_toBlkLastS.l0])
    | succ k1 =>
     have H:=HA.out;clear HA;simp only [laws_toBlkLastS.l0] at H
     by_cases c6:x4_1<(l0.length:Int)
     ·rw [if_pos c6] at H;have c6b0:decide (x4_1<(l0.length:Int))=true:=decide_eq_true c6;clear c6
      by_cases c7:0≤x4_1
      ·rw [if_pos c7] at H;have c7b0:decide (0≤x4_1)=true:=decide_eq_true c7;clear c7;obtain ⟨⟨t126,t127⟩,A8,H⟩:=bI H;(try dsimp only at H)
       by_cases c9:x4_1<(x3_1.length:Int)
       ·rw [if_pos c9] at H;have c9b0:decide (x4_1<(x3_1.length:Int))=true:=decide_eq_true c9;clear c9;obtain ⟨y128,hy128⟩:∃ y_:List (S140),y_=(x3_1.set (x4_1:Int).toNat (⟨t126,t127⟩:S140)):=⟨_,rfl⟩
        replace H:(laws_toBlkLastS.l0 k1 l0 y128 (wrap64 (x4_1+1)))=some r:=qH hy128 H
        have Ny128:=mA hy128;clear hy128;have H':=mA H;clear H;have p125:0≤(x4_1:Int):=of_decide_eq_true bA;have q125:x4_1<(l0.length:Int):=of_decide_eq_true bA;obtain ⟨ad125,e125,hx125_0,hx125_1⟩:=at_T148 HR0.out x4_1 p125 q125;cases e125;replace hx125_0:=hC HB hx125_0;replace hx125_1:=hC HB hx125_1;replace p125:=eq_true p125;replace q125:=eq_true q125
        go_wp2_with (first|((with_reducible refine gT 20 rfl ?_);refine gC (some 20) Try.func131 (laws_toBlkLast.calls A8.out) ?_;rintro e w11 ⟨rfl,hb⟩;refine ⟨_,rfl,?_⟩;replace HO_3:=rB HO_3 hb;replace HB:=spB HB hb;(try clear hb);have p10:0≤(x4_1:Int):=of_decide_eq_true bA;have q10:(x4_1:Int)<((x3_1.length:Int):Int):=of_decide_eq_true bA;obtain ⟨go10,co10,eo10,gb10,gl10,cl10,HG10⟩:=Kd.R_form HO_3.out (by omega);(first|cases eo10|(injection eo10 with ea_ en_ ec_;(first|subst ea_|(injection ea_ with ea_;subst ea_));subst ec_;clear en_));have GB10:=mA gb10;have GG10:=mA HG10;clear gb10 gl10 HG10;replace p10:=eq_true p10;replace q10:=eq_true q10;have HX12:=mA (show Kd.R k140 140 w11 w.heap.size (fun _=>True) (.slice (some ⟨go10,0,none⟩) x3_1.length co10) x3_1 from (pR HO_3.out));obtain ⟨ce12,hcl12,hM12,hcc12,hfr12⟩:=Kd.R_elem HX12.out z140 (x4_1:Int) (of_decide_eq_true bA) (by have h_:(x4_1:Int)<((x3_1.length:Int):Int):=of_decide_eq_true bA;first|exact h_|(have e_:=(Kd.R_reads' HO_3.out).1;omega)|simpa using h_);obtain rfl:=k140_openM hM12;have HP12:=Kd.R_seg HX12.out (x4_1:Int) (of_decide_eq_true bA) (by have h_:(x4_1:Int)<((x3_1.length:Int):Int):=of_decide_eq_true bA;first|exact h_|(have e_:=(Kd.R_reads' HO_3.out).1;omega)|simpa using h_) (seg:=[.int .i64 t126,.int .i64 t127]) (j:=0) hcl12 hcc12 (show 2≤2 from by decide) (x':=(⟨t126,t127⟩:S140)) (k140_mkM _ _ _ (⟨t126,t127⟩:S140) ) (fun _ hk=>hk);have HCC12:=mA hcc12;clear hcl12 hcc12 hfr12 hM12)|((with_reducible refine gate_store (t:=140) (p:=21) rfl ?_);refine stR (p:=21) GG10 HCC12.out ?_;intro w13 hw;have hg:w11.grownBy w13 (some go10):=(by rw [hw];exact HP12.2);have hp_:Kd.R k140 140 w13 w.heap.size (fun _=>True) (.slice (some ⟨go10,0,none⟩) x3_1.length co10) y128:=(by rw [hw,Ny128.out];exact HP12.1);clear HP12;replace HO_3:=mA hp_;replace HB:=mA (by rw [hw];exact below_sets GB10.out _ _ (HB.out):Below w.heap.size w w13);clear hg hw hp_))
        go_roundg k1
        case measure=>have:=HK1.out;omega
        case rel=>exact ⟨(y128),(wrap64 (x4_1+1)),bZ,H',⟨by have:=HK1.out;omega⟩,⟨pR HO_3.out⟩,⟨pB HB.out⟩⟩
       ·rw [if_neg c9] at H
        exact absurd H (by simp)
      ·rw [if_neg c7] at H
       exact absurd H (by simp)
     ·rw [if_neg c6] at H;have c6b0:decide (x4_1<(l0.length:Int))=false:=decide_eq_false c6;clear c6;obtain rfl:=Option.some.inj H
      go_wp2
      go_ret
      exact ⟨_,by first|rfl|(simp [errW_none,errW_some]<;>rfl)|(simp [*,errW_none,errW_some]<;>rfl),pR HO_3.out,pB HB.out⟩
  ·rw [if_neg c3] at H
   exact absurd H (by simp)
 ·rw [if_neg c2] at H
  exact absurd H (by simp)
/-! ### laws_toWord: function 18 -/
def laws_toWord.f (k : Nat) (a0_0 a0_1 a0_2 a0_3 a0_4 a0_5 a0_6 a0_7 a0_8 a0_9 a0_10 a0_11 a0_12 a0_13 a0_14 a0_15 a0_16 a0_17 a0_18 a0_19 a0_20 a0_21 a0_22 a0_23 : Int) (l0_24 : List (S146)) (l0_25 : List (S148)) : Option (Int × Int × Int × Int × Int × Int × Int × Int × Int × Int × Int × Int × Int × Int × Int × Int × Int × Int × Int × Int × Int × Int × Int × Int × (List (S138)) × (List (S140))) := (laws_toCmd.f a0_6 a0_7 a0_8 a0_9 a0_10 a0_11 a0_12 a0_13 a0_14 a0_15).bind fun bt132 => ((laws_toBlkPieceS.f k l0_24).bind fun t142 => ((laws_toBlkLastS.f k l0_25).bind fun t145 => (some (a0_0, a0_1, a0_2, a0_3, a0_4, a0_5, bt132.1, bt132.2.1, bt132.2.2.1, bt132.2.2.2.1, bt132.2.2.2.2.1, bt132.2.2.2.2.2.1, bt132.2.2.2.2.2.2.1, bt132.2.2.2.2.2.2.2.1, bt132.2.2.2.2.2.2.2.2.1, bt132.2.2.2.2.2.2.2.2.2, a0_16, a0_17, a0_18, a0_19, a0_20, a0_21, a0_22, a0_23, t142, t145))))
set_option maxHeartbeats 8000000 in
set_option maxRecDepth 100000 in
theorem laws_toWord.calls {k : Nat} {a0_0 a0_1 a0_2 a0_3 a0_4 a0_5 a0_6 a0_7 a0_8 a0_9 a0_10 a0_11 a0_12 a0_13 a0_14 a0_15 a0_16 a0_17 a0_18 a0_19 a0_20 a0_21 a0_22 a0_23 : Int} {A0_24 : Option Addr} {c0_24 : Nat} {l0_24 : List (S146)} {A0_25 : Option Addr} {c0_25 : Nat} {l0_25 : List (S148)} {r1 r2 r3 r4 r5 r6 r7 r8 r9 r10 r11 r12 r13 r14 r15 r16 r17 r18 r19 r20 r21 r22 r23 r24 : Int} {r25 : List (S138)} {r26 : List (S140)} {w : World} (hr0_24 : Kd.C k146 w A0_24 l0_24.length l0_24) (hc0_24 : l0_24.length ≤ c0_24) (hr0_25 : Kd.C k148 w A0_25 l0_25.length l0_25) (hc0_25 : l0_25.length ≤ c0_25) (h : laws_toWord.f k a0_0 a0_1 a0_2 a0_3 a0_4 a0_5 a0_6 a0_7 a0_8 a0_9 a0_10 a0_11 a0_12 a0_13 a0_14 a0_15 a0_16 a0_17 a0_18 a0_19 a0_20 a0_21 a0_22 a0_23 l0_24 l0_25 = some (r1, r2, r3, r4, r5, r6, r7, r8, r9, r10, r11, r12, r13, r14, r15, r16, r17, r18, r19, r20, r21, r22, r23, r24, r25, r26)) :
  Calls Try.prog 18 #[.agg #[.int .i64 a0_0,.int .i64 a0_1,.int .i64 a0_2,.int .i64 a0_3,.int .i64 a0_4,.int .i64 a0_5,.int .i64 a0_6,.int .i64 a0_7,.int .i64 a0_8,.int .i64 a0_9,.int .i64 a0_10,.int .i64 a0_11,.int .i64 a0_12,.int .i64 a0_13,.int .i64 a0_14,.int .i64 a0_15,.int .i64 a0_16,.int .i64 a0_17,.int .i64 a0_18,.int .i64 a0_19,.int .i64 a0_20,.int .i64 a0_21,.int .i64 a0_22,.int .i64 a0_23,.slice A0_24 l0_24.length c0_24,.slice A0_25 l0_25.length c0_25]] w fun e w'=>∃ v24_ v25_:Value,e=.returned (.agg #[.int .i64 r1,.int .i64 r2,.int .i64 r3,.int .i64 r4,.int .i64 r5,.int .i64 r6,.int .i64 r7,.int .i64 r8,.int .i64 r9,.int .i64 r10,.int .i64 r11,.int .i64 r12,.int .i64 r13,.int .i64 r14,.int .i64 r15,.int .i64 r16,.int .i64 r17,.int .i64 r18,.int .i64 r19,.int .i64 r20,.int .i64 r21,.int .i64 r22,.int .i64 r23,.int .i64 r24,v24_,v25_])∧Kd.R k138 138 w' w.heap.size (fun _=>True) v24_ r25∧Kd.R k140 140 w' w.heap.size (fun _=>True) v25_ r26∧Below w.heap.size w w':=by
 have hu36:=Try.underlying36;have hu28:=Try.underlying28;have hu32:=Try.underlying32;have hu24:=Try.underlying24;have HR0_24:=mA hr0_24;have HC0_24:=mA hc0_24;clear hr0_24 hc0_24;have HR0_25:=mA hr0_25;have HC0_25:=mA hc0_25;clear hr0_25 hc0_25;have HB:=mA (Below.refl w.heap.size w);have H:((laws_toCmd.f a0_6 a0_7 a0_8 a0_9 a0_10 a0_11 a0_12 a0_13 a0_14 a0_15).bind fun bt132=>((laws_toBlkPieceS.f k l0_24).bind fun t142=>((laws_toBlkLastS.f k l0_25).bind fun t145=>(some (a0_0,a0_1,a0_2,a0_3,a0_4,a0_5,bt132.1,bt132.2.1,bt132.2.2.1,bt132.2.2.2.1,bt132.2.2.2.2.1,bt132.2.2.2.2.2.1,bt132.2.2.2.2.2.2.1,bt132.2.2.2.2.2.2.2.1,bt132.2.2.2.2.2.2.2.2.1,bt132.2.2.2.2.2.2.2.2.2,a0_16,a0_17,a0_18,a0_19,a0_20,a0_21,a0_22,a0_23,t142,t145)))))=some (r1,r2,r3,r4,r5,r6,r7,r8,r9,r10,r11,r12,r13,r14,r15,r16,r17,r18,r19,r20,r21,r22,r23,r24,r25,r26):=h;clear h;obtain ⟨⟨t132,t133,t134,t135,t136,t137,t138,t139,t140,t141⟩,A2,H⟩:=bI H;(try dsimp only at H);obtain ⟨t142,A3,H⟩:=bI H;(try dsimp only at H);obtain ⟨t145,A4,H⟩:=bI H;(try dsimp only at H);simp only [Option.some.injEq,Prod.mk.injEq] at H;obtain ⟨rfl,rfl,rfl,rfl,rfl,rfl,rfl,rfl,rfl,rfl,rfl,rfl,rfl,rfl,rfl,rfl,rfl,rfl,rfl,rfl,rfl,rfl,rfl,rfl,rfl,rfl⟩:=H
 go_enter Try.func18,Try.ntmps18
 go_wp2_with (first|((with_reducible refine gLg rfl (by assumption) ?_);refine ldV ?_)|((with_reducible refine gSt rfl (by assumption) ?_);refine stV ?_)|((with_reducible refine gT 1 rfl ?_);refine bX 1 ?_;intro gb129 hg w5 hbox hb;have BK129:=mA hbox;have GW129:=gbpB HB hg;have GE129:=gbpB HB hg;replace HB:=spB HB hb;clear hb hbox hg)|((with_reducible refine gT 2 rfl ?_);refine bJ 2 y28 ?_;intro gb130 hg w6 hbox hb;have BK130:=mA hbox;have GW130:=gbpS HB hg;have GE130:=gbpS HB hg;replace HB:=spS HB hb;have NB129_130:=mA (lN (blk_lt (pK BK129.out)) hg);have hN129_130:=NB129_130.out;have NB130_129:=nS NB129_130;have hN130_129:=NB130_129.out;replace BK129:=bK BK129 hb;clear hb hbox hg)|((with_reducible refine gT 3 rfl ?_);refine bJ 3 y28 ?_;intro gb131 hg w7 hbox hb;have BK131:=mA hbox;have GW131:=gbpS HB hg;have GE131:=gbpS HB hg;replace HB:=spS HB hb;have NB129_131:=mA (lN (blk_lt (pK BK129.out)) hg);have hN129_131:=NB129_131.out;have NB131_129:=nS NB129_131;have hN131_129:=NB131_129.out;replace BK129:=bK BK129 hb;have NB130_131:=mA (lN (blk_lt (pK BK130.out)) hg);have hN130_131:=NB130_131.out;have NB131_130:=nS NB130_131;have hN131_130:=NB131_130.out;replace BK130:=bK BK130 hb;clear hb hbox hg;have hcz10_0:=fun i_=>blk_cell BK129.out i_;have hfz10_0:=fun i_=>blk_frozen BK129.out i_;have hcz12_0:=fun i_=>blk_cell BK131.out i_;have hfz12_0:=fun i_=>blk_frozen BK131.out i_)|((with_reducible refine gT 24 rfl ?_);refine gC (some 24) Try.func36 (laws_toCmd.calls A2.out) ?_;rintro e w13 ⟨rfl,hb⟩;refine ⟨_,rfl,?_⟩;replace BK129:=bF BK129 hb;replace BK130:=bF BK130 hb;replace BK131:=mA (blk_below (g:=gb131) (o:=.cells #[.int .i64 a0_0,.int .i64 a0_1,.int .i64 a0_2,.int .i64 a0_3,.int .i64 a0_4,.int .i64 a0_5,.int .i64 0,.int .i64 0,.int .i64 0,.int .i64 0,.int .i64 0,.int .i64 0,.int .i64 0,.int .i64 0,.int .i64 0,.int .i64 0,.int .i64 0,.int .i64 0,.int .i64 0,.int .i64 0,.int .i64 0,.int .i64 0,.int .i64 0,.int .i64 0,.slice none 0 0,.slice none 0 0] 28 (0,0)) (pP BK131) hb);replace HB:=spS HB hb;(try clear hb);have hcz14_0:=fun i_=>blk_cell BK131.out i_;have hfz14_0:=fun i_=>blk_frozen BK131.out i_;have hcz15_0:=fun i_=>blk_cell BK129.out i_;have hfz15_0:=fun i_=>blk_frozen BK129.out i_)|((with_reducible refine gT 52 rfl ?_);refine gC (some 52) Try.func72 (laws_toBlkPieceS.calls (Kd.C_below HR0_24.out (pS HB.out)) HC0_24.out A3.out) ?_;rintro e w16 ⟨v143,rfl,ho0,hb⟩;refine ⟨_,rfl,?_⟩;have HO144:=mA (Kd.R_lower ho0 (bpS HB));replace BK129:=bF BK129 hb;replace BK130:=bF BK130 hb;replace BK131:=mA (blk_below (g:=gb131) (o:=.cells #[.int .i64 a0_0,.int .i64 a0_1,.int .i64 a0_2,.int .i64 a0_3,.int .i64 a0_4,.int .i64 a0_5,.int .i64 t132,.int .i64 t133,.int .i64 t134,.int .i64 t135,.int .i64 t136,.int .i64 t137,.int .i64 t138,.int .i64 t139,.int .i64 t140,.int .i64 t141,.int .i64 a0_16,.int .i64 a0_17,.int .i64 a0_18,.int .i64 a0_19,.int .i64 a0_20,.int .i64 a0_21,.int .i64 a0_22,.int .i64 a0_23,.slice none 0 0,.slice none 0 0] 28 (0,0)) (pP BK131) hb);replace HB:=spS HB hb;(try clear hb);(try clear ho0);obtain ⟨Ao17,co17,rfl⟩:=Kd.R_slice HO144.out;have hcz18_0:=fun i_=>blk_cell BK131.out i_;have hfz18_0:=fun i_=>blk_frozen BK131.out i_;have hcz19_0:=fun i_=>blk_cell BK129.out i_;have hfz19_0:=fun i_=>blk_frozen BK129.out i_)|((with_reducible refine gT 56 rfl ?_);refine gC (some 56) Try.func73 (laws_toBlkLastS.calls (Kd.C_below HR0_25.out (pS HB.out)) HC0_25.out A4.out) ?_;rintro e w20 ⟨v146,rfl,ho0,hb⟩;refine ⟨_,rfl,?_⟩;replace HO144:=rY HO144 BK131 hb;have HO147:=mA (Kd.R_lower ho0 (bpS HB));replace BK129:=bF BK129 hb;replace BK130:=bF BK130 hb;replace BK131:=mA (blk_below (g:=gb131) (o:=.cells #[.int .i64 a0_0,.int .i64 a0_1,.int .i64 a0_2,.int .i64 a0_3,.int .i64 a0_4,.int .i64 a0_5,.int .i64 t132,.int .i64 t133,.int .i64 t134,.int .i64 t135,.int .i64 t136,.int .i64 t137,.int .i64 t138,.int .i64 t139,.int .i64 t140,.int .i64 t141,.int .i64 a0_16,.int .i64 a0_17,.int .i64 a0_18,.int .i64 a0_19,.int .i64 a0_20,.int .i64 a0_21,.int .i64 a0_22,.int .i64 a0_23,.slice Ao17 t142.length co17,.slice none 0 0] 28 (0,0)) (pP BK131) hb);replace HB:=spS HB hb;(try clear hb);(try clear ho0);obtain ⟨Ao21,co21,rfl⟩:=Kd.R_slice HO147.out;have hcz22_0:=fun i_=>blk_cell BK131.out i_;have hfz22_0:=fun i_=>blk_frozen BK131.out i_;have hcz23_0:=fun i_=>blk_cell BK130.out i_;have hfz23_0:=fun i_=>blk_frozen BK130.out i_))
 refine bodyPost_ret (results_cell_row rfl _ _ gb130 28 #[.int .i64 a0_0,.int .i64 a0_1,.int .i64 a0_2,.int .i64 a0_3,.int .i64 a0_4,.int .i64 a0_5,.int .i64 t132,.int .i64 t133,.int .i64 t134,.int .i64 t135,.int .i64 t136,.int .i64 t137,.int .i64 t138,.int .i64 t139,.int .i64 t140,.int .i64 t141,.int .i64 a0_16,.int .i64 a0_17,.int .i64 a0_18,.int .i64 a0_19,.int .i64 a0_20,.int .i64 a0_21,.int .i64 a0_22,.int .i64 a0_23,.slice Ao17 t142.length co17,.slice Ao21 t145.length co21] (0,0) _ rfl (pP BK130) Try.underlying28 rfl aK) rfl ?_
 exact ⟨_,_,by first|rfl|(simp [errW_none,errW_some]<;>rfl)|(simp [*,errW_none,errW_some]<;>rfl),pUU HO144 BK131 BK130,pUU HO147 BK131 BK130,pS HB.out⟩
/-! ### laws_eqCmd: function 80 -/
def laws_eqCmd.f (a0_0 a0_1 a0_2 a0_3 a0_4 a0_5 a0_6 a0_7 a0_8 a0_9 a1_0 a1_1 a1_2 a1_3 a1_4 a1_5 a1_6 a1_7 a1_8 a1_9 : Int) : Option (Bool) := if a0_0 = a1_0 then (if a0_1 = a1_1 then (if a0_2 = a1_2 then (if a0_3 = a1_3 then (if a0_4 = a1_4 then (if a0_5 = a1_5 then (if a0_6 = a1_6 then (if a0_7 = a1_7 then (if a0_8 = a1_8 then (if a0_9 = a1_9 then (some true) else (some false)) else (some false)) else (some false)) else (some false)) else (some false)) else (some false)) else (some false)) else (some false)) else (some false)) else (some false)
set_option maxHeartbeats 8000000 in
set_option maxRecDepth 100000 in
theorem laws_eqCmd.calls {a0_0 a0_1 a0_2 a0_3 a0_4 a0_5 a0_6 a0_7 a0_8 a0_9 a1_0 a1_1 a1_2 a1_3 a1_4 a1_5 a1_6 a1_7 a1_8 a1_9 : Int} {r : Bool} {w : World} (h : laws_eqCmd.f a0_0 a0_1 a0_2 a0_3 a0_4 a0_5 a0_6 a0_7 a0_8 a0_9 a1_0 a1_1 a1_2 a1_3 a1_4 a1_5 a1_6 a1_7 a1_8 a1_9 = some r) :
  Calls Try.prog 80 #[.agg #[.int .i64 a0_0,.int .i64 a0_1,.int .i64 a0_2,.int .i64 a0_3,.int .i64 a0_4,.int .i64 a0_5,.int .i64 a0_6,.int .i64 a0_7,.int .i64 a0_8,.int .i64 a0_9],.agg #[.int .i64 a1_0,.int .i64 a1_1,.int .i64 a1_2,.int .i64 a1_3,.int .i64 a1_4,.int .i64 a1_5,.int .i64 a1_6,.int .i64 a1_7,.int .i64 a1_8,.int .i64 a1_9]] w fun e w'=>e=.returned (.bool r)∧Below w.heap.size w w':=by
 have hu24:=Try.underlying24;have HB:=mA (Below.refl w.heap.size w);have H:(if a0_0=a1_0 then (if a0_1=a1_1 then (if a0_2=a1_2 then (if a0_3=a1_3 then (if a0_4=a1_4 then (if a0_5=a1_5 then (if a0_6=a1_6 then (if a0_7=a1_7 then (if a0_8=a1_8 then (if a0_9=a1_9 then (some true) else (some false)) else (some false)) else (some false)) else (some false)) else (some false)) else (some false)) else (some false)) else (some false)) else (some false)) else (some false))=some r:=h;clear h
 by_cases c3:a0_0=a1_0
 ·rw [if_pos c3] at H;obtain ⟨c3b0,c3b1⟩:=eqB c3;clear c3
  by_cases c4:a0_1=a1_1
  ·rw [if_pos c4] at H;obtain ⟨c4b0,c4b1⟩:=eqB c4;clear c4
   by_cases c5:a0_2=a1_2
   ·rw [if_pos c5] at H;obtain ⟨c5b0,c5b1⟩:=eqB c5;clear c5
    by_cases c6:a0_3=a1_3
    ·rw [if_pos c6] at H;obtain ⟨c6b0,c6b1⟩:=eqB c6;clear c6
     by_cases c7:a0_4=a1_4
     ·rw [if_pos c7] at H;obtain ⟨c7b0,c7b1⟩:=eqB c7;clear c7
      by_cases c8:a0_5=a1_5
      ·rw [if_pos c8] at H;obtain ⟨c8b0,c8b1⟩:=eqB c8;clear c8
       by_cases c9:a0_6=a1_6
       ·rw [if_pos c9] at H;obtain ⟨c9b0,c9b1⟩:=eqB c9;clear c9
        by_cases c10:a0_7=a1_7
        ·rw [if_pos c10] at H;obtain ⟨c10b0,c10b1⟩:=eqB c10;clear c10
         by_cases c11:a0_8=a1_8
         ·rw [if_pos c11] at H;obtain ⟨c11b0,c11b1⟩:=eqB c11;clear c11
          by_cases c12:a0_9=a1_9
          ·rw [if_pos c12] at H;obtain ⟨c12b0,c12b1⟩:=eqB c12;clear c12;obtain rfl:=Option.some.inj H
           go_enter Try.func80,Try.ntmps80
           go_wp2_with (first|((with_reducible refine gLg rfl (by assumption) ?_);refine ldV ?_)|((with_reducible refine gSt rfl (by assumption) ?_);refine stV ?_)|((with_reducible refine gT 2 rfl ?_);refine bX 2 ?_;intro gb148 hg w13 hbox hb;have BK148:=mA hbox;have GW148:=gbpB HB hg;have GE148:=gbpB HB hg;replace HB:=spB HB hb;clear hb hbox hg)|((with_reducible refine gT 3 rfl ?_);refine bX 3 ?_;intro gb149 hg w14 hbox hb;have BK149:=mA hbox;have GW149:=gbpS HB hg;have GE149:=gbpS HB hg;replace HB:=spS HB hb;have NB148_149:=mA (lN (blk_lt (pK BK148.out)) hg);have hN148_149:=NB148_149.out;have NB149_148:=nS NB148_149;have hN149_148:=NB149_148.out;replace BK148:=bK BK148 hb;clear hb hbox hg;have hcz16_0:=fun i_=>blk_cell BK148.out i_;have hfz16_0:=fun i_=>blk_frozen BK148.out i_;have hcz17_0:=fun i_=>blk_cell BK149.out i_;have hfz17_0:=fun i_=>blk_frozen BK149.out i_))
           go_ret
           exact rZ (pS HB.out)
          ·rw [if_neg c12] at H;have c12b0:(a0_9 == a1_9)=false:=beq_eq_false_iff_ne.mpr c12;have c12b1:(a0_9 != a1_9)=true:=bne_iff_ne.mpr c12;obtain rfl:=Option.some.inj H
           go_enter Try.func80,Try.ntmps80
           go_wp2_with (first|((with_reducible refine gLg rfl (by assumption) ?_);refine ldV ?_)|((with_reducible refine gSt rfl (by assumption) ?_);refine stV ?_)|((with_reducible refine gT 2 rfl ?_);refine bX 2 ?_;intro gb148 hg w18 hbox hb;have BK148:=mA hbox;have GW148:=gbpB HB hg;have GE148:=gbpB HB hg;replace HB:=spB HB hb;clear hb hbox hg)|((with_reducible refine gT 3 rfl ?_);refine bX 3 ?_;intro gb149 hg w19 hbox hb;have BK149:=mA hbox;have GW149:=gbpS HB hg;have GE149:=gbpS HB hg;replace HB:=spS HB hb;have NB148_149:=mA (lN (blk_lt (pK BK148.out)) hg);have hN148_149:=NB148_149.out;have NB149_148:=nS NB148_149;have hN149_148:=NB149_148.out;replace BK148:=bK BK148 hb;clear hb hbox hg;have hcz21_0:=fun i_=>blk_cell BK148.out i_;have hfz21_0:=fun i_=>blk_frozen BK148.out i_;have hcz22_0:=fun i_=>blk_cell BK149.out i_;have hfz22_0:=fun i_=>blk_frozen BK149.out i_))
           go_ret
           exact rZ (pS HB.out)
         ·rw [if_neg c11] at H;have c11b0:(a0_8 == a1_8)=false:=beq_eq_false_iff_ne.mpr c11;have c11b1:(a0_8 != a1_8)=true:=bne_iff_ne.mpr c11;obtain rfl:=Option.some.inj H
          go_enter Try.func80,Try.ntmps80
          go_wp2_with (first|((with_reducible refine gLg rfl (by assumption) ?_);refine ldV ?_)|((with_reducible refine gSt rfl (by assumption) ?_);refine stV ?_)|((with_reducible refine gT 2 rfl ?_);refine bX 2 ?_;intro gb148 hg w23 hbox hb;have BK148:=mA hbox;have GW148:=gbpB HB hg;have GE148:=gbpB HB hg;replace HB:=spB HB hb;clear hb hbox hg)|((with_reducible refine gT 3 rfl ?_);refine bX 3 ?_;intro gb149 hg w24 hbox hb;have BK149:=mA hbox;have GW149:=gbpS HB hg;have GE149:=gbpS HB hg;replace HB:=spS HB hb;have NB148_149:=mA (lN (blk_lt (pK BK148.out)) hg);have hN148_149:=NB148_149.out;have NB149_148:=nS NB148_149;have hN149_148:=NB149_148.out;replace BK148:=bK BK148 hb;clear hb hbox hg;have hcz26_0:=fun i_=>blk_cell BK148.out i_;have hfz26_0:=fun i_=>blk_frozen BK148.out i_;have hcz27_0:=fun i_=>blk_cell BK149.out i_;have hfz27_0:=fun i_=>blk_frozen BK149.out i_))
          go_ret
          exact rZ (pS HB.out)
        ·rw [if_neg c10] at H;have c10b0:(a0_7 == a1_7)=false:=beq_eq_false_iff_ne.mpr c10;have c10b1:(a0_7 != a1_7)=true:=bne_iff_ne.mpr c10;obtain rfl:=Option.some.inj H
         go_enter Try.func80,Try.ntmps80
         go_wp2_with (first|((with_reducible refine gLg rfl (by assumption) ?_);refine ldV ?_)|((with_reducible refine gSt rfl (by assumption) ?_);refine stV ?_)|((with_reducible refine gT 2 rfl ?_);refine bX 2 ?_;intro gb148 hg w28 hbox hb;have BK148:=mA hbox;have GW148:=gbpB HB hg;have GE148:=gbpB HB hg;replace HB:=spB HB hb;clear hb hbox hg)|((with_reducible refine gT 3 rfl ?_);refine bX 3 ?_;intro gb149 hg w29 hbox hb;have BK149:=mA hbox;have GW149:=gbpS HB hg;have GE149:=gbpS HB hg;replace HB:=spS HB hb;have NB148_149:=mA (lN (blk_lt (pK BK148.out)) hg);have hN148_149:=NB148_149.out;have NB149_148:=nS NB148_149;have hN149_148:=NB149_148.out;replace BK148:=bK BK148 hb;clear hb hbox hg;have hcz31_0:=fun i_=>blk_cell BK148.out i_;have hfz31_0:=fun i_=>blk_frozen BK148.out i_;have hcz32_0:=fun i_=>blk_cell BK149.out i_;have hfz32_0:=fun i_=>blk_frozen BK149.out i_))
         go_ret
         exact rZ (pS HB.out)
       ·rw [if_neg c9] at H;have c9b0:(a0_6 == a1_6)=false:=beq_eq_false_iff_ne.mpr c9;have c9b1:(a0_6 != a1_6)=true:=bne_iff_ne.mpr c9;obtain rfl:=Option.some.inj H
        go_enter Try.func80,Try.ntmps80
        go_wp2_with (first|((with_reducible refine gLg rfl (by assumption) ?_);refine ldV ?_)|((with_reducible refine gSt rfl (by assumption) ?_);refine stV ?_)|((with_reducible refine gT 2 rfl ?_);refine bX 2 ?_;intro gb148 hg w33 hbox hb;have BK148:=mA hbox;have GW148:=gbpB HB hg;have GE148:=gbpB HB hg;replace HB:=spB HB hb;clear hb hbox hg)|((with_reducible refine gT 3 rfl ?_);refine bX 3 ?_;intro gb149 hg w34 hbox hb;have BK149:=mA hbox;have GW149:=gbpS HB hg;have GE149:=gbpS HB hg;replace HB:=spS HB hb;have NB148_149:=mA (lN (blk_lt (pK BK148.out)) hg);have hN148_149:=NB148_149.out;have NB149_148:=nS NB148_149;have hN149_148:=NB149_148.out;replace BK148:=bK BK148 hb;clear hb hbox hg;have hcz36_0:=fun i_=>blk_cell BK148.out i_;have hfz36_0:=fun i_=>blk_frozen BK148.out i_;have hcz37_0:=fun i_=>blk_cell BK149.out i_;have hfz37_0:=fun i_=>blk_frozen BK149.out i_))
        go_ret
        exact rZ (pS HB.out)
      ·rw [if_neg c8] at H;have c8b0:(a0_5 == a1_5)=false:=beq_eq_false_iff_ne.mpr c8;have c8b1:(a0_5 != a1_5)=true:=bne_iff_ne.mpr c8;obtain rfl:=Option.some.inj H
       go_enter Try.func80,Try.ntmps80
       go_wp2_with (first|((with_reducible refine gLg rfl (by assumption) ?_);refine ldV ?_)|((with_reducible refine gSt rfl (by assumption) ?_);refine stV ?_)|((with_reducible refine gT 2 rfl ?_);refine bX 2 ?_;intro gb148 hg w38 hbox hb;have BK148:=mA hbox;have GW148:=gbpB HB hg;have GE148:=gbpB HB hg;replace HB:=spB HB hb;clear hb hbox hg)|((with_reducible refine gT 3 rfl ?_);refine bX 3 ?_;intro gb149 hg w39 hbox hb;have BK149:=mA hbox;have GW149:=gbpS HB hg;have GE149:=gbpS HB hg;replace HB:=spS HB hb;have NB148_149:=mA (lN (blk_lt (pK BK148.out)) hg);have hN148_149:=NB148_149.out;have NB149_148:=nS NB148_149;have hN149_148:=NB149_148.out;replace BK148:=bK BK148 hb;clear hb hbox hg;have hcz41_0:=fun i_=>blk_cell BK148.out i_;have hfz41_0:=fun i_=>blk_frozen BK148.out i_;have hcz42_0:=fun i_=>blk_cell BK149.out i_;have hfz42_0:=fun i_=>blk_frozen BK149.out i_))
       go_ret
       exact rZ (pS HB.out)
     ·rw [if_neg c7] at H;have c7b0:(a0_4 == a1_4)=false:=beq_eq_false_iff_ne.mpr c7;have c7b1:(a0_4 != a1_4)=true:=bne_iff_ne.mpr c7;obtain rfl:=Option.some.inj H
      go_enter Try.func80,Try.ntmps80
      go_wp2_with (first|((with_reducible refine gLg rfl (by assumption) ?_);refine ldV ?_)|((with_reducible refine gSt rfl (by assumption) ?_);refine stV ?_)|((with_reducible refine gT 2 rfl ?_);refine bX 2 ?_;intro gb148 hg w43 hbox hb;have BK148:=mA hbox;have GW148:=gbpB HB hg;have GE148:=gbpB HB hg;replace HB:=spB HB hb;clear hb hbox hg)|((with_reducible refine gT 3 rfl ?_);refine bX 3 ?_;intro gb149 hg w44 hbox hb;have BK149:=mA hbox;have GW149:=gbpS HB hg;have GE149:=gbpS HB hg;replace HB:=spS HB hb;have NB148_149:=mA (lN (blk_lt (pK BK148.out)) hg);have hN148_149:=NB148_149.out;have NB149_148:=nS NB148_149;have hN149_148:=NB149_148.out;replace BK148:=bK BK148 hb;clear hb hbox hg;have hcz46_0:=fun i_=>blk_cell BK148.out i_;have hfz46_0:=fun i_=>blk_frozen BK148.out i_;have hcz47_0:=fun i_=>blk_cell BK149.out i_;have hfz47_0:=fun i_=>blk_frozen BK149.out i_))
      go_ret
      exact rZ (pS HB.out)
    ·rw [if_neg c6] at H;have c6b0:(a0_3 == a1_3)=false:=beq_eq_false_iff_ne.mpr c6;have c6b1:(a0_3 != a1_3)=true:=bne_iff_ne.mpr c6;obtain rfl:=Option.some.inj H
     go_enter Try.func80,Try.ntmps80
     go_wp2_with (first|((with_reducible refine gLg rfl (by assumption) ?_);refine ldV ?_)|((with_reducible refine gSt rfl (by assumption) ?_);refine stV ?_)|((with_reducible refine gT 2 rfl ?_);refine bX 2 ?_;intro gb148 hg w48 hbox hb;have BK148:=mA hbox;have GW148:=gbpB HB hg;have GE148:=gbpB HB hg;replace HB:=spB HB hb;clear hb hbox hg)|((with_reducible refine gT 3 rfl ?_);refine bX 3 ?_;intro gb149 hg w49 hbox hb;have BK149:=mA hbox;have GW149:=gbpS HB hg;have GE149:=gbpS HB hg;replace HB:=spS HB hb;have NB148_149:=mA (lN (blk_lt (pK BK148.out)) hg);have hN148_149:=NB148_149.out;have NB149_148:=nS NB148_149;have hN149_148:=NB149_148.out;replace BK148:=bK BK148 hb;clear hb hbox hg;have hcz51_0:=fun i_=>blk_cell BK148.out i_;have hfz51_0:=fun i_=>blk_frozen BK148.out i_;have hcz52_0:=fun i_=>blk_cell BK149.out i_;have hfz52_0:=fun i_=>blk_frozen BK149.out i_))
     go_ret
     exact rZ (pS HB.out)
   ·rw [if_neg c5] at H;have c5b0:(a0_2 == a1_2)=false:=beq_eq_false_iff_ne.mpr c5;have c5b1:(a0_2 != a1_2)=true:=bne_iff_ne.mpr c5;obtain rfl:=Option.some.inj H
    go_enter Try.func80,Try.ntmps80
    go_wp2_with (first|((with_reducible refine gLg rfl (by assumption) ?_);refine ldV ?_)|((with_reducible refine gSt rfl (by assumption) ?_);refine stV ?_)|((with_reducible refine gT 2 rfl ?_);refine bX 2 ?_;intro gb148 hg w53 hbox hb;have BK148:=mA hbox;have GW148:=gbpB HB hg;have GE148:=gbpB HB hg;replace HB:=spB HB hb;clear hb hbox hg)|((with_reducible refine gT 3 rfl ?_);refine bX 3 ?_;intro gb149 hg w54 hbox hb;have BK149:=mA hbox;have GW149:=gbpS HB hg;have GE149:=gbpS HB hg;replace HB:=spS HB hb;have NB148_149:=mA (lN (blk_lt (pK BK148.out)) hg);have hN148_149:=NB148_149.out;have NB149_148:=nS NB148_149;have hN149_148:=NB149_148.out;replace BK148:=bK BK148 hb;clear hb hbox hg;have hcz56_0:=fun i_=>blk_cell BK148.out i_;have hfz56_0:=fun i_=>blk_frozen BK148.out i_;have hcz57_0:=fun i_=>blk_cell BK149.out i_;have hfz57_0:=fun i_=>blk_frozen BK149.out i_))
    go_ret
    exact rZ (pS HB.out)
  ·rw [if_neg c4] at H;have c4b0:(a0_1 == a1_1)=false:=beq_eq_false_iff_ne.mpr c4;have c4b1:(a0_1 != a1_1)=true:=bne_iff_ne.mpr c4;obtain rfl:=Option.some.inj H
   go_enter Try.func80,Try.ntmps80
   go_wp2_with (first|((with_reducible refine gLg rfl (by assumption) ?_);refine ldV ?_)|((with_reducible refine gSt rfl (by assumption) ?_);refine stV ?_)|((with_reducible refine gT 2 rfl ?_);refine bX 2 ?_;intro gb148 hg w58 hbox hb;have BK148:=mA hbox;have GW148:=gbpB HB hg;have GE148:=gbpB HB hg;replace HB:=spB HB hb;clear hb hbox hg)|((with_reducible refine gT 3 rfl ?_);refine bX 3 ?_;intro gb149 hg w59 hbox hb;have BK149:=mA hbox;have GW149:=gbpS HB hg;have GE149:=gbpS HB hg;replace HB:=spS HB hb;have NB148_149:=mA (lN (blk_lt (pK BK148.out)) hg);have hN148_149:=NB148_149.out;have NB149_148:=nS NB148_149;have hN149_148:=NB149_148.out;replace BK148:=bK BK148 hb;clear hb hbox hg;have hcz61_0:=fun i_=>blk_cell BK148.out i_;have hfz61_0:=fun i_=>blk_frozen BK148.out i_;have hcz62_0:=fun i_=>blk_cell BK149.out i_;have hfz62_0:=fun i_=>blk_frozen BK149.out i_))
   go_ret
   exact rZ (pS HB.out)
 ·rw [if_neg c3] at H;have c3b0:(a0_0 == a1_0)=false:=beq_eq_false_iff_ne.mpr c3;have c3b1:(a0_0 != a1_0)=true:=bne_iff_ne.mpr c3;obtain rfl:=Option.some.inj H
  go_enter Try.func80,Try.ntmps80
  go_wp2_with (first|((with_reducible refine gLg rfl (by assumption) ?_);refine ldV ?_)|((with_reducible refine gSt rfl (by assumption) ?_);refine stV ?_)|((with_reducible refine gT 2 rfl ?_);refine bX 2 ?_;intro gb148 hg w63 hbox hb;have BK148:=mA hbox;have GW148:=gbpB HB hg;have GE148:=gbpB HB hg;replace HB:=spB HB hb;clear hb hbox hg)|((with_reducible refine gT 3 rfl ?_);refine bX 3 ?_;intro gb149 hg w64 hbox hb;have BK149:=mA hbox;have GW149:=gbpS HB hg;have GE149:=gbpS HB hg;replace HB:=spS HB hb;have NB148_149:=mA (lN (blk_lt (pK BK148.out)) hg);have hN148_149:=NB148_149.out;have NB149_148:=nS NB148_149;have hN149_148:=NB149_148.out;replace BK148:=bK BK148 hb;clear hb hbox hg;have hcz66_0:=fun i_=>blk_cell BK148.out i_;have hfz66_0:=fun i_=>blk_frozen BK148.out i_;have hcz67_0:=fun i_=>blk_cell BK149.out i_;have hfz67_0:=fun i_=>blk_frozen BK149.out i_))
  go_ret
  exact rZ (pS HB.out)
/-! ### laws_eqBlkPiece: function 134 -/
def laws_eqBlkPiece.f (a0_0 a0_1 a0_2 a0_3 a1_0 a1_1 a1_2 a1_3 : Int) : Option (Bool) := if a0_0 = a1_0 then (if a0_1 = a1_1 then (if a0_2 = a1_2 then (if a0_3 = a1_3 then (some true) else (some false)) else (some false)) else (some false)) else (some false)
set_option maxHeartbeats 8000000 in
set_option maxRecDepth 100000 in
theorem laws_eqBlkPiece.calls {a0_0 a0_1 a0_2 a0_3 a1_0 a1_1 a1_2 a1_3 : Int} {r : Bool} {w : World} (h : laws_eqBlkPiece.f a0_0 a0_1 a0_2 a0_3 a1_0 a1_1 a1_2 a1_3 = some r) :
  Calls Try.prog 134 #[.agg #[.int .i64 a0_0,.int .i64 a0_1,.int .i64 a0_2,.int .i64 a0_3],.agg #[.int .i64 a1_0,.int .i64 a1_1,.int .i64 a1_2,.int .i64 a1_3]] w fun e w'=>e=.returned (.bool r)∧Below w.heap.size w w':=by
 have hu138:=Try.underlying138;have HB:=mA (Below.refl w.heap.size w);have H:(if a0_0=a1_0 then (if a0_1=a1_1 then (if a0_2=a1_2 then (if a0_3=a1_3 then (some true) else (some false)) else (some false)) else (some false)) else (some false))=some r:=h;clear h
 by_cases c3:a0_0=a1_0
 ·rw [if_pos c3] at H;obtain ⟨c3b0,c3b1⟩:=eqB c3;clear c3
  by_cases c4:a0_1=a1_1
  ·rw [if_pos c4] at H;obtain ⟨c4b0,c4b1⟩:=eqB c4;clear c4
   by_cases c5:a0_2=a1_2
   ·rw [if_pos c5] at H;obtain ⟨c5b0,c5b1⟩:=eqB c5;clear c5
    by_cases c6:a0_3=a1_3
    ·rw [if_pos c6] at H;obtain ⟨c6b0,c6b1⟩:=eqB c6;clear c6;obtain rfl:=Option.some.inj H
     go_enter Try.func134,Try.ntmps134
     go_wp2_with (first|((with_reducible refine gT 2 rfl ?_);refine bX 2 ?_;intro gb150 hg w7 hbox hb;have BK150:=mA hbox;have GW150:=gbpB HB hg;have GE150:=gbpB HB hg;replace HB:=spB HB hb;clear hb hbox hg)|((with_reducible refine gT 3 rfl ?_);refine bX 3 ?_;intro gb151 hg w8 hbox hb;have BK151:=mA hbox;have GW151:=gbpS HB hg;have GE151:=gbpS HB hg;replace HB:=spS HB hb;have NB150_151:=mA (lN (blk_lt (pK BK150.out)) hg);have hN150_151:=NB150_151.out;have NB151_150:=nS NB150_151;have hN151_150:=NB151_150.out;replace BK150:=bK BK150 hb;clear hb hbox hg;obtain ⟨hcz10_0,hcz10_1,hcz10_2,hcz10_3,hfz10_0,hfz10_1,hfz10_2,hfz10_3⟩:=box4 BK150.out;obtain ⟨hcz11_0,hcz11_1,hcz11_2,hcz11_3,hfz11_0,hfz11_1,hfz11_2,hfz11_3⟩:=box4 BK151.out))
     go_ret
     exact rZ (pS HB.out)
    ·rw [if_neg c6] at H;have c6b0:(a0_3 == a1_3)=false:=beq_eq_false_iff_ne.mpr c6;have c6b1:(a0_3 != a1_3)=true:=bne_iff_ne.mpr c6;obtain rfl:=Option.some.inj H
     go_enter Try.func134,Try.ntmps134
     go_wp2_with (first|((with_reducible refine gT 2 rfl ?_);refine bX 2 ?_;intro gb150 hg w12 hbox hb;have BK150:=mA hbox;have GW150:=gbpB HB hg;have GE150:=gbpB HB hg;replace HB:=spB HB hb;clear hb hbox hg)|((with_reducible refine gT 3 rfl ?_);refine bX 3 ?_;intro gb151 hg w13 hbox hb;have BK151:=mA hbox;have GW151:=gbpS HB hg;have GE151:=gbpS HB hg;replace HB:=spS HB hb;have NB150_151:=mA (lN (blk_lt (pK BK150.out)) hg);have hN150_151:=NB150_151.out;have NB151_150:=nS NB150_151;have hN151_150:=NB151_150.out;replace BK150:=bK BK150 hb;clear hb hbox hg;obtain ⟨hcz15_0,hcz15_1,hcz15_2,hcz15_3,hfz15_0,hfz15_1,hfz15_2,hfz15_3⟩:=box4 BK150.out;obtain ⟨hcz16_0,hcz16_1,hcz16_2,hcz16_3,hfz16_0,hfz16_1,hfz16_2,hfz16_3⟩:=box4 BK151.out))
     go_ret
     exact rZ (pS HB.out)
   ·rw [if_neg c5] at H;have c5b0:(a0_2 == a1_2)=false:=beq_eq_false_iff_ne.mpr c5;have c5b1:(a0_2 != a1_2)=true:=bne_iff_ne.mpr c5;obtain rfl:=Option.some.inj H
    go_enter Try.func134,Try.ntmps134
    go_wp2_with (first|((with_reducible refine gT 2 rfl ?_);refine bX 2 ?_;intro gb150 hg w17 hbox hb;have BK150:=mA hbox;have GW150:=gbpB HB hg;have GE150:=gbpB HB hg;replace HB:=spB HB hb;clear hb hbox hg)|((with_reducible refine gT 3 rfl ?_);refine bX 3 ?_;intro gb151 hg w18 hbox hb;have BK151:=mA hbox;have GW151:=gbpS HB hg;have GE151:=gbpS HB hg;replace HB:=spS HB hb;have NB150_151:=mA (lN (blk_lt (pK BK150.out)) hg);have hN150_151:=NB150_151.out;have NB151_150:=nS NB150_151;have hN151_150:=NB151_150.out;replace BK150:=bK BK150 hb;clear hb hbox hg;obtain ⟨hcz20_0,hcz20_1,hcz20_2,hcz20_3,hfz20_0,hfz20_1,hfz20_2,hfz20_3⟩:=box4 BK150.out;obtain ⟨hcz21_0,hcz21_1,hcz21_2,hcz21_3,hfz21_0,hfz21_1,hfz21_2,hfz21_3⟩:=box4 BK151.out))
    go_ret
    exact rZ (pS HB.out)
  ·rw [if_neg c4] at H;have c4b0:(a0_1 == a1_1)=false:=beq_eq_false_iff_ne.mpr c4;have c4b1:(a0_1 != a1_1)=true:=bne_iff_ne.mpr c4;obtain rfl:=Option.some.inj H
   go_enter Try.func134,Try.ntmps134
   go_wp2_with (first|((with_reducible refine gT 2 rfl ?_);refine bX 2 ?_;intro gb150 hg w22 hbox hb;have BK150:=mA hbox;have GW150:=gbpB HB hg;have GE150:=gbpB HB hg;replace HB:=spB HB hb;clear hb hbox hg)|((with_reducible refine gT 3 rfl ?_);refine bX 3 ?_;intro gb151 hg w23 hbox hb;have BK151:=mA hbox;have GW151:=gbpS HB hg;have GE151:=gbpS HB hg;replace HB:=spS HB hb;have NB150_151:=mA (lN (blk_lt (pK BK150.out)) hg);have hN150_151:=NB150_151.out;have NB151_150:=nS NB150_151;have hN151_150:=NB151_150.out;replace BK150:=bK BK150 hb;clear hb hbox hg;obtain ⟨hcz25_0,hcz25_1,hcz25_2,hcz25_3,hfz25_0,hfz25_1,hfz25_2,hfz25_3⟩:=box4 BK150.out;obtain ⟨hcz26_0,hcz26_1,hcz26_2,hcz26_3,hfz26_0,hfz26_1,hfz26_2,hfz26_3⟩:=box4 BK151.out))
   go_ret
   exact rZ (pS HB.out)
 ·rw [if_neg c3] at H;have c3b0:(a0_0 == a1_0)=false:=beq_eq_false_iff_ne.mpr c3;have c3b1:(a0_0 != a1_0)=true:=bne_iff_ne.mpr c3;obtain rfl:=Option.some.inj H
  go_enter Try.func134,Try.ntmps134
  go_wp2_with (first|((with_reducible refine gT 2 rfl ?_);refine bX 2 ?_;intro gb150 hg w27 hbox hb;have BK150:=mA hbox;have GW150:=gbpB HB hg;have GE150:=gbpB HB hg;replace HB:=spB HB hb;clear hb hbox hg)|((with_reducible refine gT 3 rfl ?_);refine bX 3 ?_;intro gb151 hg w28 hbox hb;have BK151:=mA hbox;have GW151:=gbpS HB hg;have GE151:=gbpS HB hg;replace HB:=spS HB hb;have NB150_151:=mA (lN (blk_lt (pK BK150.out)) hg);have hN150_151:=NB150_151.out;have NB151_150:=nS NB150_151;have hN151_150:=NB151_150.out;replace BK150:=bK BK150 hb;clear hb hbox hg;obtain ⟨hcz30_0,hcz30_1,hcz30_2,hcz30_3,hfz30_0,hfz30_1,hfz30_2,hfz30_3⟩:=box4 BK150.out;obtain ⟨hcz31_0,hcz31_1,hcz31_2,hcz31_3,hfz31_0,hfz31_1,hfz31_2,hfz31_3⟩:=box4 BK151.out))
  go_ret
  exact rZ (pS HB.out)
/-! ### laws_eqBlkPieceS: function 81 -/
def laws_eqBlkPieceS.l0 : Nat → List (S138) → List (S138) → Int → Option (Bool)
 | 0,_,_,_=>none
 | k+1,x0,x1,x5=>if x5<(x0.length:Int) then (if 0≤x5 then (if x5<(x1.length:Int) then ((laws_eqBlkPiece.f ((rd_T138 x0 x5).f0) ((rd_T138 x0 x5).f1) ((rd_T138 x0 x5).f2) ((rd_T138 x0 x5).f3) ((rd_T138 x1 x5).f0) ((rd_T138 x1 x5).f1) ((rd_T138 x1 x5).f2) ((rd_T138 x1 x5).f3)).bind fun t154=>(if t154=true then (laws_eqBlkPieceS.l0 k x0 x1 (wrap64 (x5+1))) else (some false))) else (none)) else (none)) else (some true)
def laws_eqBlkPieceS.f (k : Nat) (l0 : List (S138)) (l1 : List (S138)) : Option (Bool) := if (l0.length : Int) = (l1.length : Int) then (laws_eqBlkPieceS.l0 k l0 l1 0) else (some false)
def laws_eqBlkPieceS.T6 : Bool × List (List Nat × List Nat) := (true, [([], []), ([], []), ([0, 1], [0, 1]), ([2], [2]), ([], []), ([], []), ([4, 5], [4, 5]), ([6], [6]), ([3, 7], [3, 7]), ([8], [8])])
def laws_eqBlkPieceS.B6 : List Nat := [0, 0, 3, 7, 0, 0, 48, 112, 255, 511]
theorem laws_eqBlkPieceS.tab6 : rtab .any (opsOf Try.f81 6) = laws_eqBlkPieceS.T6 := by kernel_rfl
theorem laws_eqBlkPieceS.bits6 : waitsOk laws_eqBlkPieceS.T6.2 laws_eqBlkPieceS.B6 = true := by kernel_rfl
set_option maxHeartbeats 8000000 in
set_option maxRecDepth 100000 in
theorem laws_eqBlkPieceS.calls {k : Nat} {A0 : Option Addr} {c0 : Nat} {l0 : List (S138)} {A1 : Option Addr} {c1 : Nat} {l1 : List (S138)} {r : Bool} {w : World} (hr0 : Kd.C k138 w A0 l0.length l0) (hc0 : l0.length ≤ c0) (hr1 : Kd.C k138 w A1 l1.length l1) (hc1 : l1.length ≤ c1) (h : laws_eqBlkPieceS.f k l0 l1 = some r) :
  Calls Try.prog 81 #[.slice A0 l0.length c0,.slice A1 l1.length c1] w fun e w'=>e=.returned (.bool r)∧Below w.heap.size w w':=by
 have hu138:=Try.underlying138;have HR0:=mA hr0;have HC0:=mA hc0;clear hr0 hc0;have HR1:=mA hr1;have HC1:=mA hc1;clear hr1 hc1;have HB:=mA (Below.refl w.heap.size w);have H:(if (l0.length:Int)=(l1.length:Int) then (laws_eqBlkPieceS.l0 k l0 l1 0) else (some false))=some r:=h;clear h
 by_cases c3:(l0.length:Int)=(l1.length:Int)
 ·rw [if_pos c3] at H;have c3b0:((l0.length:Int) == (l1.length:Int))=true:=beq_iff_eq.mpr c3;have c3b1:((l0.length:Int) != (l1.length:Int))=false:=bne_eq_false_iff_eq.mpr c3
  have c3b2:(l0.length == l1.length)=true:=by first|simpa using c3|(simp at c3 ⊢;omega)
  clear c3;have H':=mA H;clear H
  go_enter Try.func81,Try.ntmps81
  go_wp2
  go_loopg [5] k (fun kq v5 w'=>∃ (x5_1:Int),v5=.int .i64 x5_1∧Aside0 (laws_eqBlkPieceS.l0 kq l0 l1 x5_1=some r)∧Aside0 (kq≤k)∧Aside0 (Below w.heap.size w w'))
  case atStart=>exact ⟨(0),bZ,H',⟨Nat.le_refl _⟩,⟨pB HB.out⟩⟩
  case round =>
   clear H'
   (try clear c3);(try clear c3b0);(try clear c3b1);(try clear c3b2)
   obtain ⟨x5_1,rfl,HA,HK1,HB⟩:=hrel
   cases gk with
   | zero=>exact absurd HA.out (by simp [laws_eqBlkPieceS.l0])
   | succ k1 =>
    have H:=HA.out;clear HA;simp only [laws_eqBlkPieceS.l0] at H
    by_cases c4:x5_1<(l0.length:Int)
    ·rw [if_pos c4] at H;have c4b0:decide (x5_1<(l0.length:Int))=true:=decide_eq_true c4;clear c4
     by_cases c5:0≤x5_1
     ·rw [if_pos c5] at H;have c5b0:decide (0≤x5_1)=true:=decide_eq_true c5;clear c5
      by_cases c6:x5_1<(l1.length:Int)
      ·rw [if_pos c6] at H;have c6b0:decide (x5_1<(l1.length:Int))=true:=decide_eq_true c6;clear c6;obtain ⟨t154,A7,H⟩:=bI H;(try dsimp only at H)
       have H0_:=mA H;clear H
       try go_wp2
       replace HB:=mA (below_drew1 HB.out);have p152:0≤(x5_1:Int):=of_decide_eq_true bA;have q152:x5_1<(l0.length:Int):=of_decide_eq_true bA;obtain ⟨ad152,e152,hs152⟩:=at_R138 HR0.out x5_1 p152 q152;cases e152;replace p152:=eq_true p152;replace q152:=eq_true q152;have p153:0≤(x5_1:Int):=of_decide_eq_true bA;have q153:x5_1<(l1.length:Int):=of_decide_eq_true bA;obtain ⟨ad153,e153,hs153⟩:=at_R138 HR1.out x5_1 p153 q153;cases e153;replace p153:=eq_true p153;replace q153:=eq_true q153
       refine start_ (n:=10) (S:=fun w'=>RS w' (ad152.add ((x5_1).toNat * 4)) (d138 (rd_T138 l0 x5_1))∧RS w' (ad153.add ((x5_1).toNat * 4)) (d138 (rd_T138 l1 x5_1))) (ds:=[]) _ aK rfl rfl ⟨rS HB hs152,rS HB hs153⟩ (fun hHeld=>?_);refine with_tabW laws_eqBlkPieceS.tab6 laws_eqBlkPieceS.bits6 (fun HT_ HW_=>?_)
       generalize wr.drew=w9 at HB hHeld ⊢
       refine qu 0 ?_;refine qu 1 ?_;refine qu 2 ?_;refine qu 4 ?_;refine qu 5 ?_;refine qu 6 ?_;refine qt 3 ?_;refine qt 7 ?_
       refine qo 8 ?_;intro K hK
       refine gD Try.func134 (laws_eqBlkPiece.calls A7.out) ?_
       rintro e w10 ⟨rfl,hb⟩;refine ⟨_,rfl,?_⟩;replace HB:=spB HB hb
       (try clear hb)
       refine hK.out _ _ ⟨rS HB hs152,rS HB hs153⟩ (fun hHeld=>?_);clear hK K;refine no_ (some 25) ?_;refine qu 9 ?_;refine qe ?_
       have H:=H0_.out;clear H0_
       by_cases c8:t154=true
       ·subst c8;rw [if_pos rfl] at H;have H':=mA H;clear H
        try go_wp2
        go_roundg k1
        case measure=>have:=HK1.out;omega
        case rel=>exact ⟨(wrap64 (x5_1+1)),bZ,H',⟨by have:=HK1.out;omega⟩,⟨pB HB.out⟩⟩
       ·replace c8:=Bool.eq_false_iff.mpr c8;subst c8
        rw [if_neg nFT] at H
        obtain rfl:=Option.some.inj H
        try go_wp2
        go_ret
        exact rZ (pB HB.out)
      ·rw [if_neg c6] at H
       exact absurd H (by simp)
     ·rw [if_neg c5] at H
      exact absurd H (by simp)
    ·rw [if_neg c4] at H;have c4b0:decide (x5_1<(l0.length:Int))=false:=decide_eq_false c4;clear c4;obtain rfl:=Option.some.inj H
     go_wp2
     go_ret
     exact rZ (pB HB.out)
 ·rw [if_neg c3] at H;have c3b0:((l0.length:Int) == (l1.length:Int))=false:=beq_eq_false_iff_ne.mpr c3;have c3b1:((l0.length:Int) != (l1.length:Int))=true:=bne_iff_ne.mpr c3
  have c3b2:(l0.length == l1.length)=false:=by first|simpa using c3|(simp at c3 ⊢;omega)
  obtain rfl:=Option.some.inj H
  go_enter Try.func81,Try.ntmps81
  go_wp2
  go_ret
  exact rZ (pB HB.out)
/-! ### laws_eqBlkLast: function 135 -/
def laws_eqBlkLast.f (a0_0 a0_1 a1_0 a1_1 : Int) : Option (Bool) := if a0_0 = a1_0 then (if a0_1 = a1_1 then (some true) else (some false)) else (some false)
set_option maxHeartbeats 8000000 in
set_option maxRecDepth 100000 in
theorem laws_eqBlkLast.calls {a0_0 a0_1 a1_0 a1_1 : Int} {r : Bool} {w : World} (h : laws_eqBlkLast.f a0_0 a0_1 a1_0 a1_1 = some r) :
  Calls Try.prog 135 #[.agg #[.int .i64 a0_0,.int .i64 a0_1],.agg #[.int .i64 a1_0,.int .i64 a1_1]] w fun e w'=>e=.returned (.bool r)∧Below w.heap.size w w':=by
 have hu140:=Try.underlying140;have HB:=mA (Below.refl w.heap.size w);have H:(if a0_0=a1_0 then (if a0_1=a1_1 then (some true) else (some false)) else (some false))=some r:=h;clear h
 by_cases c3:a0_0=a1_0
 ·rw [if_pos c3] at H;obtain ⟨c3b0,c3b1⟩:=eqB c3;clear c3
  by_cases c4:a0_1=a1_1
  ·rw [if_pos c4] at H;obtain ⟨c4b0,c4b1⟩:=eqB c4;clear c4;obtain rfl:=Option.some.inj H
   go_enter Try.func135,Try.ntmps135
   go_wp2_with (first|((with_reducible refine gT 2 rfl ?_);refine bE 2 #[.int .i64 a0_0,.int .i64 a0_1] 140 ?_;intro gb155 hg w5 hbox hb;have BK155:=mA hbox;have GW155:=gbpB HB hg;have GE155:=gbpB HB hg;replace HB:=spB HB hb;clear hb hbox hg)|((with_reducible refine gT 3 rfl ?_);refine bE 3 #[.int .i64 a1_0,.int .i64 a1_1] 140 ?_;intro gb156 hg w6 hbox hb;have BK156:=mA hbox;have GW156:=gbpS HB hg;have GE156:=gbpS HB hg;replace HB:=spS HB hb;have NB155_156:=mA (lN (blk_lt (pK BK155.out)) hg);have hN155_156:=NB155_156.out;have NB156_155:=nS NB155_156;have hN156_155:=NB156_155.out;replace BK155:=bK BK155 hb;clear hb hbox hg;obtain ⟨hcz8_0,hcz8_1,hfz8_0,hfz8_1⟩:=box2 BK155.out;obtain ⟨hcz9_0,hcz9_1,hfz9_0,hfz9_1⟩:=box2 BK156.out))
   go_ret
   exact rZ (pS HB.out)
  ·rw [if_neg c4] at H;have c4b0:(a0_1 == a1_1)=false:=beq_eq_false_iff_ne.mpr c4;have c4b1:(a0_1 != a1_1)=true:=bne_iff_ne.mpr c4;obtain rfl:=Option.some.inj H
   go_enter Try.func135,Try.ntmps135
   go_wp2_with (first|((with_reducible refine gT 2 rfl ?_);refine bE 2 #[.int .i64 a0_0,.int .i64 a0_1] 140 ?_;intro gb155 hg w10 hbox hb;have BK155:=mA hbox;have GW155:=gbpB HB hg;have GE155:=gbpB HB hg;replace HB:=spB HB hb;clear hb hbox hg)|((with_reducible refine gT 3 rfl ?_);refine bE 3 #[.int .i64 a1_0,.int .i64 a1_1] 140 ?_;intro gb156 hg w11 hbox hb;have BK156:=mA hbox;have GW156:=gbpS HB hg;have GE156:=gbpS HB hg;replace HB:=spS HB hb;have NB155_156:=mA (lN (blk_lt (pK BK155.out)) hg);have hN155_156:=NB155_156.out;have NB156_155:=nS NB155_156;have hN156_155:=NB156_155.out;replace BK155:=bK BK155 hb;clear hb hbox hg;obtain ⟨hcz13_0,hcz13_1,hfz13_0,hfz13_1⟩:=box2 BK155.out;obtain ⟨hcz14_0,hcz14_1,hfz14_0,hfz14_1⟩:=box2 BK156.out))
   go_ret
   exact rZ (pS HB.out)
 ·rw [if_neg c3] at H;have c3b0:(a0_0 == a1_0)=false:=beq_eq_false_iff_ne.mpr c3;have c3b1:(a0_0 != a1_0)=true:=bne_iff_ne.mpr c3;obtain rfl:=Option.some.inj H
  go_enter Try.func135,Try.ntmps135
  go_wp2_with (first|((with_reducible refine gT 2 rfl ?_);refine bE 2 #[.int .i64 a0_0,.int .i64 a0_1] 140 ?_;intro gb155 hg w15 hbox hb;have BK155:=mA hbox;have GW155:=gbpB HB hg;have GE155:=gbpB HB hg;replace HB:=spB HB hb;clear hb hbox hg)|((with_reducible refine gT 3 rfl ?_);refine bE 3 #[.int .i64 a1_0,.int .i64 a1_1] 140 ?_;intro gb156 hg w16 hbox hb;have BK156:=mA hbox;have GW156:=gbpS HB hg;have GE156:=gbpS HB hg;replace HB:=spS HB hb;have NB155_156:=mA (lN (blk_lt (pK BK155.out)) hg);have hN155_156:=NB155_156.out;have NB156_155:=nS NB155_156;have hN156_155:=NB156_155.out;replace BK155:=bK BK155 hb;clear hb hbox hg;obtain ⟨hcz18_0,hcz18_1,hfz18_0,hfz18_1⟩:=box2 BK155.out;obtain ⟨hcz19_0,hcz19_1,hfz19_0,hfz19_1⟩:=box2 BK156.out))
  go_ret
  exact rZ (pS HB.out)
/-! ### laws_eqBlkLastS: function 82 -/
def laws_eqBlkLastS.l0 : Nat → List (S140) → List (S140) → Int → Option (Bool)
 | 0,_,_,_=>none
 | k+1,x0,x1,x5=>if x5<(x0.length:Int) then (if 0≤x5 then (if x5<(x1.length:Int) then ((laws_eqBlkLast.f ((rd_T140 x0 x5).f0) ((rd_T140 x0 x5).f1) ((rd_T140 x1 x5).f0) ((rd_T140 x1 x5).f1)).bind fun t159=>(if t159=true then (laws_eqBlkLastS.l0 k x0 x1 (wrap64 (x5+1))) else (some false))) else (none)) else (none)) else (some true)
def laws_eqBlkLastS.f (k : Nat) (l0 : List (S140)) (l1 : List (S140)) : Option (Bool) := if (l0.length : Int) = (l1.length : Int) then (laws_eqBlkLastS.l0 k l0 l1 0) else (some false)
def laws_eqBlkLastS.T6 : Bool × List (List Nat × List Nat) := (true, [([], []), ([], []), ([0, 1], [0, 1]), ([2], [2]), ([], []), ([], []), ([4, 5], [4, 5]), ([6], [6]), ([3, 7], [3, 7]), ([8], [8])])
def laws_eqBlkLastS.B6 : List Nat := [0, 0, 3, 7, 0, 0, 48, 112, 255, 511]
theorem laws_eqBlkLastS.tab6 : rtab .any (opsOf Try.f82 6) = laws_eqBlkLastS.T6 := by kernel_rfl
theorem laws_eqBlkLastS.bits6 : waitsOk laws_eqBlkLastS.T6.2 laws_eqBlkLastS.B6 = true := by kernel_rfl
set_option maxHeartbeats 8000000 in
set_option maxRecDepth 100000 in
theorem laws_eqBlkLastS.calls {k : Nat} {A0 : Option Addr} {c0 : Nat} {l0 : List (S140)} {A1 : Option Addr} {c1 : Nat} {l1 : List (S140)} {r : Bool} {w : World} (hr0 : Kd.C k140 w A0 l0.length l0) (hc0 : l0.length ≤ c0) (hr1 : Kd.C k140 w A1 l1.length l1) (hc1 : l1.length ≤ c1) (h : laws_eqBlkLastS.f k l0 l1 = some r) :
  Calls Try.prog 82 #[.slice A0 l0.length c0,.slice A1 l1.length c1] w fun e w'=>e=.returned (.bool r)∧Below w.heap.size w w':=by
 have hu140:=Try.underlying140;have HR0:=mA hr0;have HC0:=mA hc0;clear hr0 hc0;have HR1:=mA hr1;have HC1:=mA hc1;clear hr1 hc1;have HB:=mA (Below.refl w.heap.size w);have H:(if (l0.length:Int)=(l1.length:Int) then (laws_eqBlkLastS.l0 k l0 l1 0) else (some false))=some r:=h;clear h
 by_cases c3:(l0.length:Int)=(l1.length:Int)
 ·rw [if_pos c3] at H;have c3b0:((l0.length:Int) == (l1.length:Int))=true:=beq_iff_eq.mpr c3;have c3b1:((l0.length:Int) != (l1.length:Int))=false:=bne_eq_false_iff_eq.mpr c3
  have c3b2:(l0.length == l1.length)=true:=by first|simpa using c3|(simp at c3 ⊢;omega)
  clear c3;have H':=mA H;clear H
  go_enter Try.func82,Try.ntmps82
  go_wp2
  go_loopg [5] k (fun kq v5 w'=>∃ (x5_1:Int),v5=.int .i64 x5_1∧Aside0 (laws_eqBlkLastS.l0 kq l0 l1 x5_1=some r)∧Aside0 (kq≤k)∧Aside0 (Below w.heap.size w w'))
  case atStart=>exact ⟨(0),bZ,H',⟨Nat.le_refl _⟩,⟨pB HB.out⟩⟩
  case round =>
   clear H'
   (try clear c3);(try clear c3b0);(try clear c3b1);(try clear c3b2)
   obtain ⟨x5_1,rfl,HA,HK1,HB⟩:=hrel
   cases gk with
   | zero=>exact absurd HA.out (by simp [laws_eqBlkLastS.l0])
   | succ k1 =>
    have H:=HA.out;clear HA;simp only [laws_eqBlkLastS.l0] at H
    by_cases c4:x5_1<(l0.length:Int)
    ·rw [if_pos c4] at H;have c4b0:decide (x5_1<(l0.length:Int))=true:=decide_eq_true c4;clear c4
     by_cases c5:0≤x5_1
     ·rw [if_pos c5] at H;have c5b0:decide (0≤x5_1)=true:=decide_eq_true c5;clear c5
      by_cases c6:x5_1<(l1.length:Int)
      ·rw [if_pos c6] at H;have c6b0:decide (x5_1<(l1.length:Int))=true:=decide_eq_true c6;clear c6;obtain ⟨t159,A7,H⟩:=bI H;(try dsimp only at H)
       have H0_:=mA H;clear H
       try go_wp2
       replace HB:=mA (below_drew1 HB.out);have p157:0≤(x5_1:Int):=of_decide_eq_true bA;have q157:x5_1<(l0.length:Int):=of_decide_eq_true bA;obtain ⟨ad157,e157,hs157⟩:=at_R140 HR0.out x5_1 p157 q157;cases e157;replace p157:=eq_true p157;replace q157:=eq_true q157;have p158:0≤(x5_1:Int):=of_decide_eq_true bA;have q158:x5_1<(l1.length:Int):=of_decide_eq_true bA;obtain ⟨ad158,e158,hs158⟩:=at_R140 HR1.out x5_1 p158 q158;cases e158;replace p158:=eq_true p158;replace q158:=eq_true q158
       refine start_ (n:=10) (S:=fun w'=>RS w' (ad157.add ((x5_1).toNat * 2)) (d140 (rd_T140 l0 x5_1))∧RS w' (ad158.add ((x5_1).toNat * 2)) (d140 (rd_T140 l1 x5_1))) (ds:=[]) _ aK rfl rfl ⟨rS HB hs157,rS HB hs158⟩ (fun hHeld=>?_);refine with_tabW laws_eqBlkLastS.tab6 laws_eqBlkLastS.bits6 (fun HT_ HW_=>?_)
       generalize wr.drew=w9 at HB hHeld ⊢
       refine qu 0 ?_;refine qu 1 ?_;refine qu 2 ?_;refine qu 4 ?_;refine qu 5 ?_;refine qu 6 ?_;refine qt 3 ?_;refine qt 7 ?_
       refine qo 8 ?_;intro K hK
       refine gD Try.func135 (laws_eqBlkLast.calls A7.out) ?_
       rintro e w10 ⟨rfl,hb⟩;refine ⟨_,rfl,?_⟩;replace HB:=spB HB hb
       (try clear hb)
       refine hK.out _ _ ⟨rS HB hs157,rS HB hs158⟩ (fun hHeld=>?_);clear hK K;refine no_ (some 25) ?_;refine qu 9 ?_;refine qe ?_
       have H:=H0_.out;clear H0_
       by_cases c8:t159=true
       ·subst c8;rw [if_pos rfl] at H;have H':=mA H;clear H
        try go_wp2
        go_roundg k1
        case measure=>have:=HK1.out;omega
        case rel=>exact ⟨(wrap64 (x5_1+1)),bZ,H',⟨by have:=HK1.out;omega⟩,⟨pB HB.out⟩⟩
       ·replace c8:=Bool.eq_false_iff.mpr c8;subst c8
        rw [if_neg nFT] at H
        obtain rfl:=Option.some.inj H
        try go_wp2
        go_ret
        exact rZ (pB HB.out)
      ·rw [if_neg c6] at H
       exact absurd H (by simp)
     ·rw [if_neg c5] at H
      exact absurd H (by simp)
    ·rw [if_neg c4] at H;have c4b0:decide (x5_1<(l0.length:Int))=false:=decide_eq_false c4;clear c4;obtain rfl:=Option.some.inj H
     go_wp2
     go_ret
     exact rZ (pB HB.out)
 ·rw [if_neg c3] at H;have c3b0:((l0.length:Int) == (l1.length:Int))=false:=beq_eq_false_iff_ne.mpr c3;have c3b1:((l0.length:Int) != (l1.length:Int))=true:=bne_iff_ne.mpr c3
  have c3b2:(l0.length == l1.length)=false:=by first|simpa using c3|(simp at c3 ⊢;omega)
  obtain rfl:=Option.some.inj H
  go_enter Try.func82,Try.ntmps82
  go_wp2
  go_ret
  exact rZ (pB HB.out)
end Go.Proofs.Ytoieojmfkkidnaa.P
