-- printed by pprint.py (this session's program over the kit's printer) out of the translation. Lean checks it.
import Derived.Test.YtoieojmfkkidnaaPx0
import Derived.Test.YtoieojmfkkidnaaPx9
namespace Go.Proofs.Ytoieojmfkkidnaa.P
open Go.RowKit Go.Proofs.YtoieojmfkkidnaaX Go.Proofs.YtoieojmfkkidnaaW.PrintWords Go.Proofs.YtoieojmfkkidnaaW.PrintLast Go.Proofs.YtoieojmfkkidnaaW.PrintMore
attribute [local go_sem] max2_int min2_int max_two min_two max_three min_three max_four min_four   -- for this text's walks alone
set_option linter.unusedVariables false
set_option linter.unusedSimpArgs false

/-! ### laws_szBlkPieceS: function 63 -/
def laws_szBlkPieceS.f (l0 : List (S146)) (a1 : Int) : Option (Int) := if (wrap64 (a1 - (l0.length : Int))) < 0 then (some (-1)) else (some (wrap64 (a1 - (l0.length : Int))))
set_option maxHeartbeats 8000000 in
set_option maxRecDepth 100000 in
theorem laws_szBlkPieceS.calls {A0 : Option Addr} {c0 : Nat} {l0 : List (S146)} {a1 : Int} {r : Int} {w : World} (hr0 : Kd.C k146 w A0 l0.length l0) (hc0 : l0.length ≤ c0) (h : laws_szBlkPieceS.f l0 a1 = some r) :
  Calls Try.prog 63 #[.slice A0 l0.length c0,.int .i64 a1] w fun e w'=>e=.returned (.int .i64 r)∧Drawn0 w w':=by
 have HR0:=mA hr0;have HC0:=mA hc0;clear hr0 hc0;have H:(if (wrap64 (a1 - (l0.length:Int)))<0 then (some (-1)) else (some (wrap64 (a1 - (l0.length:Int)))))=some r:=h;clear h
 by_cases c3:(wrap64 (a1 - (l0.length:Int)))<0
 ·rw [if_pos c3] at H;have c3b0:decide ((wrap64 (a1 - (l0.length:Int)))<0)=true:=decide_eq_true c3;clear c3;obtain rfl:=Option.some.inj H
  go_enter Try.func63,Try.ntmps63
  go_wp2
  go_ret
  exact ⟨by first|rfl|(simp;done)|(simp [*];done),by repeat (first|exact Drawn0.refl _|apply Drawn0.step)⟩
 ·rw [if_neg c3] at H;have c3b0:decide ((wrap64 (a1 - (l0.length:Int)))<0)=false:=decide_eq_false c3;clear c3;obtain rfl:=Option.some.inj H
  go_enter Try.func63,Try.ntmps63
  go_wp2
  go_ret
  exact ⟨by first|rfl|(simp;done)|(simp [*];done),by repeat (first|exact Drawn0.refl _|apply Drawn0.step)⟩

/-! ### laws_szBlkLastS: function 64 -/
def laws_szBlkLastS.f (l0 : List (S148)) (a1 : Int) : Option (Int) := if (wrap64 (a1 - (l0.length : Int))) < 0 then (some (-1)) else (some (wrap64 (a1 - (l0.length : Int))))
set_option maxHeartbeats 8000000 in
set_option maxRecDepth 100000 in
theorem laws_szBlkLastS.calls {A0 : Option Addr} {c0 : Nat} {l0 : List (S148)} {a1 : Int} {r : Int} {w : World} (hr0 : Kd.C k148 w A0 l0.length l0) (hc0 : l0.length ≤ c0) (h : laws_szBlkLastS.f l0 a1 = some r) :
  Calls Try.prog 64 #[.slice A0 l0.length c0,.int .i64 a1] w fun e w'=>e=.returned (.int .i64 r)∧Drawn0 w w':=by
 have HR0:=mA hr0;have HC0:=mA hc0;clear hr0 hc0;have H:(if (wrap64 (a1 - (l0.length:Int)))<0 then (some (-1)) else (some (wrap64 (a1 - (l0.length:Int)))))=some r:=h;clear h
 by_cases c3:(wrap64 (a1 - (l0.length:Int)))<0
 ·rw [if_pos c3] at H;have c3b0:decide ((wrap64 (a1 - (l0.length:Int)))<0)=true:=decide_eq_true c3;clear c3;obtain rfl:=Option.some.inj H
  go_enter Try.func64,Try.ntmps64
  go_wp2
  go_ret
  exact ⟨by first|rfl|(simp;done)|(simp [*];done),by repeat (first|exact Drawn0.refl _|apply Drawn0.step)⟩
 ·rw [if_neg c3] at H;have c3b0:decide ((wrap64 (a1 - (l0.length:Int)))<0)=false:=decide_eq_false c3;clear c3;obtain rfl:=Option.some.inj H
  go_enter Try.func64,Try.ntmps64
  go_wp2
  go_ret
  exact ⟨by first|rfl|(simp;done)|(simp [*];done),by repeat (first|exact Drawn0.refl _|apply Drawn0.step)⟩

/-! ### laws_szWord: function 16 -/
def laws_szWord.f (a0_0 : Int) (a0_1 : Int) (a0_2 : Int) (a0_3 : Int) (a0_4 : Int) (a0_5 : Int) (a0_6 : Int) (a0_7 : Int) (a0_8 : Int) (a0_9 : Int) (a0_10 : Int) (a0_11 : Int) (a0_12 : Int) (a0_13 : Int) (a0_14 : Int) (a0_15 : Int) (a0_16 : Int) (a0_17 : Int) (a0_18 : Int) (a0_19 : Int) (a0_20 : Int) (a0_21 : Int) (a0_22 : Int) (a0_23 : Int) (l0_24 : List (S146)) (l0_25 : List (S148)) (a1 : Int) : Option (Int) := (laws_szBlkPieceS.f l0_24 a1).bind fun t631 => (if t631 < 0 then (some (-1)) else ((laws_szBlkLastS.f l0_25 t631).bind fun t632 => (if t632 < 0 then (some (-1)) else (some t632))))
set_option maxHeartbeats 8000000 in
set_option maxRecDepth 100000 in
theorem laws_szWord.calls {a0_0 : Int} {a0_1 : Int} {a0_2 : Int} {a0_3 : Int} {a0_4 : Int} {a0_5 : Int} {a0_6 : Int} {a0_7 : Int} {a0_8 : Int} {a0_9 : Int} {a0_10 : Int} {a0_11 : Int} {a0_12 : Int} {a0_13 : Int} {a0_14 : Int} {a0_15 : Int} {a0_16 : Int} {a0_17 : Int} {a0_18 : Int} {a0_19 : Int} {a0_20 : Int} {a0_21 : Int} {a0_22 : Int} {a0_23 : Int} {A0_24 : Option Addr} {c0_24 : Nat} {l0_24 : List (S146)} {A0_25 : Option Addr} {c0_25 : Nat} {l0_25 : List (S148)} {a1 : Int} {r : Int} {w : World} (hr0_24 : Kd.C k146 w A0_24 l0_24.length l0_24) (hc0_24 : l0_24.length ≤ c0_24) (hr0_25 : Kd.C k148 w A0_25 l0_25.length l0_25) (hc0_25 : l0_25.length ≤ c0_25) (h : laws_szWord.f a0_0 a0_1 a0_2 a0_3 a0_4 a0_5 a0_6 a0_7 a0_8 a0_9 a0_10 a0_11 a0_12 a0_13 a0_14 a0_15 a0_16 a0_17 a0_18 a0_19 a0_20 a0_21 a0_22 a0_23 l0_24 l0_25 a1 = some r) :
  Calls Try.prog 16 #[.agg #[.int .i64 a0_0,.int .i64 a0_1,.int .i64 a0_2,.int .i64 a0_3,.int .i64 a0_4,.int .i64 a0_5,.int .i64 a0_6,.int .i64 a0_7,.int .i64 a0_8,.int .i64 a0_9,.int .i64 a0_10,.int .i64 a0_11,.int .i64 a0_12,.int .i64 a0_13,.int .i64 a0_14,.int .i64 a0_15,.int .i64 a0_16,.int .i64 a0_17,.int .i64 a0_18,.int .i64 a0_19,.int .i64 a0_20,.int .i64 a0_21,.int .i64 a0_22,.int .i64 a0_23,.slice A0_24 l0_24.length c0_24,.slice A0_25 l0_25.length c0_25],.int .i64 a1] w fun e w'=>e=.returned (.int .i64 r)∧Below w.heap.size w w':=by
 have hu36:=Try.underlying36;have HR0_24:=mA hr0_24;have HC0_24:=mA hc0_24;clear hr0_24 hc0_24;have HR0_25:=mA hr0_25;have HC0_25:=mA hc0_25;clear hr0_25 hc0_25;have HB:=mA (Below.refl w.heap.size w);have H:((laws_szBlkPieceS.f l0_24 a1).bind fun t631=>(if t631<0 then (some (-1)) else ((laws_szBlkLastS.f l0_25 t631).bind fun t632=>(if t632<0 then (some (-1)) else (some t632)))))=some r:=h;clear h;obtain ⟨t631,A3,H⟩:=bI H;(try dsimp only at H)
 by_cases c4:t631<0
 ·rw [if_pos c4] at H;have c4b0:decide (t631<0)=true:=decide_eq_true c4;clear c4;obtain rfl:=Option.some.inj H
  go_enter Try.func16,Try.ntmps16
  go_wp2_with (first|((with_reducible refine gLg rfl (by assumption) ?_);refine ldV ?_)|((with_reducible refine gSt rfl (by assumption) ?_);refine stV ?_)|((with_reducible refine gT 2 rfl ?_);refine bE 2 #[.int .i64 a0_0,.int .i64 a0_1,.int .i64 a0_2,.int .i64 a0_3,.int .i64 a0_4,.int .i64 a0_5,.int .i64 a0_6,.int .i64 a0_7,.int .i64 a0_8,.int .i64 a0_9,.int .i64 a0_10,.int .i64 a0_11,.int .i64 a0_12,.int .i64 a0_13,.int .i64 a0_14,.int .i64 a0_15,.int .i64 a0_16,.int .i64 a0_17,.int .i64 a0_18,.int .i64 a0_19,.int .i64 a0_20,.int .i64 a0_21,.int .i64 a0_22,.int .i64 a0_23,.slice A0_24 l0_24.length c0_24,.slice A0_25 l0_25.length c0_25] 36 ?_;intro gb630 hg w5 hbox hb;have BK630:=mA hbox;have GW630:=gbpB HB hg;have GE630:=gbpB HB hg;replace HB:=spB HB hb;clear hb hbox hg;have hcz6_0:=fun i_=>blk_cell BK630.out i_;have hfz6_0:=fun i_=>blk_frozen BK630.out i_)|((with_reducible refine gT 8 rfl ?_);refine gC (some 8) Try.func63 (laws_szBlkPieceS.calls (cB HR0_24 HB) HC0_24.out A3.out) ?_;rintro e w' ⟨rfl,⟨nd,rfl⟩⟩;refine ⟨_,rfl,?_⟩))
  go_ret
  exact rZ (pS HB.out)
 ·rw [if_neg c4] at H;have c4b0:decide (t631<0)=false:=decide_eq_false c4;clear c4;obtain ⟨t632,A7,H⟩:=bI H;(try dsimp only at H)
  by_cases c8:t632<0
  ·rw [if_pos c8] at H;have c8b0:decide (t632<0)=true:=decide_eq_true c8;clear c8;obtain rfl:=Option.some.inj H
   go_enter Try.func16,Try.ntmps16
   go_wp2_with (first|((with_reducible refine gLg rfl (by assumption) ?_);refine ldV ?_)|((with_reducible refine gSt rfl (by assumption) ?_);refine stV ?_)|((with_reducible refine gT 2 rfl ?_);refine bE 2 #[.int .i64 a0_0,.int .i64 a0_1,.int .i64 a0_2,.int .i64 a0_3,.int .i64 a0_4,.int .i64 a0_5,.int .i64 a0_6,.int .i64 a0_7,.int .i64 a0_8,.int .i64 a0_9,.int .i64 a0_10,.int .i64 a0_11,.int .i64 a0_12,.int .i64 a0_13,.int .i64 a0_14,.int .i64 a0_15,.int .i64 a0_16,.int .i64 a0_17,.int .i64 a0_18,.int .i64 a0_19,.int .i64 a0_20,.int .i64 a0_21,.int .i64 a0_22,.int .i64 a0_23,.slice A0_24 l0_24.length c0_24,.slice A0_25 l0_25.length c0_25] 36 ?_;intro gb630 hg w9 hbox hb;have BK630:=mA hbox;have GW630:=gbpB HB hg;have GE630:=gbpB HB hg;replace HB:=spB HB hb;clear hb hbox hg;have hcz10_0:=fun i_=>blk_cell BK630.out i_;have hfz10_0:=fun i_=>blk_frozen BK630.out i_)|((with_reducible refine gT 8 rfl ?_);refine gC (some 8) Try.func63 (laws_szBlkPieceS.calls (cB HR0_24 HB) HC0_24.out A3.out) ?_;rintro e w' ⟨rfl,⟨nd,rfl⟩⟩;refine ⟨_,rfl,?_⟩)|((with_reducible refine gT 14 rfl ?_);refine gC (some 14) Try.func64 (laws_szBlkLastS.calls (pC (Kd.C_below HR0_25.out (pS HB.out))) HC0_25.out A7.out) ?_;rintro e w' ⟨rfl,⟨nd,rfl⟩⟩;refine ⟨_,rfl,?_⟩))
   go_ret
   exact rZ (pS HB.out)
  ·rw [if_neg c8] at H;have c8b0:decide (t632<0)=false:=decide_eq_false c8;clear c8;obtain rfl:=Option.some.inj H
   go_enter Try.func16,Try.ntmps16
   go_wp2_with (first|((with_reducible refine gLg rfl (by assumption) ?_);refine ldV ?_)|((with_reducible refine gSt rfl (by assumption) ?_);refine stV ?_)|((with_reducible refine gT 2 rfl ?_);refine bE 2 #[.int .i64 a0_0,.int .i64 a0_1,.int .i64 a0_2,.int .i64 a0_3,.int .i64 a0_4,.int .i64 a0_5,.int .i64 a0_6,.int .i64 a0_7,.int .i64 a0_8,.int .i64 a0_9,.int .i64 a0_10,.int .i64 a0_11,.int .i64 a0_12,.int .i64 a0_13,.int .i64 a0_14,.int .i64 a0_15,.int .i64 a0_16,.int .i64 a0_17,.int .i64 a0_18,.int .i64 a0_19,.int .i64 a0_20,.int .i64 a0_21,.int .i64 a0_22,.int .i64 a0_23,.slice A0_24 l0_24.length c0_24,.slice A0_25 l0_25.length c0_25] 36 ?_;intro gb630 hg w11 hbox hb;have BK630:=mA hbox;have GW630:=gbpB HB hg;have GE630:=gbpB HB hg;replace HB:=spB HB hb;clear hb hbox hg;have hcz12_0:=fun i_=>blk_cell BK630.out i_;have hfz12_0:=fun i_=>blk_frozen BK630.out i_)|((with_reducible refine gT 8 rfl ?_);refine gC (some 8) Try.func63 (laws_szBlkPieceS.calls (cB HR0_24 HB) HC0_24.out A3.out) ?_;rintro e w' ⟨rfl,⟨nd,rfl⟩⟩;refine ⟨_,rfl,?_⟩)|((with_reducible refine gT 14 rfl ?_);refine gC (some 14) Try.func64 (laws_szBlkLastS.calls (pC (Kd.C_below HR0_25.out (pS HB.out))) HC0_25.out A7.out) ?_;rintro e w' ⟨rfl,⟨nd,rfl⟩⟩;refine ⟨_,rfl,?_⟩))
   go_ret
   exact rZ (pS HB.out)

/-! ### laws_toBlkPiece: function 130 -/
def laws_toBlkPiece.f (a0_0 : Int) (a0_1 : Int) (a0_2 : Int) (a0_3 : Int) : Option (Int × Int × Int × Int) := some (a0_0, a0_1, a0_2, a0_3)
set_option maxHeartbeats 8000000 in
set_option maxRecDepth 100000 in
theorem laws_toBlkPiece.calls {a0_0 : Int} {a0_1 : Int} {a0_2 : Int} {a0_3 : Int} {r1 : Int} {r2 : Int} {r3 : Int} {r4 : Int} {w : World} (h : laws_toBlkPiece.f a0_0 a0_1 a0_2 a0_3 = some (r1, r2, r3, r4)) :
  Calls Try.prog 130 #[.agg #[.int .i64 a0_0,.int .i64 a0_1,.int .i64 a0_2,.int .i64 a0_3]] w fun e w'=>e=.returned (.agg #[.int .i64 r1,.int .i64 r2,.int .i64 r3,.int .i64 r4])∧Below w.heap.size w w':=by
 have hu146:=Try.underlying146;have hu138:=Try.underlying138;have HB:=mA (Below.refl w.heap.size w);have H:(some (a0_0,a0_1,a0_2,a0_3))=some (r1,r2,r3,r4):=h;clear h;simp only [Option.some.injEq,Prod.mk.injEq] at H;obtain ⟨rfl,rfl,rfl,rfl⟩:=H
 go_enter Try.func130,Try.ntmps130
 go_wp2_with (first|((with_reducible refine gT 1 rfl ?_);refine bE 1 #[.int .i64 a0_0,.int .i64 a0_1,.int .i64 a0_2,.int .i64 a0_3] 146 ?_;intro gb636 hg w2 hbox hb;have BK636:=mA hbox;have GW636:=gbpB HB hg;have GE636:=gbpB HB hg;replace HB:=spB HB hb;clear hb hbox hg)|((with_reducible refine gT 2 rfl ?_);refine bE 2 #[.int .i64 0,.int .i64 0,.int .i64 0,.int .i64 0] 138 ?_;intro gb637 hg w3 hbox hb;have BK637:=mA hbox;have GW637:=gbpS HB hg;have GE637:=gbpS HB hg;replace HB:=spS HB hb;have NB636_637:=mA (lN (blk_lt (pK BK636.out)) hg);have NB637_636:=nS NB636_637;replace BK636:=bK BK636 hb;clear hb hbox hg)|((with_reducible refine gT 3 rfl ?_);refine bE 3 #[.int .i64 0,.int .i64 0,.int .i64 0,.int .i64 0] 138 ?_;intro gb638 hg w4 hbox hb;have BK638:=mA hbox;have GW638:=gbpS HB hg;have GE638:=gbpS HB hg;replace HB:=spS HB hb;have NB636_638:=mA (lN (blk_lt (pK BK636.out)) hg);have NB638_636:=nS NB636_638;replace BK636:=bK BK636 hb;have NB637_638:=mA (lN (blk_lt (pK BK637.out)) hg);have NB638_637:=nS NB637_638;replace BK637:=bK BK637 hb;clear hb hbox hg;have hnb5:=NB636_637.out;have hnc5:=NB637_636.out;have hnb6:=NB636_638.out;have hnc6:=NB638_636.out;obtain ⟨hcz7_0,hcz7_1,hcz7_2,hcz7_3,hfz7_0,hfz7_1,hfz7_2,hfz7_3⟩:=box4 BK636.out;have hnb8:=NB638_637.out;have hnc8:=NB637_638.out;obtain ⟨hcz9_0,hcz9_1,hcz9_2,hcz9_3,hfz9_0,hfz9_1,hfz9_2,hfz9_3⟩:=box4 BK638.out;obtain ⟨hcz10_0,hcz10_1,hcz10_2,hcz10_3,hfz10_0,hfz10_1,hfz10_2,hfz10_3⟩:=box4 BK637.out))
 refine bodyPost_ret (results_cell_row rfl _ _ gb637 138 #[.int .i64 a0_0,.int .i64 a0_1,.int .i64 a0_2,.int .i64 a0_3] (0,0) _ rfl (pP BK637) Try.underlying138 rfl aK) rfl ?_
 exact rZ (pS HB.out)

/-! ### laws_toBlkPieceS: function 72 -/
def laws_toBlkPieceS.l0 : Nat → List (S146) → List (S138) → Int → Option ((List (S138)))
 | 0,_,_,_=>none
 | k+1,x0,x3,x4=>if x4<(x0.length:Int) then (if 0≤x4 then ((laws_toBlkPiece.f ((rd_T146 x0 x4).f0) ((rd_T146 x0 x4).f1) ((rd_T146 x0 x4).f2) ((rd_T146 x0 x4).f3)).bind fun bt643=>(if x4<(x3.length:Int) then (laws_toBlkPieceS.l0 k x0 (x3.set (x4:Int).toNat (⟨bt643.1,bt643.2.1,bt643.2.2.1,bt643.2.2.2⟩:S138)) (wrap64 (x4+1))) else (none))) else (none)) else (some x3)
def laws_toBlkPieceS.f (k : Nat) (l0 : List (S146)) : Option ((List (S138))) := if 0 ≤ (l0.length : Int) then (if ((l0.length : Int) : Int).toNat ≤ 8796093022208 then (laws_toBlkPieceS.l0 k l0 (List.replicate ((l0.length : Int) : Int).toNat z138) 0) else (none)) else (none)
theorem laws_toBlkPieceS.mono_l : ∀ k, (∀ y0 y1 y2, LeO (laws_toBlkPieceS.l0 k y0 y1 y2) (laws_toBlkPieceS.l0 (k + 1) y0 y1 y2))
 | 0=>fun _ _ _ r h=>by simp [laws_toBlkPieceS.l0] at h
 | k+1=>by
  have ih0:=laws_toBlkPieceS.mono_l k
  ·intros
   unfold laws_toBlkPieceS.l0
   repeat' first
   | (with_reducible first|apply ih0|exact LeO.refl _|exact LeO.none _|refine LeO.ite ?_ ?_|refine LeO.bind ?_ (fun _=>?_))|exact LeO.none _|refine LeO.ite ?_ ?_|refine LeO.bind ?_ (fun _=>?_)
theorem laws_toBlkPieceS.mono : ∀ a0 k, LeO (laws_toBlkPieceS.f k a0) (laws_toBlkPieceS.f (k + 1) a0) := by
 intro a0 k;have ih0:=laws_toBlkPieceS.mono_l k
 unfold laws_toBlkPieceS.f
 repeat' first
   | (with_reducible first|apply ih0|exact LeO.refl _|exact LeO.none _|refine LeO.ite ?_ ?_|refine LeO.bind ?_ (fun _=>?_))|exact LeO.none _|refine LeO.ite ?_ ?_|refine LeO.bind ?_ (fun _=>?_)
set_option maxHeartbeats 8000000 in
set_option maxRecDepth 100000 in
theorem laws_toBlkPieceS.calls {k : Nat} {A0 : Option Addr} {c0 : Nat} {l0 : List (S146)} {r : List (S138)} {w : World} (hr0 : Kd.C k146 w A0 l0.length l0) (hc0 : l0.length ≤ c0) (h : laws_toBlkPieceS.f k l0 = some r) :
  Calls Try.prog 72 #[.slice A0 l0.length c0] w fun e w'=>∃ v0_:Value,e=.returned (v0_)∧Kd.R k138 138 w' w.heap.size (fun _=>True) v0_ r∧Below w.heap.size w w':=by
 have hu146:=Try.underlying146;have hu138:=Try.underlying138;have HR0:=mA hr0;have HC0:=mA hc0;clear hr0 hc0;have HB:=mA (Below.refl w.heap.size w);have H:(if 0≤(l0.length:Int) then (if ((l0.length:Int):Int).toNat≤8796093022208 then (laws_toBlkPieceS.l0 k l0 (List.replicate ((l0.length:Int):Int).toNat z138) 0) else (none)) else (none))=some r:=h;clear h
 by_cases c2:0≤(l0.length:Int)
 ·rw [if_pos c2] at H;have c2b0:=eq_true c2;have c2b1:decide (0≤(l0.length:Int))=true:=decide_eq_true c2;clear c2
  by_cases c3:((l0.length:Int):Int).toNat≤8796093022208
  ·rw [if_pos c3] at H;have c3b0:=eq_true c3;have c3b1:decide (((l0.length:Int):Int).toNat≤8796093022208)=true:=decide_eq_true c3;clear c3;obtain ⟨y639,hy639⟩:∃ y_:List (S138),y_=(List.replicate ((l0.length:Int):Int).toNat z138):=⟨_,rfl⟩
   replace H:(laws_toBlkPieceS.l0 k l0 y639 0)=some r:=qH hy639 H
   have Ny639:=mA hy639;clear hy639;have H':=mA H;clear H
   go_enter Try.func72,Try.ntmps72
   go_wp2_with (first|((with_reducible refine gT 7 rfl ?_);refine Kd.R_make k138 _ 138 rfl (N:=7) rfl 25 _ _ rfl (l0.length:Int) rfl rfl Try.underlying25 (.agg #[(.int .i64 0),(.int .i64 0),(.int .i64 0),(.int .i64 0)]) 32 info138 rfl aD (by omega) z138 (ok:=fun _=>True) (okp:=fun _=>True) (k138_mkM _ _ _ z138 ) (fun _ hk=>hk) trivial (of_decide_eq_true bA) (Nat.le_trans (Nat.mul_le_mul_right _ (of_decide_eq_true bA:(l0.length:Int).toNat≤8796093022208)) (by omega)) (Below.refl _ _) (Nat.le_refl _) ?_;intro v640 w4 ho5 hb hg_ hnew_;clear hg_ hnew_;(first|rw [← Ny639.out] at ho5|(simp only [Int.reduceToNat] at ho5;rw [← Ny639.out] at ho5));have HO641:=mA (Kd.R_lower ho5 (bpB HB));replace HB:=spB HB hb;clear hb ho5))
   go_loopg [4] k (fun kq v4 w'=>∃ (x3_1:List (S138)) (x4_1:Int),v4=.int .i64 x4_1∧Aside0 (laws_toBlkPieceS.l0 kq l0 x3_1 x4_1=some r)∧Aside0 (kq≤k)∧Aside0 (Kd.R k138 138 w' w.heap.size (fun _=>True) v640 x3_1)∧Aside0 (Below w.heap.size w w'))
   case atStart=>exact ⟨(y639),(0),bZ,H',⟨Nat.le_refl _⟩,⟨pR HO641.out⟩,⟨pB HB.out⟩⟩
   case round =>
    clear H'
    (try clear c2);(try clear c2b0);(try clear c2b1);(try clear c3);(try clear c3b0);(try clear c3b1)
    obtain ⟨x3_1,x4_1,rfl,HA,HK1,HO_3,HB⟩:=hrel
    cases gk with
    | zero=>exact absurd HA.out (by simp [laws_toBlkPieceS.l0])
    | succ k1 =>
     have H:=HA.out;clear HA;simp only [laws_toBlkPieceS.l0] at H
     by_cases c6:x4_1<(l0.length:Int)
     ·rw [if_pos c6] at H;have c6b0:decide (x4_1<(l0.length:Int))=true:=decide_eq_true c6;clear c6
      by_cases c7:0≤x4_1
      ·rw [if_pos c7] at H;have c7b0:decide (0≤x4_1)=true:=decide_eq_true c7;clear c7;obtain ⟨⟨t643,t644,t645,t646⟩,A8,H⟩:=bI H;(try dsimp only at H)
       by_cases c9:x4_1<(x3_1.length:Int)
       ·rw [if_pos c9] at H;have c9b0:decide (x4_1<(x3_1.length:Int))=true:=decide_eq_true c9;clear c9;obtain ⟨y647,hy647⟩:∃ y_:List (S138),y_=(x3_1.set (x4_1:Int).toNat (⟨t643,t644,t645,t646⟩:S138)):=⟨_,rfl⟩
        replace H:(laws_toBlkPieceS.l0 k1 l0 y647 (wrap64 (x4_1+1)))=some r:=qH hy647 H
        have Ny647:=mA hy647;clear hy647;have H':=mA H;clear H;have p642:0≤(x4_1:Int):=of_decide_eq_true bA;have q642:x4_1<(l0.length:Int):=of_decide_eq_true bA;obtain ⟨ad642,e642,hx642_0,hx642_1,hx642_2,hx642_3⟩:=at_T146 HR0.out x4_1 p642 q642;cases e642;replace hx642_0:=hC HB hx642_0;replace hx642_1:=hC HB hx642_1;replace hx642_2:=hC HB hx642_2;replace hx642_3:=hC HB hx642_3;replace p642:=eq_true p642;replace q642:=eq_true q642
        go_wp2_with (first|((with_reducible refine gT 20 rfl ?_);refine gC (some 20) Try.func130 (laws_toBlkPiece.calls A8.out) ?_;rintro e w11 ⟨rfl,hb⟩;refine ⟨_,rfl,?_⟩;replace HO_3:=rB HO_3 hb;replace HB:=spB HB hb;(try clear hb);have p10:0≤(x4_1:Int):=of_decide_eq_true bA;have q10:(x4_1:Int)<((x3_1.length:Int):Int):=of_decide_eq_true bA;obtain ⟨go10,co10,eo10,gb10,gl10,cl10,HG10⟩:=Kd.R_form HO_3.out (by omega);(first|cases eo10|(injection eo10 with ea_ en_ ec_;(first|subst ea_|(injection ea_ with ea_;subst ea_));subst ec_;clear en_));have GB10:=mA gb10;have GG10:=mA HG10;clear gb10 gl10 HG10;obtain ⟨ce10,hcl10,hM10,hcc10,hfr10⟩:=Kd.R_elem HO_3.out z138 (x4_1:Int) p10 q10;obtain rfl:=k138_openM hM10;have hx10_0:w11.cell? ⟨go10,(x4_1:Int).toNat * 4,none⟩=some (.int .i64 ((rd_T138 x3_1 x4_1).f0)):=hcc10 0 _ rfl;have hx10_1:w11.cell? ⟨go10,(x4_1:Int).toNat * 4+1,none⟩=some (.int .i64 ((rd_T138 x3_1 x4_1).f1)):=hcc10 1 _ rfl;have hx10_2:w11.cell? ⟨go10,(x4_1:Int).toNat * 4+2,none⟩=some (.int .i64 ((rd_T138 x3_1 x4_1).f2)):=hcc10 2 _ rfl;have hx10_3:w11.cell? ⟨go10,(x4_1:Int).toNat * 4+3,none⟩=some (.int .i64 ((rd_T138 x3_1 x4_1).f3)):=hcc10 3 _ rfl;have hf10_0:w11.frozen? ⟨go10,(x4_1:Int).toNat * 4,none⟩=false:=hfr10 0;have hf10_1:w11.frozen? ⟨go10,(x4_1:Int).toNat * 4+1,none⟩=false:=hfr10 1;have hf10_2:w11.frozen? ⟨go10,(x4_1:Int).toNat * 4+2,none⟩=false:=hfr10 2;have hf10_3:w11.frozen? ⟨go10,(x4_1:Int).toNat * 4+3,none⟩=false:=hfr10 3;clear hcl10 hcc10 hfr10 hM10;replace p10:=eq_true p10;replace q10:=eq_true q10;have HX12:=mA (show Kd.R k138 138 w11 w.heap.size (fun _=>True) (.slice (some ⟨go10,0,none⟩) x3_1.length co10) x3_1 from (pR HO_3.out));obtain ⟨ce12,hcl12,hM12,hcc12,hfr12⟩:=Kd.R_elem HX12.out z138 (x4_1:Int) (of_decide_eq_true bA) (by have h_:(x4_1:Int)<((x3_1.length:Int):Int):=of_decide_eq_true bA;first|exact h_|(have e_:=(Kd.R_reads' HO_3.out).1;omega)|simpa using h_);obtain rfl:=k138_openM hM12;have HP12:=Kd.R_seg HX12.out (x4_1:Int) (of_decide_eq_true bA) (by have h_:(x4_1:Int)<((x3_1.length:Int):Int):=of_decide_eq_true bA;first|exact h_|(have e_:=(Kd.R_reads' HO_3.out).1;omega)|simpa using h_) (seg:=[.int .i64 t643,.int .i64 t644,.int .i64 t645,.int .i64 t646]) (j:=0) hcl12 hcc12 (show 4≤4 from by decide) (x':=(⟨t643,t644,t645,t646⟩:S138)) (k138_mkM _ _ _ (⟨t643,t644,t645,t646⟩:S138) ) (fun _ hk=>hk);have hx12_0:=hcc12 0 _ rfl;(try simp only [show (k138).sz=4 from rfl,Nat.mul_one,Nat.add_zero] at hx12_0);have hf12_0:=hfr12 0;(try simp only [show (k138).sz=4 from rfl,Nat.mul_one,Nat.add_zero] at hf12_0);have hx12_1:=hcc12 1 _ rfl;(try simp only [show (k138).sz=4 from rfl,Nat.mul_one,Nat.add_zero] at hx12_1);have hf12_1:=hfr12 1;(try simp only [show (k138).sz=4 from rfl,Nat.mul_one,Nat.add_zero] at hf12_1);have hx12_2:=hcc12 2 _ rfl;(try simp only [show (k138).sz=4 from rfl,Nat.mul_one,Nat.add_zero] at hx12_2);have hf12_2:=hfr12 2;(try simp only [show (k138).sz=4 from rfl,Nat.mul_one,Nat.add_zero] at hf12_2);have hx12_3:=hcc12 3 _ rfl;(try simp only [show (k138).sz=4 from rfl,Nat.mul_one,Nat.add_zero] at hx12_3);have hf12_3:=hfr12 3;(try simp only [show (k138).sz=4 from rfl,Nat.mul_one,Nat.add_zero] at hf12_3);clear hcl12 hcc12 hfr12 hM12)|((with_reducible refine gate_store (t:=138) (p:=21) rfl ?_);refine store_event (t:=138) (p:=21) (v:=?vo_w13) (w1:=((((w11.setCell ⟨go10,(x4_1:Int).toNat * 4,none⟩ (.int .i64 t643)).setCell ⟨go10,(x4_1:Int).toNat * 4+1,none⟩ (.int .i64 t644)).setCell ⟨go10,(x4_1:Int).toNat * 4+2,none⟩ (.int .i64 t645)).setCell ⟨go10,(x4_1:Int).toNat * 4+3,none⟩ (.int .i64 t646))) ?hg ?ho ?hn ?hr ?_;(case ho=>rfl);(case hg=>rfl);(case hn=>rfl);(case hr=>first|(go_simp;done)|(go_simp;rfl));intro w13 hw;have hg:w11.grownBy w13 (some go10):=(by rw [hw];exact HP12.2);have hp_:Kd.R k138 138 w13 w.heap.size (fun _=>True) (.slice (some ⟨go10,0,none⟩) x3_1.length co10) y647:=(by rw [hw,Ny647.out];exact HP12.1);clear HP12;replace HO_3:=mA hp_;replace HB:=mA (by rw [hw];exact below_set (below_set (below_set (below_set (HB.out) GB10.out) GB10.out) GB10.out) GB10.out:Below w.heap.size w w13);clear hg hw hp_))
        go_roundg k1
        case measure=>have:=HK1.out;omega
        case rel=>exact ⟨(y647),(wrap64 (x4_1+1)),bZ,H',⟨by have:=HK1.out;omega⟩,⟨pR HO_3.out⟩,⟨pB HB.out⟩⟩
       ·rw [if_neg c9] at H
        exact absurd H (by simp)
      ·rw [if_neg c7] at H
       exact absurd H (by simp)
     ·rw [if_neg c6] at H;have c6b0:decide (x4_1<(l0.length:Int))=false:=decide_eq_false c6;clear c6;obtain rfl:=Option.some.inj H
      go_wp2
      go_ret
      exact ⟨_,by first|rfl|(simp [errW_none,errW_some]<;>rfl)|(simp [*,errW_none,errW_some]<;>rfl),pR HO_3.out,pB HB.out⟩
  ·rw [if_neg c3] at H
   exact absurd H (by simp)
 ·rw [if_neg c2] at H
  exact absurd H (by simp)

/-! ### laws_toBlkLast: function 131 -/
def laws_toBlkLast.f (a0_0 : Int) (a0_1 : Int) : Option (Int × Int) := some (a0_0, a0_1)
set_option maxHeartbeats 8000000 in
set_option maxRecDepth 100000 in
theorem laws_toBlkLast.calls {a0_0 : Int} {a0_1 : Int} {r1 : Int} {r2 : Int} {w : World} (h : laws_toBlkLast.f a0_0 a0_1 = some (r1, r2)) :
  Calls Try.prog 131 #[.agg #[.int .i64 a0_0,.int .i64 a0_1]] w fun e w'=>e=.returned (.agg #[.int .i64 r1,.int .i64 r2])∧Below w.heap.size w w':=by
 have hu148:=Try.underlying148;have hu140:=Try.underlying140;have HB:=mA (Below.refl w.heap.size w);have H:(some (a0_0,a0_1))=some (r1,r2):=h;clear h;simp only [Option.some.injEq,Prod.mk.injEq] at H;obtain ⟨rfl,rfl⟩:=H
 go_enter Try.func131,Try.ntmps131
 go_wp2_with (first|((with_reducible refine gT 1 rfl ?_);refine bE 1 #[.int .i64 a0_0,.int .i64 a0_1] 148 ?_;intro gb648 hg w2 hbox hb;have BK648:=mA hbox;have GW648:=gbpB HB hg;have GE648:=gbpB HB hg;replace HB:=spB HB hb;clear hb hbox hg)|((with_reducible refine gT 2 rfl ?_);refine bE 2 #[.int .i64 0,.int .i64 0] 140 ?_;intro gb649 hg w3 hbox hb;have BK649:=mA hbox;have GW649:=gbpS HB hg;have GE649:=gbpS HB hg;replace HB:=spS HB hb;have NB648_649:=mA (lN (blk_lt (pK BK648.out)) hg);have NB649_648:=nS NB648_649;replace BK648:=bK BK648 hb;clear hb hbox hg)|((with_reducible refine gT 3 rfl ?_);refine bE 3 #[.int .i64 0,.int .i64 0] 140 ?_;intro gb650 hg w4 hbox hb;have BK650:=mA hbox;have GW650:=gbpS HB hg;have GE650:=gbpS HB hg;replace HB:=spS HB hb;have NB648_650:=mA (lN (blk_lt (pK BK648.out)) hg);have NB650_648:=nS NB648_650;replace BK648:=bK BK648 hb;have NB649_650:=mA (lN (blk_lt (pK BK649.out)) hg);have NB650_649:=nS NB649_650;replace BK649:=bK BK649 hb;clear hb hbox hg;have hnb5:=NB648_649.out;have hnc5:=NB649_648.out;have hnb6:=NB648_650.out;have hnc6:=NB650_648.out;obtain ⟨hcz7_0,hcz7_1,hfz7_0,hfz7_1⟩:=box2 BK648.out;have hnb8:=NB650_649.out;have hnc8:=NB649_650.out;obtain ⟨hcz9_0,hcz9_1,hfz9_0,hfz9_1⟩:=box2 BK650.out;obtain ⟨hcz10_0,hcz10_1,hfz10_0,hfz10_1⟩:=box2 BK649.out))
 refine bodyPost_ret (results_cell_row rfl _ _ gb649 140 #[.int .i64 a0_0,.int .i64 a0_1] (0,0) _ rfl (pP BK649) Try.underlying140 rfl aK) rfl ?_
 exact rZ (pS HB.out)

/-! ### laws_toBlkLastS: function 73 -/
def laws_toBlkLastS.l0 : Nat → List (S148) → List (S140) → Int → Option ((List (S140)))
 | 0,_,_,_=>none
 | k+1,x0,x3,x4=>if x4<(x0.length:Int) then (if 0≤x4 then ((laws_toBlkLast.f ((rd_T148 x0 x4).f0) ((rd_T148 x0 x4).f1)).bind fun bt655=>(if x4<(x3.length:Int) then (laws_toBlkLastS.l0 k x0 (x3.set (x4:Int).toNat (⟨bt655.1,bt655.2⟩:S140)) (wrap64 (x4+1))) else (none))) else (none)) else (some x3)
def laws_toBlkLastS.f (k : Nat) (l0 : List (S148)) : Option ((List (S140))) := if 0 ≤ (l0.length : Int) then (if ((l0.length : Int) : Int).toNat ≤ 17592186044416 then (laws_toBlkLastS.l0 k l0 (List.replicate ((l0.length : Int) : Int).toNat z140) 0) else (none)) else (none)
theorem laws_toBlkLastS.mono_l : ∀ k, (∀ y0 y1 y2, LeO (laws_toBlkLastS.l0 k y0 y1 y2) (laws_toBlkLastS.l0 (k + 1) y0 y1 y2))
 | 0=>fun _ _ _ r h=>by simp [laws_toBlkLastS.l0] at h
 | k+1=>by
  have ih0:=laws_toBlkLastS.mono_l k
  ·intros
   unfold laws_toBlkLastS.l0
   repeat' first
   | (with_reducible first|apply ih0|exact LeO.refl _|exact LeO.none _|refine LeO.ite ?_ ?_|refine LeO.bind ?_ (fun _=>?_))|exact LeO.none _|refine LeO.ite ?_ ?_|refine LeO.bind ?_ (fun _=>?_)
theorem laws_toBlkLastS.mono : ∀ a0 k, LeO (laws_toBlkLastS.f k a0) (laws_toBlkLastS.f (k + 1) a0) := by
 intro a0 k;have ih0:=laws_toBlkLastS.mono_l k
 unfold laws_toBlkLastS.f
 repeat' first
   | (with_reducible first|apply ih0|exact LeO.refl _|exact LeO.none _|refine LeO.ite ?_ ?_|refine LeO.bind ?_ (fun _=>?_))|exact LeO.none _|refine LeO.ite ?_ ?_|refine LeO.bind ?_ (fun _=>?_)
set_option maxHeartbeats 8000000 in
set_option maxRecDepth 100000 in
theorem laws_toBlkLastS.calls {k : Nat} {A0 : Option Addr} {c0 : Nat} {l0 : List (S148)} {r : List (S140)} {w : World} (hr0 : Kd.C k148 w A0 l0.length l0) (hc0 : l0.length ≤ c0) (h : laws_toBlkLastS.f k l0 = some r) :
  Calls Try.prog 73 #[.slice A0 l0.length c0] w fun e w'=>∃ v0_:Value,e=.returned (v0_)∧Kd.R k140 140 w' w.heap.size (fun _=>True) v0_ r∧Below w.heap.size w w':=by
 have hu148:=Try.underlying148;have hu140:=Try.underlying140;have HR0:=mA hr0;have HC0:=mA hc0;clear hr0 hc0;have HB:=mA (Below.refl w.heap.size w);have H:(if 0≤(l0.length:Int) then (if ((l0.length:Int):Int).toNat≤17592186044416 then (laws_toBlkLastS.l0 k l0 (List.replicate ((l0.length:Int):Int).toNat z140) 0) else (none)) else (none))=some r:=h;clear h
 by_cases c2:0≤(l0.length:Int)
 ·rw [if_pos c2] at H;have c2b0:=eq_true c2;have c2b1:decide (0≤(l0.length:Int))=true:=decide_eq_true c2;clear c2
  by_cases c3:((l0.length:Int):Int).toNat≤17592186044416
  ·rw [if_pos c3] at H;have c3b0:=eq_true c3;have c3b1:decide (((l0.length:Int):Int).toNat≤17592186044416)=true:=decide_eq_true c3;clear c3;obtain ⟨y651,hy651⟩:∃ y_:List (S140),y_=(List.replicate ((l0.length:Int):Int).toNat z140):=⟨_,rfl⟩
   replace H:(laws_toBlkLastS.l0 k l0 y651 0)=some r:=qH hy651 H
   have Ny651:=mA hy651;clear hy651;have H':=mA H;clear H
   go_enter Try.func73,Try.ntmps73
   go_wp2_with (first|((with_reducible refine gT 7 rfl ?_);refine Kd.R_make k140 _ 140 rfl (N:=7) rfl 26 _ _ rfl (l0.length:Int) rfl rfl Try.underlying26 (.agg #[(.int .i64 0),(.int .i64 0)]) 16 info140 rfl aD (by omega) z140 (ok:=fun _=>True) (okp:=fun _=>True) (k140_mkM _ _ _ z140 ) (fun _ hk=>hk) trivial (of_decide_eq_true bA) (Nat.le_trans (Nat.mul_le_mul_right _ (of_decide_eq_true bA:(l0.length:Int).toNat≤17592186044416)) (by omega)) (Below.refl _ _) (Nat.le_refl _) ?_;intro v652 w4 ho5 hb hg_ hnew_;clear hg_ hnew_;(first|rw [← Ny651.out] at ho5|(simp only [Int.reduceToNat] at ho5;rw [← Ny651.out] at ho5));have HO653:=mA (Kd.R_lower ho5 (bpB HB));replace HB:=spB HB hb;clear hb ho5))
   go_loopg [4] k (fun kq v4 w'=>∃ (x3_1:List (S140)) (x4_1:Int),v4=.int .i64 x4_1∧Aside0 (laws_toBlkLastS.l0 kq l0 x3_1 x4_1=some r)∧Aside0 (kq≤k)∧Aside0 (Kd.R k140 140 w' w.heap.size (fun _=>True) v652 x3_1)∧Aside0 (Below w.heap.size w w'))
   case atStart=>exact ⟨(y651),(0),bZ,H',⟨Nat.le_refl _⟩,⟨pR HO653.out⟩,⟨pB HB.out⟩⟩
   case round =>
    clear H'
    (try clear c2);(try clear c2b0);(try clear c2b1);(try clear c3);(try clear c3b0);(try clear c3b1)
    obtain ⟨x3_1,x4_1,rfl,HA,HK1,HO_3,HB⟩:=hrel
    cases gk with
    | zero=>exact absurd HA.out (by simp [laws_toBlkLastS.l0])
    | succ k1 =>
     have H:=HA.out;clear HA;simp only [laws_toBlkLastS.l0] at H
     by_cases c6:x4_1<(l0.length:Int)
     ·rw [if_pos c6] at H;have c6b0:decide (x4_1<(l0.length:Int))=true:=decide_eq_true c6;clear c6
      by_cases c7:0≤x4_1
      ·rw [if_pos c7] at H;have c7b0:decide (0≤x4_1)=true:=decide_eq_true c7;clear c7;obtain ⟨⟨t655,t656⟩,A8,H⟩:=bI H;(try dsimp only at H)
       by_cases c9:x4_1<(x3_1.length:Int)
       ·rw [if_pos c9] at H;have c9b0:decide (x4_1<(x3_1.length:Int))=true:=decide_eq_true c9;clear c9;obtain ⟨y657,hy657⟩:∃ y_:List (S140),y_=(x3_1.set (x4_1:Int).toNat (⟨t655,t656⟩:S140)):=⟨_,rfl⟩
        replace H:(laws_toBlkLastS.l0 k1 l0 y657 (wrap64 (x4_1+1)))=some r:=qH hy657 H
        have Ny657:=mA hy657;clear hy657;have H':=mA H;clear H;have p654:0≤(x4_1:Int):=of_decide_eq_true bA;have q654:x4_1<(l0.length:Int):=of_decide_eq_true bA;obtain ⟨ad654,e654,hx654_0,hx654_1⟩:=at_T148 HR0.out x4_1 p654 q654;cases e654;replace hx654_0:=hC HB hx654_0;replace hx654_1:=hC HB hx654_1;replace p654:=eq_true p654;replace q654:=eq_true q654
        go_wp2_with (first|((with_reducible refine gT 20 rfl ?_);refine gC (some 20) Try.func131 (laws_toBlkLast.calls A8.out) ?_;rintro e w11 ⟨rfl,hb⟩;refine ⟨_,rfl,?_⟩;replace HO_3:=rB HO_3 hb;replace HB:=spB HB hb;(try clear hb);have p10:0≤(x4_1:Int):=of_decide_eq_true bA;have q10:(x4_1:Int)<((x3_1.length:Int):Int):=of_decide_eq_true bA;obtain ⟨go10,co10,eo10,gb10,gl10,cl10,HG10⟩:=Kd.R_form HO_3.out (by omega);(first|cases eo10|(injection eo10 with ea_ en_ ec_;(first|subst ea_|(injection ea_ with ea_;subst ea_));subst ec_;clear en_));have GB10:=mA gb10;have GG10:=mA HG10;clear gb10 gl10 HG10;obtain ⟨ce10,hcl10,hM10,hcc10,hfr10⟩:=Kd.R_elem HO_3.out z140 (x4_1:Int) p10 q10;obtain rfl:=k140_openM hM10;have hx10_0:w11.cell? ⟨go10,(x4_1:Int).toNat * 2,none⟩=some (.int .i64 ((rd_T140 x3_1 x4_1).f0)):=hcc10 0 _ rfl;have hx10_1:w11.cell? ⟨go10,(x4_1:Int).toNat * 2+1,none⟩=some (.int .i64 ((rd_T140 x3_1 x4_1).f1)):=hcc10 1 _ rfl;have hf10_0:w11.frozen? ⟨go10,(x4_1:Int).toNat * 2,none⟩=false:=hfr10 0;have hf10_1:w11.frozen? ⟨go10,(x4_1:Int).toNat * 2+1,none⟩=false:=hfr10 1;clear hcl10 hcc10 hfr10 hM10;replace p10:=eq_true p10;replace q10:=eq_true q10;have HX12:=mA (show Kd.R k140 140 w11 w.heap.size (fun _=>True) (.slice (some ⟨go10,0,none⟩) x3_1.length co10) x3_1 from (pR HO_3.out));obtain ⟨ce12,hcl12,hM12,hcc12,hfr12⟩:=Kd.R_elem HX12.out z140 (x4_1:Int) (of_decide_eq_true bA) (by have h_:(x4_1:Int)<((x3_1.length:Int):Int):=of_decide_eq_true bA;first|exact h_|(have e_:=(Kd.R_reads' HO_3.out).1;omega)|simpa using h_);obtain rfl:=k140_openM hM12;have HP12:=Kd.R_seg HX12.out (x4_1:Int) (of_decide_eq_true bA) (by have h_:(x4_1:Int)<((x3_1.length:Int):Int):=of_decide_eq_true bA;first|exact h_|(have e_:=(Kd.R_reads' HO_3.out).1;omega)|simpa using h_) (seg:=[.int .i64 t655,.int .i64 t656]) (j:=0) hcl12 hcc12 (show 2≤2 from by decide) (x':=(⟨t655,t656⟩:S140)) (k140_mkM _ _ _ (⟨t655,t656⟩:S140) ) (fun _ hk=>hk);have hx12_0:=hcc12 0 _ rfl;(try simp only [show (k140).sz=2 from rfl,Nat.mul_one,Nat.add_zero] at hx12_0);have hf12_0:=hfr12 0;(try simp only [show (k140).sz=2 from rfl,Nat.mul_one,Nat.add_zero] at hf12_0);have hx12_1:=hcc12 1 _ rfl;(try simp only [show (k140).sz=2 from rfl,Nat.mul_one,Nat.add_zero] at hx12_1);have hf12_1:=hfr12 1;(try simp only [show (k140).sz=2 from rfl,Nat.mul_one,Nat.add_zero] at hf12_1);clear hcl12 hcc12 hfr12 hM12)|((with_reducible refine gate_store (t:=140) (p:=21) rfl ?_);refine store_event (t:=140) (p:=21) (v:=?vo_w13) (w1:=((w11.setCell ⟨go10,(x4_1:Int).toNat * 2,none⟩ (.int .i64 t655)).setCell ⟨go10,(x4_1:Int).toNat * 2+1,none⟩ (.int .i64 t656))) ?hg ?ho ?hn ?hr ?_;(case ho=>rfl);(case hg=>rfl);(case hn=>rfl);(case hr=>first|(go_simp;done)|(go_simp;rfl));intro w13 hw;have hg:w11.grownBy w13 (some go10):=(by rw [hw];exact HP12.2);have hp_:Kd.R k140 140 w13 w.heap.size (fun _=>True) (.slice (some ⟨go10,0,none⟩) x3_1.length co10) y657:=(by rw [hw,Ny657.out];exact HP12.1);clear HP12;replace HO_3:=mA hp_;replace HB:=mA (by rw [hw];exact below_set (below_set (HB.out) GB10.out) GB10.out:Below w.heap.size w w13);clear hg hw hp_))
        go_roundg k1
        case measure=>have:=HK1.out;omega
        case rel=>exact ⟨(y657),(wrap64 (x4_1+1)),bZ,H',⟨by have:=HK1.out;omega⟩,⟨pR HO_3.out⟩,⟨pB HB.out⟩⟩
       ·rw [if_neg c9] at H
        exact absurd H (by simp)
      ·rw [if_neg c7] at H
       exact absurd H (by simp)
     ·rw [if_neg c6] at H;have c6b0:decide (x4_1<(l0.length:Int))=false:=decide_eq_false c6;clear c6;obtain rfl:=Option.some.inj H
      go_wp2
      go_ret
      exact ⟨_,by first|rfl|(simp [errW_none,errW_some]<;>rfl)|(simp [*,errW_none,errW_some]<;>rfl),pR HO_3.out,pB HB.out⟩
  ·rw [if_neg c3] at H
   exact absurd H (by simp)
 ·rw [if_neg c2] at H
  exact absurd H (by simp)

/-! ### laws_toWord: function 18 -/
def laws_toWord.f (k : Nat) (a0_0 : Int) (a0_1 : Int) (a0_2 : Int) (a0_3 : Int) (a0_4 : Int) (a0_5 : Int) (a0_6 : Int) (a0_7 : Int) (a0_8 : Int) (a0_9 : Int) (a0_10 : Int) (a0_11 : Int) (a0_12 : Int) (a0_13 : Int) (a0_14 : Int) (a0_15 : Int) (a0_16 : Int) (a0_17 : Int) (a0_18 : Int) (a0_19 : Int) (a0_20 : Int) (a0_21 : Int) (a0_22 : Int) (a0_23 : Int) (l0_24 : List (S146)) (l0_25 : List (S148)) : Option (Int × Int × Int × Int × Int × Int × Int × Int × Int × Int × Int × Int × Int × Int × Int × Int × Int × Int × Int × Int × Int × Int × Int × Int × (List (S138)) × (List (S140))) := (laws_toCmd.f a0_6 a0_7 a0_8 a0_9 a0_10 a0_11 a0_12 a0_13 a0_14 a0_15).bind fun bt661 => ((laws_toBlkPieceS.f k l0_24).bind fun t671 => ((laws_toBlkLastS.f k l0_25).bind fun t674 => (some (a0_0, a0_1, a0_2, a0_3, a0_4, a0_5, bt661.1, bt661.2.1, bt661.2.2.1, bt661.2.2.2.1, bt661.2.2.2.2.1, bt661.2.2.2.2.2.1, bt661.2.2.2.2.2.2.1, bt661.2.2.2.2.2.2.2.1, bt661.2.2.2.2.2.2.2.2.1, bt661.2.2.2.2.2.2.2.2.2, a0_16, a0_17, a0_18, a0_19, a0_20, a0_21, a0_22, a0_23, t671, t674))))
theorem laws_toWord.mono : ∀ a0 a1 a2 a3 a4 a5 a6 a7 a8 a9 a10 a11 a12 a13 a14 a15 a16 a17 a18 a19 a20 a21 a22 a23 a24 a25 k, LeO (laws_toWord.f k a0 a1 a2 a3 a4 a5 a6 a7 a8 a9 a10 a11 a12 a13 a14 a15 a16 a17 a18 a19 a20 a21 a22 a23 a24 a25) (laws_toWord.f (k + 1) a0 a1 a2 a3 a4 a5 a6 a7 a8 a9 a10 a11 a12 a13 a14 a15 a16 a17 a18 a19 a20 a21 a22 a23 a24 a25) := by
 intro a0 a1 a2 a3 a4 a5 a6 a7 a8 a9 a10 a11 a12 a13 a14 a15 a16 a17 a18 a19 a20 a21 a22 a23 a24 a25 k
 unfold laws_toWord.f
 repeat' first
   | (with_reducible first|apply laws_toBlkLastS.mono|apply laws_toBlkPieceS.mono|exact LeO.refl _|exact LeO.none _|refine LeO.ite ?_ ?_|refine LeO.bind ?_ (fun _=>?_))|exact LeO.none _|refine LeO.ite ?_ ?_|refine LeO.bind ?_ (fun _=>?_)
set_option maxHeartbeats 8000000 in
set_option maxRecDepth 100000 in
theorem laws_toWord.calls {k : Nat} {a0_0 : Int} {a0_1 : Int} {a0_2 : Int} {a0_3 : Int} {a0_4 : Int} {a0_5 : Int} {a0_6 : Int} {a0_7 : Int} {a0_8 : Int} {a0_9 : Int} {a0_10 : Int} {a0_11 : Int} {a0_12 : Int} {a0_13 : Int} {a0_14 : Int} {a0_15 : Int} {a0_16 : Int} {a0_17 : Int} {a0_18 : Int} {a0_19 : Int} {a0_20 : Int} {a0_21 : Int} {a0_22 : Int} {a0_23 : Int} {A0_24 : Option Addr} {c0_24 : Nat} {l0_24 : List (S146)} {A0_25 : Option Addr} {c0_25 : Nat} {l0_25 : List (S148)} {r1 : Int} {r2 : Int} {r3 : Int} {r4 : Int} {r5 : Int} {r6 : Int} {r7 : Int} {r8 : Int} {r9 : Int} {r10 : Int} {r11 : Int} {r12 : Int} {r13 : Int} {r14 : Int} {r15 : Int} {r16 : Int} {r17 : Int} {r18 : Int} {r19 : Int} {r20 : Int} {r21 : Int} {r22 : Int} {r23 : Int} {r24 : Int} {r25 : List (S138)} {r26 : List (S140)} {w : World} (hr0_24 : Kd.C k146 w A0_24 l0_24.length l0_24) (hc0_24 : l0_24.length ≤ c0_24) (hr0_25 : Kd.C k148 w A0_25 l0_25.length l0_25) (hc0_25 : l0_25.length ≤ c0_25) (h : laws_toWord.f k a0_0 a0_1 a0_2 a0_3 a0_4 a0_5 a0_6 a0_7 a0_8 a0_9 a0_10 a0_11 a0_12 a0_13 a0_14 a0_15 a0_16 a0_17 a0_18 a0_19 a0_20 a0_21 a0_22 a0_23 l0_24 l0_25 = some (r1, r2, r3, r4, r5, r6, r7, r8, r9, r10, r11, r12, r13, r14, r15, r16, r17, r18, r19, r20, r21, r22, r23, r24, r25, r26)) :
  Calls Try.prog 18 #[.agg #[.int .i64 a0_0,.int .i64 a0_1,.int .i64 a0_2,.int .i64 a0_3,.int .i64 a0_4,.int .i64 a0_5,.int .i64 a0_6,.int .i64 a0_7,.int .i64 a0_8,.int .i64 a0_9,.int .i64 a0_10,.int .i64 a0_11,.int .i64 a0_12,.int .i64 a0_13,.int .i64 a0_14,.int .i64 a0_15,.int .i64 a0_16,.int .i64 a0_17,.int .i64 a0_18,.int .i64 a0_19,.int .i64 a0_20,.int .i64 a0_21,.int .i64 a0_22,.int .i64 a0_23,.slice A0_24 l0_24.length c0_24,.slice A0_25 l0_25.length c0_25]] w fun e w'=>∃ v24_ v25_:Value,e=.returned (.agg #[.int .i64 r1,.int .i64 r2,.int .i64 r3,.int .i64 r4,.int .i64 r5,.int .i64 r6,.int .i64 r7,.int .i64 r8,.int .i64 r9,.int .i64 r10,.int .i64 r11,.int .i64 r12,.int .i64 r13,.int .i64 r14,.int .i64 r15,.int .i64 r16,.int .i64 r17,.int .i64 r18,.int .i64 r19,.int .i64 r20,.int .i64 r21,.int .i64 r22,.int .i64 r23,.int .i64 r24,v24_,v25_])∧Kd.R k138 138 w' w.heap.size (fun _=>True) v24_ r25∧Kd.R k140 140 w' w.heap.size (fun _=>True) v25_ r26∧Below w.heap.size w w':=by
 have hu36:=Try.underlying36;have hu28:=Try.underlying28;have hu32:=Try.underlying32;have hu24:=Try.underlying24;have HR0_24:=mA hr0_24;have HC0_24:=mA hc0_24;clear hr0_24 hc0_24;have HR0_25:=mA hr0_25;have HC0_25:=mA hc0_25;clear hr0_25 hc0_25;have HB:=mA (Below.refl w.heap.size w);have H:((laws_toCmd.f a0_6 a0_7 a0_8 a0_9 a0_10 a0_11 a0_12 a0_13 a0_14 a0_15).bind fun bt661=>((laws_toBlkPieceS.f k l0_24).bind fun t671=>((laws_toBlkLastS.f k l0_25).bind fun t674=>(some (a0_0,a0_1,a0_2,a0_3,a0_4,a0_5,bt661.1,bt661.2.1,bt661.2.2.1,bt661.2.2.2.1,bt661.2.2.2.2.1,bt661.2.2.2.2.2.1,bt661.2.2.2.2.2.2.1,bt661.2.2.2.2.2.2.2.1,bt661.2.2.2.2.2.2.2.2.1,bt661.2.2.2.2.2.2.2.2.2,a0_16,a0_17,a0_18,a0_19,a0_20,a0_21,a0_22,a0_23,t671,t674)))))=some (r1,r2,r3,r4,r5,r6,r7,r8,r9,r10,r11,r12,r13,r14,r15,r16,r17,r18,r19,r20,r21,r22,r23,r24,r25,r26):=h;clear h;obtain ⟨⟨t661,t662,t663,t664,t665,t666,t667,t668,t669,t670⟩,A2,H⟩:=bI H;(try dsimp only at H);obtain ⟨t671,A3,H⟩:=bI H;(try dsimp only at H);obtain ⟨t674,A4,H⟩:=bI H;(try dsimp only at H);simp only [Option.some.injEq,Prod.mk.injEq] at H;obtain ⟨rfl,rfl,rfl,rfl,rfl,rfl,rfl,rfl,rfl,rfl,rfl,rfl,rfl,rfl,rfl,rfl,rfl,rfl,rfl,rfl,rfl,rfl,rfl,rfl,rfl,rfl⟩:=H
 go_enter Try.func18,Try.ntmps18
 go_wp2_with (first|((with_reducible refine gLg rfl (by assumption) ?_);refine ldV ?_)|((with_reducible refine gSt rfl (by assumption) ?_);refine stV ?_)|((with_reducible refine gT 1 rfl ?_);refine bE 1 #[.int .i64 a0_0,.int .i64 a0_1,.int .i64 a0_2,.int .i64 a0_3,.int .i64 a0_4,.int .i64 a0_5,.int .i64 a0_6,.int .i64 a0_7,.int .i64 a0_8,.int .i64 a0_9,.int .i64 a0_10,.int .i64 a0_11,.int .i64 a0_12,.int .i64 a0_13,.int .i64 a0_14,.int .i64 a0_15,.int .i64 a0_16,.int .i64 a0_17,.int .i64 a0_18,.int .i64 a0_19,.int .i64 a0_20,.int .i64 a0_21,.int .i64 a0_22,.int .i64 a0_23,.slice A0_24 l0_24.length c0_24,.slice A0_25 l0_25.length c0_25] 36 ?_;intro gb658 hg w5 hbox hb;have BK658:=mA hbox;have GW658:=gbpB HB hg;have GE658:=gbpB HB hg;replace HB:=spB HB hb;clear hb hbox hg)|((with_reducible refine gT 2 rfl ?_);refine bE 2 #[.int .i64 0,.int .i64 0,.int .i64 0,.int .i64 0,.int .i64 0,.int .i64 0,.int .i64 0,.int .i64 0,.int .i64 0,.int .i64 0,.int .i64 0,.int .i64 0,.int .i64 0,.int .i64 0,.int .i64 0,.int .i64 0,.int .i64 0,.int .i64 0,.int .i64 0,.int .i64 0,.int .i64 0,.int .i64 0,.int .i64 0,.int .i64 0,.slice none 0 0,.slice none 0 0] 28 ?_;intro gb659 hg w6 hbox hb;have BK659:=mA hbox;have GW659:=gbpS HB hg;have GE659:=gbpS HB hg;replace HB:=spS HB hb;have NB658_659:=mA (lN (blk_lt (pK BK658.out)) hg);have NB659_658:=nS NB658_659;replace BK658:=bK BK658 hb;clear hb hbox hg)|((with_reducible refine gT 3 rfl ?_);refine bE 3 #[.int .i64 0,.int .i64 0,.int .i64 0,.int .i64 0,.int .i64 0,.int .i64 0,.int .i64 0,.int .i64 0,.int .i64 0,.int .i64 0,.int .i64 0,.int .i64 0,.int .i64 0,.int .i64 0,.int .i64 0,.int .i64 0,.int .i64 0,.int .i64 0,.int .i64 0,.int .i64 0,.int .i64 0,.int .i64 0,.int .i64 0,.int .i64 0,.slice none 0 0,.slice none 0 0] 28 ?_;intro gb660 hg w7 hbox hb;have BK660:=mA hbox;have GW660:=gbpS HB hg;have GE660:=gbpS HB hg;replace HB:=spS HB hb;have NB658_660:=mA (lN (blk_lt (pK BK658.out)) hg);have NB660_658:=nS NB658_660;replace BK658:=bK BK658 hb;have NB659_660:=mA (lN (blk_lt (pK BK659.out)) hg);have NB660_659:=nS NB659_660;replace BK659:=bK BK659 hb;clear hb hbox hg;have hnb8:=NB658_659.out;have hnc8:=NB659_658.out;have hnb9:=NB658_660.out;have hnc9:=NB660_658.out;have hcz10_0:=fun i_=>blk_cell BK658.out i_;have hfz10_0:=fun i_=>blk_frozen BK658.out i_;have hnb11:=NB660_659.out;have hnc11:=NB659_660.out;have hcz12_0:=fun i_=>blk_cell BK660.out i_;have hfz12_0:=fun i_=>blk_frozen BK660.out i_)|((with_reducible refine gT 24 rfl ?_);refine gC (some 24) Try.func36 (laws_toCmd.calls A2.out) ?_;rintro e w13 ⟨rfl,hb⟩;refine ⟨_,rfl,?_⟩;replace BK658:=mA (blk_below (g:=gb658) (o:=.cells #[.int .i64 a0_0,.int .i64 a0_1,.int .i64 a0_2,.int .i64 a0_3,.int .i64 a0_4,.int .i64 a0_5,.int .i64 a0_6,.int .i64 a0_7,.int .i64 a0_8,.int .i64 a0_9,.int .i64 a0_10,.int .i64 a0_11,.int .i64 a0_12,.int .i64 a0_13,.int .i64 a0_14,.int .i64 a0_15,.int .i64 a0_16,.int .i64 a0_17,.int .i64 a0_18,.int .i64 a0_19,.int .i64 a0_20,.int .i64 a0_21,.int .i64 a0_22,.int .i64 a0_23,.slice A0_24 l0_24.length c0_24,.slice A0_25 l0_25.length c0_25] 36 (0,0)) (pF BK658.out) hb);replace BK659:=mA (blk_below (g:=gb659) (o:=.cells #[.int .i64 0,.int .i64 0,.int .i64 0,.int .i64 0,.int .i64 0,.int .i64 0,.int .i64 0,.int .i64 0,.int .i64 0,.int .i64 0,.int .i64 0,.int .i64 0,.int .i64 0,.int .i64 0,.int .i64 0,.int .i64 0,.int .i64 0,.int .i64 0,.int .i64 0,.int .i64 0,.int .i64 0,.int .i64 0,.int .i64 0,.int .i64 0,.slice none 0 0,.slice none 0 0] 28 (0,0)) (pF BK659.out) hb);replace BK660:=mA (blk_below (g:=gb660) (o:=.cells #[.int .i64 a0_0,.int .i64 a0_1,.int .i64 a0_2,.int .i64 a0_3,.int .i64 a0_4,.int .i64 a0_5,.int .i64 0,.int .i64 0,.int .i64 0,.int .i64 0,.int .i64 0,.int .i64 0,.int .i64 0,.int .i64 0,.int .i64 0,.int .i64 0,.int .i64 0,.int .i64 0,.int .i64 0,.int .i64 0,.int .i64 0,.int .i64 0,.int .i64 0,.int .i64 0,.slice none 0 0,.slice none 0 0] 28 (0,0)) (pP BK660) hb);replace HB:=spS HB hb;(try clear hb);have hcz14_0:=fun i_=>blk_cell BK660.out i_;have hfz14_0:=fun i_=>blk_frozen BK660.out i_;have hcz15_0:=fun i_=>blk_cell BK658.out i_;have hfz15_0:=fun i_=>blk_frozen BK658.out i_)|((with_reducible refine gT 52 rfl ?_);refine gC (some 52) Try.func72 (laws_toBlkPieceS.calls (Kd.C_below HR0_24.out (pS HB.out)) HC0_24.out A3.out) ?_;rintro e w16 ⟨v672,rfl,ho0,hb⟩;refine ⟨_,rfl,?_⟩;have HO673:=mA (Kd.R_lower ho0 (bpS HB));replace BK658:=mA (blk_below (g:=gb658) (o:=.cells #[.int .i64 a0_0,.int .i64 a0_1,.int .i64 a0_2,.int .i64 a0_3,.int .i64 a0_4,.int .i64 a0_5,.int .i64 a0_6,.int .i64 a0_7,.int .i64 a0_8,.int .i64 a0_9,.int .i64 a0_10,.int .i64 a0_11,.int .i64 a0_12,.int .i64 a0_13,.int .i64 a0_14,.int .i64 a0_15,.int .i64 a0_16,.int .i64 a0_17,.int .i64 a0_18,.int .i64 a0_19,.int .i64 a0_20,.int .i64 a0_21,.int .i64 a0_22,.int .i64 a0_23,.slice A0_24 l0_24.length c0_24,.slice A0_25 l0_25.length c0_25] 36 (0,0)) (pF BK658.out) hb);replace BK659:=mA (blk_below (g:=gb659) (o:=.cells #[.int .i64 0,.int .i64 0,.int .i64 0,.int .i64 0,.int .i64 0,.int .i64 0,.int .i64 0,.int .i64 0,.int .i64 0,.int .i64 0,.int .i64 0,.int .i64 0,.int .i64 0,.int .i64 0,.int .i64 0,.int .i64 0,.int .i64 0,.int .i64 0,.int .i64 0,.int .i64 0,.int .i64 0,.int .i64 0,.int .i64 0,.int .i64 0,.slice none 0 0,.slice none 0 0] 28 (0,0)) (pF BK659.out) hb);replace BK660:=mA (blk_below (g:=gb660) (o:=.cells #[.int .i64 a0_0,.int .i64 a0_1,.int .i64 a0_2,.int .i64 a0_3,.int .i64 a0_4,.int .i64 a0_5,.int .i64 t661,.int .i64 t662,.int .i64 t663,.int .i64 t664,.int .i64 t665,.int .i64 t666,.int .i64 t667,.int .i64 t668,.int .i64 t669,.int .i64 t670,.int .i64 a0_16,.int .i64 a0_17,.int .i64 a0_18,.int .i64 a0_19,.int .i64 a0_20,.int .i64 a0_21,.int .i64 a0_22,.int .i64 a0_23,.slice none 0 0,.slice none 0 0] 28 (0,0)) (pP BK660) hb);replace HB:=spS HB hb;(try clear hb);(try clear ho0);obtain ⟨Ao17,co17,rfl⟩:=Kd.R_slice HO673.out;have hcz18_0:=fun i_=>blk_cell BK660.out i_;have hfz18_0:=fun i_=>blk_frozen BK660.out i_;have hcz19_0:=fun i_=>blk_cell BK658.out i_;have hfz19_0:=fun i_=>blk_frozen BK658.out i_)|((with_reducible refine gT 56 rfl ?_);refine gC (some 56) Try.func73 (laws_toBlkLastS.calls (Kd.C_below HR0_25.out (pS HB.out)) HC0_25.out A4.out) ?_;rintro e w20 ⟨v675,rfl,ho0,hb⟩;refine ⟨_,rfl,?_⟩;replace HO673:=mA (Kd.R_below (pG HO673 BK660) hb);have HO676:=mA (Kd.R_lower ho0 (bpS HB));replace BK658:=mA (blk_below (g:=gb658) (o:=.cells #[.int .i64 a0_0,.int .i64 a0_1,.int .i64 a0_2,.int .i64 a0_3,.int .i64 a0_4,.int .i64 a0_5,.int .i64 a0_6,.int .i64 a0_7,.int .i64 a0_8,.int .i64 a0_9,.int .i64 a0_10,.int .i64 a0_11,.int .i64 a0_12,.int .i64 a0_13,.int .i64 a0_14,.int .i64 a0_15,.int .i64 a0_16,.int .i64 a0_17,.int .i64 a0_18,.int .i64 a0_19,.int .i64 a0_20,.int .i64 a0_21,.int .i64 a0_22,.int .i64 a0_23,.slice A0_24 l0_24.length c0_24,.slice A0_25 l0_25.length c0_25] 36 (0,0)) (pF BK658.out) hb);replace BK659:=mA (blk_below (g:=gb659) (o:=.cells #[.int .i64 0,.int .i64 0,.int .i64 0,.int .i64 0,.int .i64 0,.int .i64 0,.int .i64 0,.int .i64 0,.int .i64 0,.int .i64 0,.int .i64 0,.int .i64 0,.int .i64 0,.int .i64 0,.int .i64 0,.int .i64 0,.int .i64 0,.int .i64 0,.int .i64 0,.int .i64 0,.int .i64 0,.int .i64 0,.int .i64 0,.int .i64 0,.slice none 0 0,.slice none 0 0] 28 (0,0)) (pF BK659.out) hb);replace BK660:=mA (blk_below (g:=gb660) (o:=.cells #[.int .i64 a0_0,.int .i64 a0_1,.int .i64 a0_2,.int .i64 a0_3,.int .i64 a0_4,.int .i64 a0_5,.int .i64 t661,.int .i64 t662,.int .i64 t663,.int .i64 t664,.int .i64 t665,.int .i64 t666,.int .i64 t667,.int .i64 t668,.int .i64 t669,.int .i64 t670,.int .i64 a0_16,.int .i64 a0_17,.int .i64 a0_18,.int .i64 a0_19,.int .i64 a0_20,.int .i64 a0_21,.int .i64 a0_22,.int .i64 a0_23,.slice Ao17 t671.length co17,.slice none 0 0] 28 (0,0)) (pP BK660) hb);replace HB:=spS HB hb;(try clear hb);(try clear ho0);obtain ⟨Ao21,co21,rfl⟩:=Kd.R_slice HO676.out;have hcz22_0:=fun i_=>blk_cell BK660.out i_;have hfz22_0:=fun i_=>blk_frozen BK660.out i_;have hcz23_0:=fun i_=>blk_cell BK659.out i_;have hfz23_0:=fun i_=>blk_frozen BK659.out i_))
 refine bodyPost_ret (results_cell_row rfl _ _ gb659 28 #[.int .i64 a0_0,.int .i64 a0_1,.int .i64 a0_2,.int .i64 a0_3,.int .i64 a0_4,.int .i64 a0_5,.int .i64 t661,.int .i64 t662,.int .i64 t663,.int .i64 t664,.int .i64 t665,.int .i64 t666,.int .i64 t667,.int .i64 t668,.int .i64 t669,.int .i64 t670,.int .i64 a0_16,.int .i64 a0_17,.int .i64 a0_18,.int .i64 a0_19,.int .i64 a0_20,.int .i64 a0_21,.int .i64 a0_22,.int .i64 a0_23,.slice Ao17 t671.length co17,.slice Ao21 t674.length co21] (0,0) _ rfl (pP BK659) Try.underlying28 rfl aK) rfl ?_
 exact ⟨_,_,by first|rfl|(simp [errW_none,errW_some]<;>rfl)|(simp [*,errW_none,errW_some]<;>rfl),pUU HO673 BK660 BK659,pUU HO676 BK660 BK659,pS HB.out⟩

end Go.Proofs.Ytoieojmfkkidnaa.P
