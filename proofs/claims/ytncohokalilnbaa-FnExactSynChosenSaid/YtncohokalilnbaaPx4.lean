-- printed by pprint.py (this session's program over the kit's printer) out of the translation. Lean checks it.
import Derived.Test.YtncohokalilnbaaPx0
import Derived.Test.YtncohokalilnbaaPx3
namespace Go.Proofs.Ytncohokalilnbaa.P
open Go.RowKit Go.Proofs.YtncohokalilnbaaX Go.Proofs.YtncohokalilnbaaW.PrintWords Go.Proofs.YtncohokalilnbaaW.PrintLast Go.Proofs.YtncohokalilnbaaW.PrintMore
attribute [local go_sem] max2_int min2_int max_two min_two max_three min_three max_four min_four   -- for this text's walks alone
set_option linter.unusedVariables false
set_option linter.unusedSimpArgs false

/-! ### laws_eqBlkPiece: function 156 -/
def laws_eqBlkPiece.f (a0_0 a0_1 a0_2 a0_3 a1_0 a1_1 a1_2 a1_3 : Int) : Option (Bool) := if a0_0 = a1_0 then (if a0_1 = a1_1 then (if a0_2 = a1_2 then (if a0_3 = a1_3 then (some true) else (some false)) else (some false)) else (some false)) else (some false)
set_option maxHeartbeats 8000000 in
set_option maxRecDepth 100000 in
theorem laws_eqBlkPiece.calls {a0_0 a0_1 a0_2 a0_3 a1_0 a1_1 a1_2 a1_3 : Int} {r : Bool} {w : World} (h : laws_eqBlkPiece.f a0_0 a0_1 a0_2 a0_3 a1_0 a1_1 a1_2 a1_3 = some r) :
  Calls Try.prog 156 #[.agg #[.int .i64 a0_0,.int .i64 a0_1,.int .i64 a0_2,.int .i64 a0_3],.agg #[.int .i64 a1_0,.int .i64 a1_1,.int .i64 a1_2,.int .i64 a1_3]] w fun e w'=>e=.returned (.bool r)∧Below w.heap.size w w':=by
 have hu164:=Try.underlying164;have HB:=mA (Below.refl w.heap.size w);have H:(if a0_0=a1_0 then (if a0_1=a1_1 then (if a0_2=a1_2 then (if a0_3=a1_3 then (some true) else (some false)) else (some false)) else (some false)) else (some false))=some r:=h;clear h
 by_cases c3:a0_0=a1_0
 ·rw [if_pos c3] at H;obtain ⟨c3b0,c3b1⟩:=eqB c3;clear c3
  by_cases c4:a0_1=a1_1
  ·rw [if_pos c4] at H;obtain ⟨c4b0,c4b1⟩:=eqB c4;clear c4
   by_cases c5:a0_2=a1_2
   ·rw [if_pos c5] at H;obtain ⟨c5b0,c5b1⟩:=eqB c5;clear c5
    by_cases c6:a0_3=a1_3
    ·rw [if_pos c6] at H;obtain ⟨c6b0,c6b1⟩:=eqB c6;clear c6;obtain rfl:=Option.some.inj H
     go_enter Try.func156,Try.ntmps156
     go_wp2_with (first|((with_reducible refine gT 2 rfl ?_);refine bX 2 ?_;intro gb125 hg w7 hbox hb;have BK125:=mA hbox;have GW125:=gbpB HB hg;have GE125:=gbpB HB hg;replace HB:=spB HB hb;clear hb hbox hg)|((with_reducible refine gT 3 rfl ?_);refine bX 3 ?_;intro gb126 hg w8 hbox hb;have BK126:=mA hbox;have GW126:=gbpS HB hg;have GE126:=gbpS HB hg;replace HB:=spS HB hb;have NB125_126:=mA (lN (blk_lt (pK BK125.out)) hg);have hN125_126:=NB125_126.out;have NB126_125:=nS NB125_126;have hN126_125:=NB126_125.out;replace BK125:=bK BK125 hb;clear hb hbox hg;obtain ⟨hcz10_0,hcz10_1,hcz10_2,hcz10_3,hfz10_0,hfz10_1,hfz10_2,hfz10_3⟩:=box4 BK125.out;obtain ⟨hcz11_0,hcz11_1,hcz11_2,hcz11_3,hfz11_0,hfz11_1,hfz11_2,hfz11_3⟩:=box4 BK126.out))
     go_ret
     exact rZ (pS HB.out)
    ·rw [if_neg c6] at H;have c6b0:(a0_3 == a1_3)=false:=beq_eq_false_iff_ne.mpr c6;have c6b1:(a0_3 != a1_3)=true:=bne_iff_ne.mpr c6;obtain rfl:=Option.some.inj H
     go_enter Try.func156,Try.ntmps156
     go_wp2_with (first|((with_reducible refine gT 2 rfl ?_);refine bX 2 ?_;intro gb125 hg w12 hbox hb;have BK125:=mA hbox;have GW125:=gbpB HB hg;have GE125:=gbpB HB hg;replace HB:=spB HB hb;clear hb hbox hg)|((with_reducible refine gT 3 rfl ?_);refine bX 3 ?_;intro gb126 hg w13 hbox hb;have BK126:=mA hbox;have GW126:=gbpS HB hg;have GE126:=gbpS HB hg;replace HB:=spS HB hb;have NB125_126:=mA (lN (blk_lt (pK BK125.out)) hg);have hN125_126:=NB125_126.out;have NB126_125:=nS NB125_126;have hN126_125:=NB126_125.out;replace BK125:=bK BK125 hb;clear hb hbox hg;obtain ⟨hcz15_0,hcz15_1,hcz15_2,hcz15_3,hfz15_0,hfz15_1,hfz15_2,hfz15_3⟩:=box4 BK125.out;obtain ⟨hcz16_0,hcz16_1,hcz16_2,hcz16_3,hfz16_0,hfz16_1,hfz16_2,hfz16_3⟩:=box4 BK126.out))
     go_ret
     exact rZ (pS HB.out)
   ·rw [if_neg c5] at H;have c5b0:(a0_2 == a1_2)=false:=beq_eq_false_iff_ne.mpr c5;have c5b1:(a0_2 != a1_2)=true:=bne_iff_ne.mpr c5;obtain rfl:=Option.some.inj H
    go_enter Try.func156,Try.ntmps156
    go_wp2_with (first|((with_reducible refine gT 2 rfl ?_);refine bX 2 ?_;intro gb125 hg w17 hbox hb;have BK125:=mA hbox;have GW125:=gbpB HB hg;have GE125:=gbpB HB hg;replace HB:=spB HB hb;clear hb hbox hg)|((with_reducible refine gT 3 rfl ?_);refine bX 3 ?_;intro gb126 hg w18 hbox hb;have BK126:=mA hbox;have GW126:=gbpS HB hg;have GE126:=gbpS HB hg;replace HB:=spS HB hb;have NB125_126:=mA (lN (blk_lt (pK BK125.out)) hg);have hN125_126:=NB125_126.out;have NB126_125:=nS NB125_126;have hN126_125:=NB126_125.out;replace BK125:=bK BK125 hb;clear hb hbox hg;obtain ⟨hcz20_0,hcz20_1,hcz20_2,hcz20_3,hfz20_0,hfz20_1,hfz20_2,hfz20_3⟩:=box4 BK125.out;obtain ⟨hcz21_0,hcz21_1,hcz21_2,hcz21_3,hfz21_0,hfz21_1,hfz21_2,hfz21_3⟩:=box4 BK126.out))
    go_ret
    exact rZ (pS HB.out)
  ·rw [if_neg c4] at H;have c4b0:(a0_1 == a1_1)=false:=beq_eq_false_iff_ne.mpr c4;have c4b1:(a0_1 != a1_1)=true:=bne_iff_ne.mpr c4;obtain rfl:=Option.some.inj H
   go_enter Try.func156,Try.ntmps156
   go_wp2_with (first|((with_reducible refine gT 2 rfl ?_);refine bX 2 ?_;intro gb125 hg w22 hbox hb;have BK125:=mA hbox;have GW125:=gbpB HB hg;have GE125:=gbpB HB hg;replace HB:=spB HB hb;clear hb hbox hg)|((with_reducible refine gT 3 rfl ?_);refine bX 3 ?_;intro gb126 hg w23 hbox hb;have BK126:=mA hbox;have GW126:=gbpS HB hg;have GE126:=gbpS HB hg;replace HB:=spS HB hb;have NB125_126:=mA (lN (blk_lt (pK BK125.out)) hg);have hN125_126:=NB125_126.out;have NB126_125:=nS NB125_126;have hN126_125:=NB126_125.out;replace BK125:=bK BK125 hb;clear hb hbox hg;obtain ⟨hcz25_0,hcz25_1,hcz25_2,hcz25_3,hfz25_0,hfz25_1,hfz25_2,hfz25_3⟩:=box4 BK125.out;obtain ⟨hcz26_0,hcz26_1,hcz26_2,hcz26_3,hfz26_0,hfz26_1,hfz26_2,hfz26_3⟩:=box4 BK126.out))
   go_ret
   exact rZ (pS HB.out)
 ·rw [if_neg c3] at H;have c3b0:(a0_0 == a1_0)=false:=beq_eq_false_iff_ne.mpr c3;have c3b1:(a0_0 != a1_0)=true:=bne_iff_ne.mpr c3;obtain rfl:=Option.some.inj H
  go_enter Try.func156,Try.ntmps156
  go_wp2_with (first|((with_reducible refine gT 2 rfl ?_);refine bX 2 ?_;intro gb125 hg w27 hbox hb;have BK125:=mA hbox;have GW125:=gbpB HB hg;have GE125:=gbpB HB hg;replace HB:=spB HB hb;clear hb hbox hg)|((with_reducible refine gT 3 rfl ?_);refine bX 3 ?_;intro gb126 hg w28 hbox hb;have BK126:=mA hbox;have GW126:=gbpS HB hg;have GE126:=gbpS HB hg;replace HB:=spS HB hb;have NB125_126:=mA (lN (blk_lt (pK BK125.out)) hg);have hN125_126:=NB125_126.out;have NB126_125:=nS NB125_126;have hN126_125:=NB126_125.out;replace BK125:=bK BK125 hb;clear hb hbox hg;obtain ⟨hcz30_0,hcz30_1,hcz30_2,hcz30_3,hfz30_0,hfz30_1,hfz30_2,hfz30_3⟩:=box4 BK125.out;obtain ⟨hcz31_0,hcz31_1,hcz31_2,hcz31_3,hfz31_0,hfz31_1,hfz31_2,hfz31_3⟩:=box4 BK126.out))
  go_ret
  exact rZ (pS HB.out)

/-! ### laws_eqBlkPieceS: function 132 -/
def laws_eqBlkPieceS.l0 : Nat → List (S164) → List (S164) → Int → Option (Bool)
 | 0,_,_,_=>none
 | k+1,x0,x1,x5=>if x5<(x0.length:Int) then (if 0≤x5 then (if x5<(x1.length:Int) then ((laws_eqBlkPiece.f ((rd_T164 x0 x5).f0) ((rd_T164 x0 x5).f1) ((rd_T164 x0 x5).f2) ((rd_T164 x0 x5).f3) ((rd_T164 x1 x5).f0) ((rd_T164 x1 x5).f1) ((rd_T164 x1 x5).f2) ((rd_T164 x1 x5).f3)).bind fun t129=>(if t129=true then (laws_eqBlkPieceS.l0 k x0 x1 (wrap64 (x5+1))) else (some false))) else (none)) else (none)) else (some true)
def laws_eqBlkPieceS.f (k : Nat) (l0 : List (S164)) (l1 : List (S164)) : Option (Bool) := if (l0.length : Int) = (l1.length : Int) then (laws_eqBlkPieceS.l0 k l0 l1 0) else (some false)
theorem laws_eqBlkPieceS.mono_l : ∀ k, (∀ y0 y1 y2, LeO (laws_eqBlkPieceS.l0 k y0 y1 y2) (laws_eqBlkPieceS.l0 (k + 1) y0 y1 y2))
 | 0=>fun _ _ _ r h=>by simp [laws_eqBlkPieceS.l0] at h
 | k+1=>by
  have ih0:=laws_eqBlkPieceS.mono_l k
  ·intros
   unfold laws_eqBlkPieceS.l0
   repeat' first
   | (with_reducible first|apply ih0|exact LeO.refl _|exact LeO.none _|refine LeO.ite ?_ ?_|refine LeO.bind ?_ (fun _=>?_))|exact LeO.none _|refine LeO.ite ?_ ?_|refine LeO.bind ?_ (fun _=>?_)
theorem laws_eqBlkPieceS.mono : ∀ a0 a1 k, LeO (laws_eqBlkPieceS.f k a0 a1) (laws_eqBlkPieceS.f (k + 1) a0 a1) := by
 intro a0 a1 k;have ih0:=laws_eqBlkPieceS.mono_l k
 unfold laws_eqBlkPieceS.f
 repeat' first
   | (with_reducible first|apply ih0|exact LeO.refl _|exact LeO.none _|refine LeO.ite ?_ ?_|refine LeO.bind ?_ (fun _=>?_))|exact LeO.none _|refine LeO.ite ?_ ?_|refine LeO.bind ?_ (fun _=>?_)
def laws_eqBlkPieceS.T6 : Bool × List (List Nat × List Nat) := (true, [([], []), ([], []), ([0, 1], [0, 1]), ([2], [2]), ([], []), ([], []), ([4, 5], [4, 5]), ([6], [6]), ([3, 7], [3, 7]), ([8], [8])])
def laws_eqBlkPieceS.B6 : List Nat := [0, 0, 3, 7, 0, 0, 48, 112, 255, 511]
theorem laws_eqBlkPieceS.tab6 : rtab .any (opsOf Try.f132 6) = laws_eqBlkPieceS.T6 := by kernel_rfl
theorem laws_eqBlkPieceS.bits6 : waitsOk laws_eqBlkPieceS.T6.2 laws_eqBlkPieceS.B6 = true := by kernel_rfl
set_option maxHeartbeats 8000000 in
set_option maxRecDepth 100000 in
theorem laws_eqBlkPieceS.calls {k : Nat} {A0 : Option Addr} {c0 : Nat} {l0 : List (S164)} {A1 : Option Addr} {c1 : Nat} {l1 : List (S164)} {r : Bool} {w : World} (hr0 : Kd.C k164 w A0 l0.length l0) (hc0 : l0.length ≤ c0) (hr1 : Kd.C k164 w A1 l1.length l1) (hc1 : l1.length ≤ c1) (h : laws_eqBlkPieceS.f k l0 l1 = some r) :
  Calls Try.prog 132 #[.slice A0 l0.length c0,.slice A1 l1.length c1] w fun e w'=>e=.returned (.bool r)∧Below w.heap.size w w':=by
 have hu164:=Try.underlying164;have HR0:=mA hr0;have HC0:=mA hc0;clear hr0 hc0;have HR1:=mA hr1;have HC1:=mA hc1;clear hr1 hc1;have HB:=mA (Below.refl w.heap.size w);have H:(if (l0.length:Int)=(l1.length:Int) then (laws_eqBlkPieceS.l0 k l0 l1 0) else (some false))=some r:=h;clear h
 by_cases c3:(l0.length:Int)=(l1.length:Int)
 ·rw [if_pos c3] at H;have c3b0:((l0.length:Int) == (l1.length:Int))=true:=beq_iff_eq.mpr c3;have c3b1:((l0.length:Int) != (l1.length:Int))=false:=bne_eq_false_iff_eq.mpr c3
  have c3b2:(l0.length == l1.length)=true:=by first|simpa using c3|(simp at c3 ⊢;omega)
  clear c3;have H':=mA H;clear H
  go_enter Try.func132,Try.ntmps132
  go_wp2
  go_loopg [5] k (fun kq v5 w'=>∃ (x5_1:Int),v5=.int .i64 x5_1∧Aside0 (laws_eqBlkPieceS.l0 kq l0 l1 x5_1=some r)∧Aside0 (kq≤k)∧Aside0 (Below w.heap.size w w'))
  case atStart=>exact ⟨(0),bZ,H',⟨Nat.le_refl _⟩,⟨pB HB.out⟩⟩
  case round =>
   clear H'
   (try clear c3);(try clear c3b0);(try clear c3b1);(try clear c3b2)
   obtain ⟨x5_1,rfl,HA,HK1,HB⟩:=hrel
   cases gk with
   | zero=>exact absurd HA.out (by simp [laws_eqBlkPieceS.l0])
   | succ k1 =>
    have H:=HA.out;clear HA;simp only [laws_eqBlkPieceS.l0] at H
    by_cases c4:x5_1<(l0.length:Int)
    ·rw [if_pos c4] at H;have c4b0:decide (x5_1<(l0.length:Int))=true:=decide_eq_true c4;clear c4
     by_cases c5:0≤x5_1
     ·rw [if_pos c5] at H;have c5b0:decide (0≤x5_1)=true:=decide_eq_true c5;clear c5
      by_cases c6:x5_1<(l1.length:Int)
      ·rw [if_pos c6] at H;have c6b0:decide (x5_1<(l1.length:Int))=true:=decide_eq_true c6;clear c6;obtain ⟨t129,A7,H⟩:=bI H;(try dsimp only at H)
       have H0_:=mA H;clear H
       try go_wp2
       replace HB:=mA (below_drew1 HB.out);have p127:0≤(x5_1:Int):=of_decide_eq_true bA;have q127:x5_1<(l0.length:Int):=of_decide_eq_true bA;obtain ⟨ad127,e127,hs127⟩:=at_R164 HR0.out x5_1 p127 q127;cases e127;replace p127:=eq_true p127;replace q127:=eq_true q127;have p128:0≤(x5_1:Int):=of_decide_eq_true bA;have q128:x5_1<(l1.length:Int):=of_decide_eq_true bA;obtain ⟨ad128,e128,hs128⟩:=at_R164 HR1.out x5_1 p128 q128;cases e128;replace p128:=eq_true p128;replace q128:=eq_true q128
       refine start_ (n:=10) (S:=fun w'=>RS w' (ad127.add ((x5_1).toNat * 4)) (d164 (rd_T164 l0 x5_1))∧RS w' (ad128.add ((x5_1).toNat * 4)) (d164 (rd_T164 l1 x5_1))) (ds:=[]) _ aK rfl rfl ⟨rS HB hs127,rS HB hs128⟩ (fun hHeld=>?_);refine with_tabW laws_eqBlkPieceS.tab6 laws_eqBlkPieceS.bits6 (fun HT_ HW_=>?_)
       generalize wr.drew=w9 at HB hHeld ⊢
       refine qu 0 ?_;refine qu 1 ?_;refine qu 2 ?_;refine qu 4 ?_;refine qu 5 ?_;refine qu 6 ?_;refine qt 3 ?_;refine qt 7 ?_
       refine qo 8 ?_;intro K hK
       refine gD Try.func156 (laws_eqBlkPiece.calls A7.out) ?_
       rintro e w10 ⟨rfl,hb⟩;refine ⟨_,rfl,?_⟩;replace HB:=spB HB hb
       (try clear hb)
       refine hK.out _ _ ⟨rS HB hs127,rS HB hs128⟩ (fun hHeld=>?_);clear hK K;refine no_ (some 25) ?_;refine qu 9 ?_;refine qe ?_
       have H:=H0_.out;clear H0_
       by_cases c8:t129=true
       ·subst c8;rw [if_pos rfl] at H;have H':=mA H;clear H
        try go_wp2
        go_roundg k1
        case measure=>have:=HK1.out;omega
        case rel=>exact ⟨(wrap64 (x5_1+1)),bZ,H',⟨by have:=HK1.out;omega⟩,⟨pB HB.out⟩⟩
       ·replace c8:=Bool.eq_false_iff.mpr c8;subst c8
        rw [if_neg nFT] at H
        obtain rfl:=Option.some.inj H
        try go_wp2
        go_ret
        exact rZ (pB HB.out)
      ·rw [if_neg c6] at H
       exact absurd H (by simp)
     ·rw [if_neg c5] at H
      exact absurd H (by simp)
    ·rw [if_neg c4] at H;have c4b0:decide (x5_1<(l0.length:Int))=false:=decide_eq_false c4;clear c4;obtain rfl:=Option.some.inj H
     go_wp2
     go_ret
     exact rZ (pB HB.out)
 ·rw [if_neg c3] at H;have c3b0:((l0.length:Int) == (l1.length:Int))=false:=beq_eq_false_iff_ne.mpr c3;have c3b1:((l0.length:Int) != (l1.length:Int))=true:=bne_iff_ne.mpr c3
  have c3b2:(l0.length == l1.length)=false:=by first|simpa using c3|(simp at c3 ⊢;omega)
  obtain rfl:=Option.some.inj H
  go_enter Try.func132,Try.ntmps132
  go_wp2
  go_ret
  exact rZ (pB HB.out)

/-! ### laws_eqBlkLast: function 157 -/
def laws_eqBlkLast.f (a0_0 a0_1 a1_0 a1_1 : Int) : Option (Bool) := if a0_0 = a1_0 then (if a0_1 = a1_1 then (some true) else (some false)) else (some false)
set_option maxHeartbeats 8000000 in
set_option maxRecDepth 100000 in
theorem laws_eqBlkLast.calls {a0_0 a0_1 a1_0 a1_1 : Int} {r : Bool} {w : World} (h : laws_eqBlkLast.f a0_0 a0_1 a1_0 a1_1 = some r) :
  Calls Try.prog 157 #[.agg #[.int .i64 a0_0,.int .i64 a0_1],.agg #[.int .i64 a1_0,.int .i64 a1_1]] w fun e w'=>e=.returned (.bool r)∧Below w.heap.size w w':=by
 have hu166:=Try.underlying166;have HB:=mA (Below.refl w.heap.size w);have H:(if a0_0=a1_0 then (if a0_1=a1_1 then (some true) else (some false)) else (some false))=some r:=h;clear h
 by_cases c3:a0_0=a1_0
 ·rw [if_pos c3] at H;obtain ⟨c3b0,c3b1⟩:=eqB c3;clear c3
  by_cases c4:a0_1=a1_1
  ·rw [if_pos c4] at H;obtain ⟨c4b0,c4b1⟩:=eqB c4;clear c4;obtain rfl:=Option.some.inj H
   go_enter Try.func157,Try.ntmps157
   go_wp2_with (first|((with_reducible refine gT 2 rfl ?_);refine bE 2 #[.int .i64 a0_0,.int .i64 a0_1] 166 ?_;intro gb130 hg w5 hbox hb;have BK130:=mA hbox;have GW130:=gbpB HB hg;have GE130:=gbpB HB hg;replace HB:=spB HB hb;clear hb hbox hg)|((with_reducible refine gT 3 rfl ?_);refine bE 3 #[.int .i64 a1_0,.int .i64 a1_1] 166 ?_;intro gb131 hg w6 hbox hb;have BK131:=mA hbox;have GW131:=gbpS HB hg;have GE131:=gbpS HB hg;replace HB:=spS HB hb;have NB130_131:=mA (lN (blk_lt (pK BK130.out)) hg);have hN130_131:=NB130_131.out;have NB131_130:=nS NB130_131;have hN131_130:=NB131_130.out;replace BK130:=bK BK130 hb;clear hb hbox hg;obtain ⟨hcz8_0,hcz8_1,hfz8_0,hfz8_1⟩:=box2 BK130.out;obtain ⟨hcz9_0,hcz9_1,hfz9_0,hfz9_1⟩:=box2 BK131.out))
   go_ret
   exact rZ (pS HB.out)
  ·rw [if_neg c4] at H;have c4b0:(a0_1 == a1_1)=false:=beq_eq_false_iff_ne.mpr c4;have c4b1:(a0_1 != a1_1)=true:=bne_iff_ne.mpr c4;obtain rfl:=Option.some.inj H
   go_enter Try.func157,Try.ntmps157
   go_wp2_with (first|((with_reducible refine gT 2 rfl ?_);refine bE 2 #[.int .i64 a0_0,.int .i64 a0_1] 166 ?_;intro gb130 hg w10 hbox hb;have BK130:=mA hbox;have GW130:=gbpB HB hg;have GE130:=gbpB HB hg;replace HB:=spB HB hb;clear hb hbox hg)|((with_reducible refine gT 3 rfl ?_);refine bE 3 #[.int .i64 a1_0,.int .i64 a1_1] 166 ?_;intro gb131 hg w11 hbox hb;have BK131:=mA hbox;have GW131:=gbpS HB hg;have GE131:=gbpS HB hg;replace HB:=spS HB hb;have NB130_131:=mA (lN (blk_lt (pK BK130.out)) hg);have hN130_131:=NB130_131.out;have NB131_130:=nS NB130_131;have hN131_130:=NB131_130.out;replace BK130:=bK BK130 hb;clear hb hbox hg;obtain ⟨hcz13_0,hcz13_1,hfz13_0,hfz13_1⟩:=box2 BK130.out;obtain ⟨hcz14_0,hcz14_1,hfz14_0,hfz14_1⟩:=box2 BK131.out))
   go_ret
   exact rZ (pS HB.out)
 ·rw [if_neg c3] at H;have c3b0:(a0_0 == a1_0)=false:=beq_eq_false_iff_ne.mpr c3;have c3b1:(a0_0 != a1_0)=true:=bne_iff_ne.mpr c3;obtain rfl:=Option.some.inj H
  go_enter Try.func157,Try.ntmps157
  go_wp2_with (first|((with_reducible refine gT 2 rfl ?_);refine bE 2 #[.int .i64 a0_0,.int .i64 a0_1] 166 ?_;intro gb130 hg w15 hbox hb;have BK130:=mA hbox;have GW130:=gbpB HB hg;have GE130:=gbpB HB hg;replace HB:=spB HB hb;clear hb hbox hg)|((with_reducible refine gT 3 rfl ?_);refine bE 3 #[.int .i64 a1_0,.int .i64 a1_1] 166 ?_;intro gb131 hg w16 hbox hb;have BK131:=mA hbox;have GW131:=gbpS HB hg;have GE131:=gbpS HB hg;replace HB:=spS HB hb;have NB130_131:=mA (lN (blk_lt (pK BK130.out)) hg);have hN130_131:=NB130_131.out;have NB131_130:=nS NB130_131;have hN131_130:=NB131_130.out;replace BK130:=bK BK130 hb;clear hb hbox hg;obtain ⟨hcz18_0,hcz18_1,hfz18_0,hfz18_1⟩:=box2 BK130.out;obtain ⟨hcz19_0,hcz19_1,hfz19_0,hfz19_1⟩:=box2 BK131.out))
  go_ret
  exact rZ (pS HB.out)

/-! ### laws_eqBlkLastS: function 133 -/
def laws_eqBlkLastS.l0 : Nat → List (S166) → List (S166) → Int → Option (Bool)
 | 0,_,_,_=>none
 | k+1,x0,x1,x5=>if x5<(x0.length:Int) then (if 0≤x5 then (if x5<(x1.length:Int) then ((laws_eqBlkLast.f ((rd_T166 x0 x5).f0) ((rd_T166 x0 x5).f1) ((rd_T166 x1 x5).f0) ((rd_T166 x1 x5).f1)).bind fun t134=>(if t134=true then (laws_eqBlkLastS.l0 k x0 x1 (wrap64 (x5+1))) else (some false))) else (none)) else (none)) else (some true)
def laws_eqBlkLastS.f (k : Nat) (l0 : List (S166)) (l1 : List (S166)) : Option (Bool) := if (l0.length : Int) = (l1.length : Int) then (laws_eqBlkLastS.l0 k l0 l1 0) else (some false)
theorem laws_eqBlkLastS.mono_l : ∀ k, (∀ y0 y1 y2, LeO (laws_eqBlkLastS.l0 k y0 y1 y2) (laws_eqBlkLastS.l0 (k + 1) y0 y1 y2))
 | 0=>fun _ _ _ r h=>by simp [laws_eqBlkLastS.l0] at h
 | k+1=>by
  have ih0:=laws_eqBlkLastS.mono_l k
  ·intros
   unfold laws_eqBlkLastS.l0
   repeat' first
   | (with_reducible first|apply ih0|exact LeO.refl _|exact LeO.none _|refine LeO.ite ?_ ?_|refine LeO.bind ?_ (fun _=>?_))|exact LeO.none _|refine LeO.ite ?_ ?_|refine LeO.bind ?_ (fun _=>?_)
theorem laws_eqBlkLastS.mono : ∀ a0 a1 k, LeO (laws_eqBlkLastS.f k a0 a1) (laws_eqBlkLastS.f (k + 1) a0 a1) := by
 intro a0 a1 k;have ih0:=laws_eqBlkLastS.mono_l k
 unfold laws_eqBlkLastS.f
 repeat' first
   | (with_reducible first|apply ih0|exact LeO.refl _|exact LeO.none _|refine LeO.ite ?_ ?_|refine LeO.bind ?_ (fun _=>?_))|exact LeO.none _|refine LeO.ite ?_ ?_|refine LeO.bind ?_ (fun _=>?_)
def laws_eqBlkLastS.T6 : Bool × List (List Nat × List Nat) := (true, [([], []), ([], []), ([0, 1], [0, 1]), ([2], [2]), ([], []), ([], []), ([4, 5], [4, 5]), ([6], [6]), ([3, 7], [3, 7]), ([8], [8])])
def laws_eqBlkLastS.B6 : List Nat := [0, 0, 3, 7, 0, 0, 48, 112, 255, 511]
theorem laws_eqBlkLastS.tab6 : rtab .any (opsOf Try.f133 6) = laws_eqBlkLastS.T6 := by kernel_rfl
theorem laws_eqBlkLastS.bits6 : waitsOk laws_eqBlkLastS.T6.2 laws_eqBlkLastS.B6 = true := by kernel_rfl
set_option maxHeartbeats 8000000 in
set_option maxRecDepth 100000 in
theorem laws_eqBlkLastS.calls {k : Nat} {A0 : Option Addr} {c0 : Nat} {l0 : List (S166)} {A1 : Option Addr} {c1 : Nat} {l1 : List (S166)} {r : Bool} {w : World} (hr0 : Kd.C k166 w A0 l0.length l0) (hc0 : l0.length ≤ c0) (hr1 : Kd.C k166 w A1 l1.length l1) (hc1 : l1.length ≤ c1) (h : laws_eqBlkLastS.f k l0 l1 = some r) :
  Calls Try.prog 133 #[.slice A0 l0.length c0,.slice A1 l1.length c1] w fun e w'=>e=.returned (.bool r)∧Below w.heap.size w w':=by
 have hu166:=Try.underlying166;have HR0:=mA hr0;have HC0:=mA hc0;clear hr0 hc0;have HR1:=mA hr1;have HC1:=mA hc1;clear hr1 hc1;have HB:=mA (Below.refl w.heap.size w);have H:(if (l0.length:Int)=(l1.length:Int) then (laws_eqBlkLastS.l0 k l0 l1 0) else (some false))=some r:=h;clear h
 by_cases c3:(l0.length:Int)=(l1.length:Int)
 ·rw [if_pos c3] at H;have c3b0:((l0.length:Int) == (l1.length:Int))=true:=beq_iff_eq.mpr c3;have c3b1:((l0.length:Int) != (l1.length:Int))=false:=bne_eq_false_iff_eq.mpr c3
  have c3b2:(l0.length == l1.length)=true:=by first|simpa using c3|(simp at c3 ⊢;omega)
  clear c3;have H':=mA H;clear H
  go_enter Try.func133,Try.ntmps133
  go_wp2
  go_loopg [5] k (fun kq v5 w'=>∃ (x5_1:Int),v5=.int .i64 x5_1∧Aside0 (laws_eqBlkLastS.l0 kq l0 l1 x5_1=some r)∧Aside0 (kq≤k)∧Aside0 (Below w.heap.size w w'))
  case atStart=>exact ⟨(0),bZ,H',⟨Nat.le_refl _⟩,⟨pB HB.out⟩⟩
  case round =>
   clear H'
   (try clear c3);(try clear c3b0);(try clear c3b1);(try clear c3b2)
   obtain ⟨x5_1,rfl,HA,HK1,HB⟩:=hrel
   cases gk with
   | zero=>exact absurd HA.out (by simp [laws_eqBlkLastS.l0])
   | succ k1 =>
    have H:=HA.out;clear HA;simp only [laws_eqBlkLastS.l0] at H
    by_cases c4:x5_1<(l0.length:Int)
    ·rw [if_pos c4] at H;have c4b0:decide (x5_1<(l0.length:Int))=true:=decide_eq_true c4;clear c4
     by_cases c5:0≤x5_1
     ·rw [if_pos c5] at H;have c5b0:decide (0≤x5_1)=true:=decide_eq_true c5;clear c5
      by_cases c6:x5_1<(l1.length:Int)
      ·rw [if_pos c6] at H;have c6b0:decide (x5_1<(l1.length:Int))=true:=decide_eq_true c6;clear c6;obtain ⟨t134,A7,H⟩:=bI H;(try dsimp only at H)
       have H0_:=mA H;clear H
       try go_wp2
       replace HB:=mA (below_drew1 HB.out);have p132:0≤(x5_1:Int):=of_decide_eq_true bA;have q132:x5_1<(l0.length:Int):=of_decide_eq_true bA;obtain ⟨ad132,e132,hs132⟩:=at_R166 HR0.out x5_1 p132 q132;cases e132;replace p132:=eq_true p132;replace q132:=eq_true q132;have p133:0≤(x5_1:Int):=of_decide_eq_true bA;have q133:x5_1<(l1.length:Int):=of_decide_eq_true bA;obtain ⟨ad133,e133,hs133⟩:=at_R166 HR1.out x5_1 p133 q133;cases e133;replace p133:=eq_true p133;replace q133:=eq_true q133
       refine start_ (n:=10) (S:=fun w'=>RS w' (ad132.add ((x5_1).toNat * 2)) (d166 (rd_T166 l0 x5_1))∧RS w' (ad133.add ((x5_1).toNat * 2)) (d166 (rd_T166 l1 x5_1))) (ds:=[]) _ aK rfl rfl ⟨rS HB hs132,rS HB hs133⟩ (fun hHeld=>?_);refine with_tabW laws_eqBlkLastS.tab6 laws_eqBlkLastS.bits6 (fun HT_ HW_=>?_)
       generalize wr.drew=w9 at HB hHeld ⊢
       refine qu 0 ?_;refine qu 1 ?_;refine qu 2 ?_;refine qu 4 ?_;refine qu 5 ?_;refine qu 6 ?_;refine qt 3 ?_;refine qt 7 ?_
       refine qo 8 ?_;intro K hK
       refine gD Try.func157 (laws_eqBlkLast.calls A7.out) ?_
       rintro e w10 ⟨rfl,hb⟩;refine ⟨_,rfl,?_⟩;replace HB:=spB HB hb
       (try clear hb)
       refine hK.out _ _ ⟨rS HB hs132,rS HB hs133⟩ (fun hHeld=>?_);clear hK K;refine no_ (some 25) ?_;refine qu 9 ?_;refine qe ?_
       have H:=H0_.out;clear H0_
       by_cases c8:t134=true
       ·subst c8;rw [if_pos rfl] at H;have H':=mA H;clear H
        try go_wp2
        go_roundg k1
        case measure=>have:=HK1.out;omega
        case rel=>exact ⟨(wrap64 (x5_1+1)),bZ,H',⟨by have:=HK1.out;omega⟩,⟨pB HB.out⟩⟩
       ·replace c8:=Bool.eq_false_iff.mpr c8;subst c8
        rw [if_neg nFT] at H
        obtain rfl:=Option.some.inj H
        try go_wp2
        go_ret
        exact rZ (pB HB.out)
      ·rw [if_neg c6] at H
       exact absurd H (by simp)
     ·rw [if_neg c5] at H
      exact absurd H (by simp)
    ·rw [if_neg c4] at H;have c4b0:decide (x5_1<(l0.length:Int))=false:=decide_eq_false c4;clear c4;obtain rfl:=Option.some.inj H
     go_wp2
     go_ret
     exact rZ (pB HB.out)
 ·rw [if_neg c3] at H;have c3b0:((l0.length:Int) == (l1.length:Int))=false:=beq_eq_false_iff_ne.mpr c3;have c3b1:((l0.length:Int) != (l1.length:Int))=true:=bne_iff_ne.mpr c3
  have c3b2:(l0.length == l1.length)=false:=by first|simpa using c3|(simp at c3 ⊢;omega)
  obtain rfl:=Option.some.inj H
  go_enter Try.func133,Try.ntmps133
  go_wp2
  go_ret
  exact rZ (pB HB.out)

/-! ### laws_eqWord: function 88 -/
def laws_eqWord.f (k : Nat) (a0_0 a0_1 a0_2 a0_3 a0_4 a0_5 a0_6 a0_7 a0_8 a0_9 a0_10 a0_11 a0_12 a0_13 a0_14 a0_15 a0_16 a0_17 a0_18 a0_19 a0_20 a0_21 a0_22 a0_23 : Int) (l0_24 : List (S164)) (l0_25 : List (S166)) (a1_0 a1_1 a1_2 a1_3 a1_4 a1_5 a1_6 a1_7 a1_8 a1_9 a1_10 a1_11 a1_12 a1_13 a1_14 a1_15 a1_16 a1_17 a1_18 a1_19 a1_20 a1_21 a1_22 a1_23 : Int) (l1_24 : List (S164)) (l1_25 : List (S166)) : Option (Bool) := if a0_0 = a1_0 then (if a0_1 = a1_1 then (if a0_2 = a1_2 then (if a0_3 = a1_3 then (if a0_4 = a1_4 then (if a0_5 = a1_5 then ((laws_eqCmd.f a0_6 a0_7 a0_8 a0_9 a0_10 a0_11 a0_12 a0_13 a0_14 a0_15 a1_6 a1_7 a1_8 a1_9 a1_10 a1_11 a1_12 a1_13 a1_14 a1_15).bind fun t137 => (if t137 = true then (if a0_16 = a1_16 then (if a0_17 = a1_17 then (if a0_18 = a1_18 then (if a0_19 = a1_19 then (if a0_20 = a1_20 then (if a0_21 = a1_21 then (if a0_22 = a1_22 then (if a0_23 = a1_23 then ((laws_eqBlkPieceS.f k l0_24 l1_24).bind fun t138 => (if t138 = true then ((laws_eqBlkLastS.f k l0_25 l1_25).bind fun t139 => (if t139 = true then (some true) else (some false))) else (some false))) else (some false)) else (some false)) else (some false)) else (some false)) else (some false)) else (some false)) else (some false)) else (some false)) else (some false))) else (some false)) else (some false)) else (some false)) else (some false)) else (some false)) else (some false)
theorem laws_eqWord.mono : ∀ a0 a1 a2 a3 a4 a5 a6 a7 a8 a9 a10 a11 a12 a13 a14 a15 a16 a17 a18 a19 a20 a21 a22 a23 a24 a25 a26 a27 a28 a29 a30 a31 a32 a33 a34 a35 a36 a37 a38 a39 a40 a41 a42 a43 a44 a45 a46 a47 a48 a49 a50 a51 k, LeO (laws_eqWord.f k a0 a1 a2 a3 a4 a5 a6 a7 a8 a9 a10 a11 a12 a13 a14 a15 a16 a17 a18 a19 a20 a21 a22 a23 a24 a25 a26 a27 a28 a29 a30 a31 a32 a33 a34 a35 a36 a37 a38 a39 a40 a41 a42 a43 a44 a45 a46 a47 a48 a49 a50 a51) (laws_eqWord.f (k + 1) a0 a1 a2 a3 a4 a5 a6 a7 a8 a9 a10 a11 a12 a13 a14 a15 a16 a17 a18 a19 a20 a21 a22 a23 a24 a25 a26 a27 a28 a29 a30 a31 a32 a33 a34 a35 a36 a37 a38 a39 a40 a41 a42 a43 a44 a45 a46 a47 a48 a49 a50 a51) := by
 intro a0 a1 a2 a3 a4 a5 a6 a7 a8 a9 a10 a11 a12 a13 a14 a15 a16 a17 a18 a19 a20 a21 a22 a23 a24 a25 a26 a27 a28 a29 a30 a31 a32 a33 a34 a35 a36 a37 a38 a39 a40 a41 a42 a43 a44 a45 a46 a47 a48 a49 a50 a51 k
 unfold laws_eqWord.f
 repeat' first
   | (with_reducible first|apply laws_eqBlkLastS.mono|apply laws_eqBlkPieceS.mono|exact LeO.refl _|exact LeO.none _|refine LeO.ite ?_ ?_|refine LeO.bind ?_ (fun _=>?_))|exact LeO.none _|refine LeO.ite ?_ ?_|refine LeO.bind ?_ (fun _=>?_)
set_option maxHeartbeats 8000000 in
set_option maxRecDepth 100000 in
theorem laws_eqWord.calls {k : Nat} {a0_0 a0_1 a0_2 a0_3 a0_4 a0_5 a0_6 a0_7 a0_8 a0_9 a0_10 a0_11 a0_12 a0_13 a0_14 a0_15 a0_16 a0_17 a0_18 a0_19 a0_20 a0_21 a0_22 a0_23 : Int} {A0_24 : Option Addr} {c0_24 : Nat} {l0_24 : List (S164)} {A0_25 : Option Addr} {c0_25 : Nat} {l0_25 : List (S166)} {a1_0 a1_1 a1_2 a1_3 a1_4 a1_5 a1_6 a1_7 a1_8 a1_9 a1_10 a1_11 a1_12 a1_13 a1_14 a1_15 a1_16 a1_17 a1_18 a1_19 a1_20 a1_21 a1_22 a1_23 : Int} {A1_24 : Option Addr} {c1_24 : Nat} {l1_24 : List (S164)} {A1_25 : Option Addr} {c1_25 : Nat} {l1_25 : List (S166)} {r : Bool} {w : World} (hr0_24 : Kd.C k164 w A0_24 l0_24.length l0_24) (hc0_24 : l0_24.length ≤ c0_24) (hr0_25 : Kd.C k166 w A0_25 l0_25.length l0_25) (hc0_25 : l0_25.length ≤ c0_25) (hr1_24 : Kd.C k164 w A1_24 l1_24.length l1_24) (hc1_24 : l1_24.length ≤ c1_24) (hr1_25 : Kd.C k166 w A1_25 l1_25.length l1_25) (hc1_25 : l1_25.length ≤ c1_25) (h : laws_eqWord.f k a0_0 a0_1 a0_2 a0_3 a0_4 a0_5 a0_6 a0_7 a0_8 a0_9 a0_10 a0_11 a0_12 a0_13 a0_14 a0_15 a0_16 a0_17 a0_18 a0_19 a0_20 a0_21 a0_22 a0_23 l0_24 l0_25 a1_0 a1_1 a1_2 a1_3 a1_4 a1_5 a1_6 a1_7 a1_8 a1_9 a1_10 a1_11 a1_12 a1_13 a1_14 a1_15 a1_16 a1_17 a1_18 a1_19 a1_20 a1_21 a1_22 a1_23 l1_24 l1_25 = some r) :
  Calls Try.prog 88 #[.agg #[.int .i64 a0_0,.int .i64 a0_1,.int .i64 a0_2,.int .i64 a0_3,.int .i64 a0_4,.int .i64 a0_5,.int .i64 a0_6,.int .i64 a0_7,.int .i64 a0_8,.int .i64 a0_9,.int .i64 a0_10,.int .i64 a0_11,.int .i64 a0_12,.int .i64 a0_13,.int .i64 a0_14,.int .i64 a0_15,.int .i64 a0_16,.int .i64 a0_17,.int .i64 a0_18,.int .i64 a0_19,.int .i64 a0_20,.int .i64 a0_21,.int .i64 a0_22,.int .i64 a0_23,.slice A0_24 l0_24.length c0_24,.slice A0_25 l0_25.length c0_25],.agg #[.int .i64 a1_0,.int .i64 a1_1,.int .i64 a1_2,.int .i64 a1_3,.int .i64 a1_4,.int .i64 a1_5,.int .i64 a1_6,.int .i64 a1_7,.int .i64 a1_8,.int .i64 a1_9,.int .i64 a1_10,.int .i64 a1_11,.int .i64 a1_12,.int .i64 a1_13,.int .i64 a1_14,.int .i64 a1_15,.int .i64 a1_16,.int .i64 a1_17,.int .i64 a1_18,.int .i64 a1_19,.int .i64 a1_20,.int .i64 a1_21,.int .i64 a1_22,.int .i64 a1_23,.slice A1_24 l1_24.length c1_24,.slice A1_25 l1_25.length c1_25]] w fun e w'=>e=.returned (.bool r)∧Below w.heap.size w w':=by
 have hu93:=Try.underlying93;have hu44:=Try.underlying44;have HR0_24:=mA hr0_24;have HC0_24:=mA hc0_24;clear hr0_24 hc0_24;have HR0_25:=mA hr0_25;have HC0_25:=mA hc0_25;clear hr0_25 hc0_25;have HR1_24:=mA hr1_24;have HC1_24:=mA hc1_24;clear hr1_24 hc1_24;have HR1_25:=mA hr1_25;have HC1_25:=mA hc1_25;clear hr1_25 hc1_25;have HB:=mA (Below.refl w.heap.size w);have H:(if a0_0=a1_0 then (if a0_1=a1_1 then (if a0_2=a1_2 then (if a0_3=a1_3 then (if a0_4=a1_4 then (if a0_5=a1_5 then ((laws_eqCmd.f a0_6 a0_7 a0_8 a0_9 a0_10 a0_11 a0_12 a0_13 a0_14 a0_15 a1_6 a1_7 a1_8 a1_9 a1_10 a1_11 a1_12 a1_13 a1_14 a1_15).bind fun t137=>(if t137=true then (if a0_16=a1_16 then (if a0_17=a1_17 then (if a0_18=a1_18 then (if a0_19=a1_19 then (if a0_20=a1_20 then (if a0_21=a1_21 then (if a0_22=a1_22 then (if a0_23=a1_23 then ((laws_eqBlkPieceS.f k l0_24 l1_24).bind fun t138=>(if t138=true then ((laws_eqBlkLastS.f k l0_25 l1_25).bind fun t139=>(if t139=true then (some true) else (some false))) else (some false))) else (some false)) else (some false)) else (some false)) else (some false)) else (some false)) else (some false)) else (some false)) else (some false)) else (some false))) else (some false)) else (some false)) else (some false)) else (some false)) else (some false)) else (some false))=some r:=h;clear h
 by_cases c3:a0_0=a1_0
 ·rw [if_pos c3] at H;obtain ⟨c3b0,c3b1⟩:=eqB c3;clear c3
  by_cases c4:a0_1=a1_1
  ·rw [if_pos c4] at H;obtain ⟨c4b0,c4b1⟩:=eqB c4;clear c4
   by_cases c5:a0_2=a1_2
   ·rw [if_pos c5] at H;obtain ⟨c5b0,c5b1⟩:=eqB c5;clear c5
    by_cases c6:a0_3=a1_3
    ·rw [if_pos c6] at H;obtain ⟨c6b0,c6b1⟩:=eqB c6;clear c6
     by_cases c7:a0_4=a1_4
     ·rw [if_pos c7] at H;obtain ⟨c7b0,c7b1⟩:=eqB c7;clear c7
      by_cases c8:a0_5=a1_5
      ·rw [if_pos c8] at H;obtain ⟨c8b0,c8b1⟩:=eqB c8;clear c8;obtain ⟨t137,A9,H⟩:=bI H;(try dsimp only at H)
       by_cases c10:t137=true
       ·subst c10;rw [if_pos rfl] at H
        by_cases c11:a0_16=a1_16
        ·rw [if_pos c11] at H;obtain ⟨c11b0,c11b1⟩:=eqB c11;clear c11
         by_cases c12:a0_17=a1_17
         ·rw [if_pos c12] at H;obtain ⟨c12b0,c12b1⟩:=eqB c12;clear c12
          by_cases c13:a0_18=a1_18
          ·rw [if_pos c13] at H;obtain ⟨c13b0,c13b1⟩:=eqB c13;clear c13
           by_cases c14:a0_19=a1_19
           ·rw [if_pos c14] at H;obtain ⟨c14b0,c14b1⟩:=eqB c14;clear c14
            by_cases c15:a0_20=a1_20
            ·rw [if_pos c15] at H;obtain ⟨c15b0,c15b1⟩:=eqB c15;clear c15
             by_cases c16:a0_21=a1_21
             ·rw [if_pos c16] at H;obtain ⟨c16b0,c16b1⟩:=eqB c16;clear c16
              by_cases c17:a0_22=a1_22
              ·rw [if_pos c17] at H;obtain ⟨c17b0,c17b1⟩:=eqB c17;clear c17
               by_cases c18:a0_23=a1_23
               ·rw [if_pos c18] at H;obtain ⟨c18b0,c18b1⟩:=eqB c18;clear c18;obtain ⟨t138,A19,H⟩:=bI H;(try dsimp only at H)
                by_cases c20:t138=true
                ·subst c20;rw [if_pos rfl] at H;obtain ⟨t139,A21,H⟩:=bI H;(try dsimp only at H)
                 by_cases c22:t139=true
                 ·subst c22;rw [if_pos rfl] at H;obtain rfl:=Option.some.inj H
                  go_enter Try.func88,Try.ntmps88
                  go_wp2_with (first|((with_reducible refine gLg rfl (by assumption) ?_);refine ldV ?_)|((with_reducible refine gSt rfl (by assumption) ?_);refine stV ?_)|((with_reducible refine gT 2 rfl ?_);refine bX 2 ?_;intro gb135 hg w23 hbox hb;have BK135:=mA hbox;have GW135:=gbpB HB hg;have GE135:=gbpB HB hg;replace HB:=spB HB hb;clear hb hbox hg)|((with_reducible refine gT 3 rfl ?_);refine bX 3 ?_;intro gb136 hg w24 hbox hb;have BK136:=mA hbox;have GW136:=gbpS HB hg;have GE136:=gbpS HB hg;replace HB:=spS HB hb;have NB135_136:=mA (lN (blk_lt (pK BK135.out)) hg);have hN135_136:=NB135_136.out;have NB136_135:=nS NB135_136;have hN136_135:=NB136_135.out;replace BK135:=bK BK135 hb;clear hb hbox hg;have hcz26_0:=fun i_=>blk_cell BK135.out i_;have hfz26_0:=fun i_=>blk_frozen BK135.out i_;have hcz27_0:=fun i_=>blk_cell BK136.out i_;have hfz27_0:=fun i_=>blk_frozen BK136.out i_)|((with_reducible refine gT 39 rfl ?_);refine gC (some 39) Try.func21 (laws_eqCmd.calls A9.out) ?_;rintro e w28 ⟨rfl,hb⟩;refine ⟨_,rfl,?_⟩;replace BK135:=bK BK135 hb;replace BK136:=bK BK136 hb;replace HB:=spS HB hb;(try clear hb);have hcz29_0:=fun i_=>blk_cell BK135.out i_;have hfz29_0:=fun i_=>blk_frozen BK135.out i_;have hcz30_0:=fun i_=>blk_cell BK136.out i_;have hfz30_0:=fun i_=>blk_frozen BK136.out i_)|((with_reducible refine gT 85 rfl ?_);refine gC (some 85) Try.func132 (laws_eqBlkPieceS.calls (cB HR0_24 HB) HC0_24.out (cB HR1_24 HB) HC1_24.out A19.out) ?_;rintro e w31 ⟨rfl,hb⟩;refine ⟨_,rfl,?_⟩;replace BK135:=bK BK135 hb;replace BK136:=bK BK136 hb;replace HB:=spS HB hb;(try clear hb);have hcz32_0:=fun i_=>blk_cell BK135.out i_;have hfz32_0:=fun i_=>blk_frozen BK135.out i_;have hcz33_0:=fun i_=>blk_cell BK136.out i_;have hfz33_0:=fun i_=>blk_frozen BK136.out i_)|((with_reducible refine gT 91 rfl ?_);refine gC (some 91) Try.func133 (laws_eqBlkLastS.calls (cB HR0_25 HB) HC0_25.out (cB HR1_25 HB) HC1_25.out A21.out) ?_;rintro e w34 ⟨rfl,hb⟩;refine ⟨_,rfl,?_⟩;replace BK135:=bK BK135 hb;replace BK136:=bK BK136 hb;replace HB:=spS HB hb;(try clear hb)))
                  go_ret
                  exact rZ (pS HB.out)
                 ·replace c22:=Bool.eq_false_iff.mpr c22;subst c22
                  rw [if_neg nFT] at H
                  obtain rfl:=Option.some.inj H
                  go_enter Try.func88,Try.ntmps88
                  go_wp2_with (first|((with_reducible refine gLg rfl (by assumption) ?_);refine ldV ?_)|((with_reducible refine gSt rfl (by assumption) ?_);refine stV ?_)|((with_reducible refine gT 2 rfl ?_);refine bX 2 ?_;intro gb135 hg w35 hbox hb;have BK135:=mA hbox;have GW135:=gbpB HB hg;have GE135:=gbpB HB hg;replace HB:=spB HB hb;clear hb hbox hg)|((with_reducible refine gT 3 rfl ?_);refine bX 3 ?_;intro gb136 hg w36 hbox hb;have BK136:=mA hbox;have GW136:=gbpS HB hg;have GE136:=gbpS HB hg;replace HB:=spS HB hb;have NB135_136:=mA (lN (blk_lt (pK BK135.out)) hg);have hN135_136:=NB135_136.out;have NB136_135:=nS NB135_136;have hN136_135:=NB136_135.out;replace BK135:=bK BK135 hb;clear hb hbox hg;have hcz38_0:=fun i_=>blk_cell BK135.out i_;have hfz38_0:=fun i_=>blk_frozen BK135.out i_;have hcz39_0:=fun i_=>blk_cell BK136.out i_;have hfz39_0:=fun i_=>blk_frozen BK136.out i_)|((with_reducible refine gT 39 rfl ?_);refine gC (some 39) Try.func21 (laws_eqCmd.calls A9.out) ?_;rintro e w40 ⟨rfl,hb⟩;refine ⟨_,rfl,?_⟩;replace BK135:=bK BK135 hb;replace BK136:=bK BK136 hb;replace HB:=spS HB hb;(try clear hb);have hcz41_0:=fun i_=>blk_cell BK135.out i_;have hfz41_0:=fun i_=>blk_frozen BK135.out i_;have hcz42_0:=fun i_=>blk_cell BK136.out i_;have hfz42_0:=fun i_=>blk_frozen BK136.out i_)|((with_reducible refine gT 85 rfl ?_);refine gC (some 85) Try.func132 (laws_eqBlkPieceS.calls (cB HR0_24 HB) HC0_24.out (cB HR1_24 HB) HC1_24.out A19.out) ?_;rintro e w43 ⟨rfl,hb⟩;refine ⟨_,rfl,?_⟩;replace BK135:=bK BK135 hb;replace BK136:=bK BK136 hb;replace HB:=spS HB hb;(try clear hb);have hcz44_0:=fun i_=>blk_cell BK135.out i_;have hfz44_0:=fun i_=>blk_frozen BK135.out i_;have hcz45_0:=fun i_=>blk_cell BK136.out i_;have hfz45_0:=fun i_=>blk_frozen BK136.out i_)|((with_reducible refine gT 91 rfl ?_);refine gC (some 91) Try.func133 (laws_eqBlkLastS.calls (cB HR0_25 HB) HC0_25.out (cB HR1_25 HB) HC1_25.out A21.out) ?_;rintro e w46 ⟨rfl,hb⟩;refine ⟨_,rfl,?_⟩;replace BK135:=bK BK135 hb;replace BK136:=bK BK136 hb;replace HB:=spS HB hb;(try clear hb)))
                  go_ret
                  exact rZ (pS HB.out)
                ·replace c20:=Bool.eq_false_iff.mpr c20;subst c20
                 rw [if_neg nFT] at H
                 obtain rfl:=Option.some.inj H
                 go_enter Try.func88,Try.ntmps88
                 go_wp2_with (first|((with_reducible refine gLg rfl (by assumption) ?_);refine ldV ?_)|((with_reducible refine gSt rfl (by assumption) ?_);refine stV ?_)|((with_reducible refine gT 2 rfl ?_);refine bX 2 ?_;intro gb135 hg w47 hbox hb;have BK135:=mA hbox;have GW135:=gbpB HB hg;have GE135:=gbpB HB hg;replace HB:=spB HB hb;clear hb hbox hg)|((with_reducible refine gT 3 rfl ?_);refine bX 3 ?_;intro gb136 hg w48 hbox hb;have BK136:=mA hbox;have GW136:=gbpS HB hg;have GE136:=gbpS HB hg;replace HB:=spS HB hb;have NB135_136:=mA (lN (blk_lt (pK BK135.out)) hg);have hN135_136:=NB135_136.out;have NB136_135:=nS NB135_136;have hN136_135:=NB136_135.out;replace BK135:=bK BK135 hb;clear hb hbox hg;have hcz50_0:=fun i_=>blk_cell BK135.out i_;have hfz50_0:=fun i_=>blk_frozen BK135.out i_;have hcz51_0:=fun i_=>blk_cell BK136.out i_;have hfz51_0:=fun i_=>blk_frozen BK136.out i_)|((with_reducible refine gT 39 rfl ?_);refine gC (some 39) Try.func21 (laws_eqCmd.calls A9.out) ?_;rintro e w52 ⟨rfl,hb⟩;refine ⟨_,rfl,?_⟩;replace BK135:=bK BK135 hb;replace BK136:=bK BK136 hb;replace HB:=spS HB hb;(try clear hb);have hcz53_0:=fun i_=>blk_cell BK135.out i_;have hfz53_0:=fun i_=>blk_frozen BK135.out i_;have hcz54_0:=fun i_=>blk_cell BK136.out i_;have hfz54_0:=fun i_=>blk_frozen BK136.out i_)|((with_reducible refine gT 85 rfl ?_);refine gC (some 85) Try.func132 (laws_eqBlkPieceS.calls (cB HR0_24 HB) HC0_24.out (cB HR1_24 HB) HC1_24.out A19.out) ?_;rintro e w55 ⟨rfl,hb⟩;refine ⟨_,rfl,?_⟩;replace BK135:=bK BK135 hb;replace BK136:=bK BK136 hb;replace HB:=spS HB hb;(try clear hb)))
                 go_ret
                 exact rZ (pS HB.out)
               ·rw [if_neg c18] at H;have c18b0:(a0_23 == a1_23)=false:=beq_eq_false_iff_ne.mpr c18;have c18b1:(a0_23 != a1_23)=true:=bne_iff_ne.mpr c18;obtain rfl:=Option.some.inj H
                go_enter Try.func88,Try.ntmps88
                go_wp2_with (first|((with_reducible refine gLg rfl (by assumption) ?_);refine ldV ?_)|((with_reducible refine gSt rfl (by assumption) ?_);refine stV ?_)|((with_reducible refine gT 2 rfl ?_);refine bX 2 ?_;intro gb135 hg w56 hbox hb;have BK135:=mA hbox;have GW135:=gbpB HB hg;have GE135:=gbpB HB hg;replace HB:=spB HB hb;clear hb hbox hg)|((with_reducible refine gT 3 rfl ?_);refine bX 3 ?_;intro gb136 hg w57 hbox hb;have BK136:=mA hbox;have GW136:=gbpS HB hg;have GE136:=gbpS HB hg;replace HB:=spS HB hb;have NB135_136:=mA (lN (blk_lt (pK BK135.out)) hg);have hN135_136:=NB135_136.out;have NB136_135:=nS NB135_136;have hN136_135:=NB136_135.out;replace BK135:=bK BK135 hb;clear hb hbox hg;have hcz59_0:=fun i_=>blk_cell BK135.out i_;have hfz59_0:=fun i_=>blk_frozen BK135.out i_;have hcz60_0:=fun i_=>blk_cell BK136.out i_;have hfz60_0:=fun i_=>blk_frozen BK136.out i_)|((with_reducible refine gT 39 rfl ?_);refine gC (some 39) Try.func21 (laws_eqCmd.calls A9.out) ?_;rintro e w61 ⟨rfl,hb⟩;refine ⟨_,rfl,?_⟩;replace BK135:=bK BK135 hb;replace BK136:=bK BK136 hb;replace HB:=spS HB hb;(try clear hb);have hcz62_0:=fun i_=>blk_cell BK135.out i_;have hfz62_0:=fun i_=>blk_frozen BK135.out i_;have hcz63_0:=fun i_=>blk_cell BK136.out i_;have hfz63_0:=fun i_=>blk_frozen BK136.out i_))
                go_ret
                exact rZ (pS HB.out)
              ·rw [if_neg c17] at H;have c17b0:(a0_22 == a1_22)=false:=beq_eq_false_iff_ne.mpr c17;have c17b1:(a0_22 != a1_22)=true:=bne_iff_ne.mpr c17;obtain rfl:=Option.some.inj H
               go_enter Try.func88,Try.ntmps88
               go_wp2_with (first|((with_reducible refine gLg rfl (by assumption) ?_);refine ldV ?_)|((with_reducible refine gSt rfl (by assumption) ?_);refine stV ?_)|((with_reducible refine gT 2 rfl ?_);refine bX 2 ?_;intro gb135 hg w64 hbox hb;have BK135:=mA hbox;have GW135:=gbpB HB hg;have GE135:=gbpB HB hg;replace HB:=spB HB hb;clear hb hbox hg)|((with_reducible refine gT 3 rfl ?_);refine bX 3 ?_;intro gb136 hg w65 hbox hb;have BK136:=mA hbox;have GW136:=gbpS HB hg;have GE136:=gbpS HB hg;replace HB:=spS HB hb;have NB135_136:=mA (lN (blk_lt (pK BK135.out)) hg);have hN135_136:=NB135_136.out;have NB136_135:=nS NB135_136;have hN136_135:=NB136_135.out;replace BK135:=bK BK135 hb;clear hb hbox hg;have hcz67_0:=fun i_=>blk_cell BK135.out i_;have hfz67_0:=fun i_=>blk_frozen BK135.out i_;have hcz68_0:=fun i_=>blk_cell BK136.out i_;have hfz68_0:=fun i_=>blk_frozen BK136.out i_)|((with_reducible refine gT 39 rfl ?_);refine gC (some 39) Try.func21 (laws_eqCmd.calls A9.out) ?_;rintro e w69 ⟨rfl,hb⟩;refine ⟨_,rfl,?_⟩;replace BK135:=bK BK135 hb;replace BK136:=bK BK136 hb;replace HB:=spS HB hb;(try clear hb);have hcz70_0:=fun i_=>blk_cell BK135.out i_;have hfz70_0:=fun i_=>blk_frozen BK135.out i_;have hcz71_0:=fun i_=>blk_cell BK136.out i_;have hfz71_0:=fun i_=>blk_frozen BK136.out i_))
               go_ret
               exact rZ (pS HB.out)
             ·rw [if_neg c16] at H;have c16b0:(a0_21 == a1_21)=false:=beq_eq_false_iff_ne.mpr c16;have c16b1:(a0_21 != a1_21)=true:=bne_iff_ne.mpr c16;obtain rfl:=Option.some.inj H
              go_enter Try.func88,Try.ntmps88
              go_wp2_with (first|((with_reducible refine gLg rfl (by assumption) ?_);refine ldV ?_)|((with_reducible refine gSt rfl (by assumption) ?_);refine stV ?_)|((with_reducible refine gT 2 rfl ?_);refine bX 2 ?_;intro gb135 hg w72 hbox hb;have BK135:=mA hbox;have GW135:=gbpB HB hg;have GE135:=gbpB HB hg;replace HB:=spB HB hb;clear hb hbox hg)|((with_reducible refine gT 3 rfl ?_);refine bX 3 ?_;intro gb136 hg w73 hbox hb;have BK136:=mA hbox;have GW136:=gbpS HB hg;have GE136:=gbpS HB hg;replace HB:=spS HB hb;have NB135_136:=mA (lN (blk_lt (pK BK135.out)) hg);have hN135_136:=NB135_136.out;have NB136_135:=nS NB135_136;have hN136_135:=NB136_135.out;replace BK135:=bK BK135 hb;clear hb hbox hg;have hcz75_0:=fun i_=>blk_cell BK135.out i_;have hfz75_0:=fun i_=>blk_frozen BK135.out i_;have hcz76_0:=fun i_=>blk_cell BK136.out i_;have hfz76_0:=fun i_=>blk_frozen BK136.out i_)|((with_reducible refine gT 39 rfl ?_);refine gC (some 39) Try.func21 (laws_eqCmd.calls A9.out) ?_;rintro e w77 ⟨rfl,hb⟩;refine ⟨_,rfl,?_⟩;replace BK135:=bK BK135 hb;replace BK136:=bK BK136 hb;replace HB:=spS HB hb;(try clear hb);have hcz78_0:=fun i_=>blk_cell BK135.out i_;have hfz78_0:=fun i_=>blk_frozen BK135.out i_;have hcz79_0:=fun i_=>blk_cell BK136.out i_;have hfz79_0:=fun i_=>blk_frozen BK136.out i_))
              go_ret
              exact rZ (pS HB.out)
            ·rw [if_neg c15] at H;have c15b0:(a0_20 == a1_20)=false:=beq_eq_false_iff_ne.mpr c15;have c15b1:(a0_20 != a1_20)=true:=bne_iff_ne.mpr c15;obtain rfl:=Option.some.inj H
             go_enter Try.func88,Try.ntmps88
             go_wp2_with (first|((with_reducible refine gLg rfl (by assumption) ?_);refine ldV ?_)|((with_reducible refine gSt rfl (by assumption) ?_);refine stV ?_)|((with_reducible refine gT 2 rfl ?_);refine bX 2 ?_;intro gb135 hg w80 hbox hb;have BK135:=mA hbox;have GW135:=gbpB HB hg;have GE135:=gbpB HB hg;replace HB:=spB HB hb;clear hb hbox hg)|((with_reducible refine gT 3 rfl ?_);refine bX 3 ?_;intro gb136 hg w81 hbox hb;have BK136:=mA hbox;have GW136:=gbpS HB hg;have GE136:=gbpS HB hg;replace HB:=spS HB hb;have NB135_136:=mA (lN (blk_lt (pK BK135.out)) hg);have hN135_136:=NB135_136.out;have NB136_135:=nS NB135_136;have hN136_135:=NB136_135.out;replace BK135:=bK BK135 hb;clear hb hbox hg;have hcz83_0:=fun i_=>blk_cell BK135.out i_;have hfz83_0:=fun i_=>blk_frozen BK135.out i_;have hcz84_0:=fun i_=>blk_cell BK136.out i_;have hfz84_0:=fun i_=>blk_frozen BK136.out i_)|((with_reducible refine gT 39 rfl ?_);refine gC (some 39) Try.func21 (laws_eqCmd.calls A9.out) ?_;rintro e w85 ⟨rfl,hb⟩;refine ⟨_,rfl,?_⟩;replace BK135:=bK BK135 hb;replace BK136:=bK BK136 hb;replace HB:=spS HB hb;(try clear hb);have hcz86_0:=fun i_=>blk_cell BK135.out i_;have hfz86_0:=fun i_=>blk_frozen BK135.out i_;have hcz87_0:=fun i_=>blk_cell BK136.out i_;have hfz87_0:=fun i_=>blk_frozen BK136.out i_))
             go_ret
             exact rZ (pS HB.out)
           ·rw [if_neg c14] at H;have c14b0:(a0_19 == a1_19)=false:=beq_eq_false_iff_ne.mpr c14;have c14b1:(a0_19 != a1_19)=true:=bne_iff_ne.mpr c14;obtain rfl:=Option.some.inj H
            go_enter Try.func88,Try.ntmps88
            go_wp2_with (first|((with_reducible refine gLg rfl (by assumption) ?_);refine ldV ?_)|((with_reducible refine gSt rfl (by assumption) ?_);refine stV ?_)|((with_reducible refine gT 2 rfl ?_);refine bX 2 ?_;intro gb135 hg w88 hbox hb;have BK135:=mA hbox;have GW135:=gbpB HB hg;have GE135:=gbpB HB hg;replace HB:=spB HB hb;clear hb hbox hg)|((with_reducible refine gT 3 rfl ?_);refine bX 3 ?_;intro gb136 hg w89 hbox hb;have BK136:=mA hbox;have GW136:=gbpS HB hg;have GE136:=gbpS HB hg;replace HB:=spS HB hb;have NB135_136:=mA (lN (blk_lt (pK BK135.out)) hg);have hN135_136:=NB135_136.out;have NB136_135:=nS NB135_136;have hN136_135:=NB136_135.out;replace BK135:=bK BK135 hb;clear hb hbox hg;have hcz91_0:=fun i_=>blk_cell BK135.out i_;have hfz91_0:=fun i_=>blk_frozen BK135.out i_;have hcz92_0:=fun i_=>blk_cell BK136.out i_;have hfz92_0:=fun i_=>blk_frozen BK136.out i_)|((with_reducible refine gT 39 rfl ?_);refine gC (some 39) Try.func21 (laws_eqCmd.calls A9.out) ?_;rintro e w93 ⟨rfl,hb⟩;refine ⟨_,rfl,?_⟩;replace BK135:=bK BK135 hb;replace BK136:=bK BK136 hb;replace HB:=spS HB hb;(try clear hb);have hcz94_0:=fun i_=>blk_cell BK135.out i_;have hfz94_0:=fun i_=>blk_frozen BK135.out i_;have hcz95_0:=fun i_=>blk_cell BK136.out i_;have hfz95_0:=fun i_=>blk_frozen BK136.out i_))
            go_ret
            exact rZ (pS HB.out)
          ·rw [if_neg c13] at H;have c13b0:(a0_18 == a1_18)=false:=beq_eq_false_iff_ne.mpr c13;have c13b1:(a0_18 != a1_18)=true:=bne_iff_ne.mpr c13;obtain rfl:=Option.some.inj H
           go_enter Try.func88,Try.ntmps88
           go_wp2_with (first|((with_reducible refine gLg rfl (by assumption) ?_);refine ldV ?_)|((with_reducible refine gSt rfl (by assumption) ?_);refine stV ?_)|((with_reducible refine gT 2 rfl ?_);refine bX 2 ?_;intro gb135 hg w96 hbox hb;have BK135:=mA hbox;have GW135:=gbpB HB hg;have GE135:=gbpB HB hg;replace HB:=spB HB hb;clear hb hbox hg)|((with_reducible refine gT 3 rfl ?_);refine bX 3 ?_;intro gb136 hg w97 hbox hb;have BK136:=mA hbox;have GW136:=gbpS HB hg;have GE136:=gbpS HB hg;replace HB:=spS HB hb;have NB135_136:=mA (lN (blk_lt (pK BK135.out)) hg);have hN135_136:=NB135_136.out;have NB136_135:=nS NB135_136;have hN136_135:=NB136_135.out;replace BK135:=bK BK135 hb;clear hb hbox hg;have hcz99_0:=fun i_=>blk_cell BK135.out i_;have hfz99_0:=fun i_=>blk_frozen BK135.out i_;have hcz100_0:=fun i_=>blk_cell BK136.out i_;have hfz100_0:=fun i_=>blk_frozen BK136.out i_)|((with_reducible refine gT 39 rfl ?_);refine gC (some 39) Try.func21 (laws_eqCmd.calls A9.out) ?_;rintro e w101 ⟨rfl,hb⟩;refine ⟨_,rfl,?_⟩;replace BK135:=bK BK135 hb;replace BK136:=bK BK136 hb;replace HB:=spS HB hb;(try clear hb);have hcz102_0:=fun i_=>blk_cell BK135.out i_;have hfz102_0:=fun i_=>blk_frozen BK135.out i_;have hcz103_0:=fun i_=>blk_cell BK136.out i_;have hfz103_0:=fun i_=>blk_frozen BK136.out i_))
           go_ret
           exact rZ (pS HB.out)
         ·rw [if_neg c12] at H;have c12b0:(a0_17 == a1_17)=false:=beq_eq_false_iff_ne.mpr c12;have c12b1:(a0_17 != a1_17)=true:=bne_iff_ne.mpr c12;obtain rfl:=Option.some.inj H
          go_enter Try.func88,Try.ntmps88
          go_wp2_with (first|((with_reducible refine gLg rfl (by assumption) ?_);refine ldV ?_)|((with_reducible refine gSt rfl (by assumption) ?_);refine stV ?_)|((with_reducible refine gT 2 rfl ?_);refine bX 2 ?_;intro gb135 hg w104 hbox hb;have BK135:=mA hbox;have GW135:=gbpB HB hg;have GE135:=gbpB HB hg;replace HB:=spB HB hb;clear hb hbox hg)|((with_reducible refine gT 3 rfl ?_);refine bX 3 ?_;intro gb136 hg w105 hbox hb;have BK136:=mA hbox;have GW136:=gbpS HB hg;have GE136:=gbpS HB hg;replace HB:=spS HB hb;have NB135_136:=mA (lN (blk_lt (pK BK135.out)) hg);have hN135_136:=NB135_136.out;have NB136_135:=nS NB135_136;have hN136_135:=NB136_135.out;replace BK135:=bK BK135 hb;clear hb hbox hg;have hcz107_0:=fun i_=>blk_cell BK135.out i_;have hfz107_0:=fun i_=>blk_frozen BK135.out i_;have hcz108_0:=fun i_=>blk_cell BK136.out i_;have hfz108_0:=fun i_=>blk_frozen BK136.out i_)|((with_reducible refine gT 39 rfl ?_);refine gC (some 39) Try.func21 (laws_eqCmd.calls A9.out) ?_;rintro e w109 ⟨rfl,hb⟩;refine ⟨_,rfl,?_⟩;replace BK135:=bK BK135 hb;replace BK136:=bK BK136 hb;replace HB:=spS HB hb;(try clear hb);have hcz110_0:=fun i_=>blk_cell BK135.out i_;have hfz110_0:=fun i_=>blk_frozen BK135.out i_;have hcz111_0:=fun i_=>blk_cell BK136.out i_;have hfz111_0:=fun i_=>blk_frozen BK136.out i_))
          go_ret
          exact rZ (pS HB.out)
        ·rw [if_neg c11] at H;have c11b0:(a0_16 == a1_16)=false:=beq_eq_false_iff_ne.mpr c11;have c11b1:(a0_16 != a1_16)=true:=bne_iff_ne.mpr c11;obtain rfl:=Option.some.inj H
         go_enter Try.func88,Try.ntmps88
         go_wp2_with (first|((with_reducible refine gLg rfl (by assumption) ?_);refine ldV ?_)|((with_reducible refine gSt rfl (by assumption) ?_);refine stV ?_)|((with_reducible refine gT 2 rfl ?_);refine bX 2 ?_;intro gb135 hg w112 hbox hb;have BK135:=mA hbox;have GW135:=gbpB HB hg;have GE135:=gbpB HB hg;replace HB:=spB HB hb;clear hb hbox hg)|((with_reducible refine gT 3 rfl ?_);refine bX 3 ?_;intro gb136 hg w113 hbox hb;have BK136:=mA hbox;have GW136:=gbpS HB hg;have GE136:=gbpS HB hg;replace HB:=spS HB hb;have NB135_136:=mA (lN (blk_lt (pK BK135.out)) hg);have hN135_136:=NB135_136.out;have NB136_135:=nS NB135_136;have hN136_135:=NB136_135.out;replace BK135:=bK BK135 hb;clear hb hbox hg;have hcz115_0:=fun i_=>blk_cell BK135.out i_;have hfz115_0:=fun i_=>blk_frozen BK135.out i_;have hcz116_0:=fun i_=>blk_cell BK136.out i_;have hfz116_0:=fun i_=>blk_frozen BK136.out i_)|((with_reducible refine gT 39 rfl ?_);refine gC (some 39) Try.func21 (laws_eqCmd.calls A9.out) ?_;rintro e w117 ⟨rfl,hb⟩;refine ⟨_,rfl,?_⟩;replace BK135:=bK BK135 hb;replace BK136:=bK BK136 hb;replace HB:=spS HB hb;(try clear hb);have hcz118_0:=fun i_=>blk_cell BK135.out i_;have hfz118_0:=fun i_=>blk_frozen BK135.out i_;have hcz119_0:=fun i_=>blk_cell BK136.out i_;have hfz119_0:=fun i_=>blk_frozen BK136.out i_))
         go_ret
         exact rZ (pS HB.out)
       ·replace c10:=Bool.eq_false_iff.mpr c10;subst c10
        rw [if_neg nFT] at H
        obtain rfl:=Option.some.inj H
        go_enter Try.func88,Try.ntmps88
        go_wp2_with (first|((with_reducible refine gLg rfl (by assumption) ?_);refine ldV ?_)|((with_reducible refine gSt rfl (by assumption) ?_);refine stV ?_)|((with_reducible refine gT 2 rfl ?_);refine bX 2 ?_;intro gb135 hg w120 hbox hb;have BK135:=mA hbox;have GW135:=gbpB HB hg;have GE135:=gbpB HB hg;replace HB:=spB HB hb;clear hb hbox hg)|((with_reducible refine gT 3 rfl ?_);refine bX 3 ?_;intro gb136 hg w121 hbox hb;have BK136:=mA hbox;have GW136:=gbpS HB hg;have GE136:=gbpS HB hg;replace HB:=spS HB hb;have NB135_136:=mA (lN (blk_lt (pK BK135.out)) hg);have hN135_136:=NB135_136.out;have NB136_135:=nS NB135_136;have hN136_135:=NB136_135.out;replace BK135:=bK BK135 hb;clear hb hbox hg;have hcz123_0:=fun i_=>blk_cell BK135.out i_;have hfz123_0:=fun i_=>blk_frozen BK135.out i_;have hcz124_0:=fun i_=>blk_cell BK136.out i_;have hfz124_0:=fun i_=>blk_frozen BK136.out i_)|((with_reducible refine gT 39 rfl ?_);refine gC (some 39) Try.func21 (laws_eqCmd.calls A9.out) ?_;rintro e w125 ⟨rfl,hb⟩;refine ⟨_,rfl,?_⟩;replace BK135:=bK BK135 hb;replace BK136:=bK BK136 hb;replace HB:=spS HB hb;(try clear hb)))
        go_ret
        exact rZ (pS HB.out)
      ·rw [if_neg c8] at H;have c8b0:(a0_5 == a1_5)=false:=beq_eq_false_iff_ne.mpr c8;have c8b1:(a0_5 != a1_5)=true:=bne_iff_ne.mpr c8;obtain rfl:=Option.some.inj H
       go_enter Try.func88,Try.ntmps88
       go_wp2_with (first|((with_reducible refine gLg rfl (by assumption) ?_);refine ldV ?_)|((with_reducible refine gSt rfl (by assumption) ?_);refine stV ?_)|((with_reducible refine gT 2 rfl ?_);refine bX 2 ?_;intro gb135 hg w126 hbox hb;have BK135:=mA hbox;have GW135:=gbpB HB hg;have GE135:=gbpB HB hg;replace HB:=spB HB hb;clear hb hbox hg)|((with_reducible refine gT 3 rfl ?_);refine bX 3 ?_;intro gb136 hg w127 hbox hb;have BK136:=mA hbox;have GW136:=gbpS HB hg;have GE136:=gbpS HB hg;replace HB:=spS HB hb;have NB135_136:=mA (lN (blk_lt (pK BK135.out)) hg);have hN135_136:=NB135_136.out;have NB136_135:=nS NB135_136;have hN136_135:=NB136_135.out;replace BK135:=bK BK135 hb;clear hb hbox hg;have hcz129_0:=fun i_=>blk_cell BK135.out i_;have hfz129_0:=fun i_=>blk_frozen BK135.out i_;have hcz130_0:=fun i_=>blk_cell BK136.out i_;have hfz130_0:=fun i_=>blk_frozen BK136.out i_))
       go_ret
       exact rZ (pS HB.out)
     ·rw [if_neg c7] at H;have c7b0:(a0_4 == a1_4)=false:=beq_eq_false_iff_ne.mpr c7;have c7b1:(a0_4 != a1_4)=true:=bne_iff_ne.mpr c7;obtain rfl:=Option.some.inj H
      go_enter Try.func88,Try.ntmps88
      go_wp2_with (first|((with_reducible refine gLg rfl (by assumption) ?_);refine ldV ?_)|((with_reducible refine gSt rfl (by assumption) ?_);refine stV ?_)|((with_reducible refine gT 2 rfl ?_);refine bX 2 ?_;intro gb135 hg w131 hbox hb;have BK135:=mA hbox;have GW135:=gbpB HB hg;have GE135:=gbpB HB hg;replace HB:=spB HB hb;clear hb hbox hg)|((with_reducible refine gT 3 rfl ?_);refine bX 3 ?_;intro gb136 hg w132 hbox hb;have BK136:=mA hbox;have GW136:=gbpS HB hg;have GE136:=gbpS HB hg;replace HB:=spS HB hb;have NB135_136:=mA (lN (blk_lt (pK BK135.out)) hg);have hN135_136:=NB135_136.out;have NB136_135:=nS NB135_136;have hN136_135:=NB136_135.out;replace BK135:=bK BK135 hb;clear hb hbox hg;have hcz134_0:=fun i_=>blk_cell BK135.out i_;have hfz134_0:=fun i_=>blk_frozen BK135.out i_;have hcz135_0:=fun i_=>blk_cell BK136.out i_;have hfz135_0:=fun i_=>blk_frozen BK136.out i_))
      go_ret
      exact rZ (pS HB.out)
    ·rw [if_neg c6] at H;have c6b0:(a0_3 == a1_3)=false:=beq_eq_false_iff_ne.mpr c6;have c6b1:(a0_3 != a1_3)=true:=bne_iff_ne.mpr c6;obtain rfl:=Option.some.inj H
     go_enter Try.func88,Try.ntmps88
     go_wp2_with (first|((with_reducible refine gLg rfl (by assumption) ?_);refine ldV ?_)|((with_reducible refine gSt rfl (by assumption) ?_);refine stV ?_)|((with_reducible refine gT 2 rfl ?_);refine bX 2 ?_;intro gb135 hg w136 hbox hb;have BK135:=mA hbox;have GW135:=gbpB HB hg;have GE135:=gbpB HB hg;replace HB:=spB HB hb;clear hb hbox hg)|((with_reducible refine gT 3 rfl ?_);refine bX 3 ?_;intro gb136 hg w137 hbox hb;have BK136:=mA hbox;have GW136:=gbpS HB hg;have GE136:=gbpS HB hg;replace HB:=spS HB hb;have NB135_136:=mA (lN (blk_lt (pK BK135.out)) hg);have hN135_136:=NB135_136.out;have NB136_135:=nS NB135_136;have hN136_135:=NB136_135.out;replace BK135:=bK BK135 hb;clear hb hbox hg;have hcz139_0:=fun i_=>blk_cell BK135.out i_;have hfz139_0:=fun i_=>blk_frozen BK135.out i_;have hcz140_0:=fun i_=>blk_cell BK136.out i_;have hfz140_0:=fun i_=>blk_frozen BK136.out i_))
     go_ret
     exact rZ (pS HB.out)
   ·rw [if_neg c5] at H;have c5b0:(a0_2 == a1_2)=false:=beq_eq_false_iff_ne.mpr c5;have c5b1:(a0_2 != a1_2)=true:=bne_iff_ne.mpr c5;obtain rfl:=Option.some.inj H
    go_enter Try.func88,Try.ntmps88
    go_wp2_with (first|((with_reducible refine gLg rfl (by assumption) ?_);refine ldV ?_)|((with_reducible refine gSt rfl (by assumption) ?_);refine stV ?_)|((with_reducible refine gT 2 rfl ?_);refine bX 2 ?_;intro gb135 hg w141 hbox hb;have BK135:=mA hbox;have GW135:=gbpB HB hg;have GE135:=gbpB HB hg;replace HB:=spB HB hb;clear hb hbox hg)|((with_reducible refine gT 3 rfl ?_);refine bX 3 ?_;intro gb136 hg w142 hbox hb;have BK136:=mA hbox;have GW136:=gbpS HB hg;have GE136:=gbpS HB hg;replace HB:=spS HB hb;have NB135_136:=mA (lN (blk_lt (pK BK135.out)) hg);have hN135_136:=NB135_136.out;have NB136_135:=nS NB135_136;have hN136_135:=NB136_135.out;replace BK135:=bK BK135 hb;clear hb hbox hg;have hcz144_0:=fun i_=>blk_cell BK135.out i_;have hfz144_0:=fun i_=>blk_frozen BK135.out i_;have hcz145_0:=fun i_=>blk_cell BK136.out i_;have hfz145_0:=fun i_=>blk_frozen BK136.out i_))
    go_ret
    exact rZ (pS HB.out)
  ·rw [if_neg c4] at H;have c4b0:(a0_1 == a1_1)=false:=beq_eq_false_iff_ne.mpr c4;have c4b1:(a0_1 != a1_1)=true:=bne_iff_ne.mpr c4;obtain rfl:=Option.some.inj H
   go_enter Try.func88,Try.ntmps88
   go_wp2_with (first|((with_reducible refine gLg rfl (by assumption) ?_);refine ldV ?_)|((with_reducible refine gSt rfl (by assumption) ?_);refine stV ?_)|((with_reducible refine gT 2 rfl ?_);refine bX 2 ?_;intro gb135 hg w146 hbox hb;have BK135:=mA hbox;have GW135:=gbpB HB hg;have GE135:=gbpB HB hg;replace HB:=spB HB hb;clear hb hbox hg)|((with_reducible refine gT 3 rfl ?_);refine bX 3 ?_;intro gb136 hg w147 hbox hb;have BK136:=mA hbox;have GW136:=gbpS HB hg;have GE136:=gbpS HB hg;replace HB:=spS HB hb;have NB135_136:=mA (lN (blk_lt (pK BK135.out)) hg);have hN135_136:=NB135_136.out;have NB136_135:=nS NB135_136;have hN136_135:=NB136_135.out;replace BK135:=bK BK135 hb;clear hb hbox hg;have hcz149_0:=fun i_=>blk_cell BK135.out i_;have hfz149_0:=fun i_=>blk_frozen BK135.out i_;have hcz150_0:=fun i_=>blk_cell BK136.out i_;have hfz150_0:=fun i_=>blk_frozen BK136.out i_))
   go_ret
   exact rZ (pS HB.out)
 ·rw [if_neg c3] at H;have c3b0:(a0_0 == a1_0)=false:=beq_eq_false_iff_ne.mpr c3;have c3b1:(a0_0 != a1_0)=true:=bne_iff_ne.mpr c3;obtain rfl:=Option.some.inj H
  go_enter Try.func88,Try.ntmps88
  go_wp2_with (first|((with_reducible refine gLg rfl (by assumption) ?_);refine ldV ?_)|((with_reducible refine gSt rfl (by assumption) ?_);refine stV ?_)|((with_reducible refine gT 2 rfl ?_);refine bX 2 ?_;intro gb135 hg w151 hbox hb;have BK135:=mA hbox;have GW135:=gbpB HB hg;have GE135:=gbpB HB hg;replace HB:=spB HB hb;clear hb hbox hg)|((with_reducible refine gT 3 rfl ?_);refine bX 3 ?_;intro gb136 hg w152 hbox hb;have BK136:=mA hbox;have GW136:=gbpS HB hg;have GE136:=gbpS HB hg;replace HB:=spS HB hb;have NB135_136:=mA (lN (blk_lt (pK BK135.out)) hg);have hN135_136:=NB135_136.out;have NB136_135:=nS NB135_136;have hN136_135:=NB136_135.out;replace BK135:=bK BK135 hb;clear hb hbox hg;have hcz154_0:=fun i_=>blk_cell BK135.out i_;have hfz154_0:=fun i_=>blk_frozen BK135.out i_;have hcz155_0:=fun i_=>blk_cell BK136.out i_;have hfz155_0:=fun i_=>blk_frozen BK136.out i_))
  go_ret
  exact rZ (pS HB.out)

/-! ### laws_eqWordS: function 37 -/
def laws_eqWordS.l0 : Nat → List (S93) → List (S93) → Int → Option (Bool)
 | 0,_,_,_=>none
 | k+1,x0,x1,x5=>if x5<(x0.length:Int) then (if 0≤x5 then (if x5<(x1.length:Int) then ((laws_eqWord.f k ((rd_T93 x0 x5).f0) ((rd_T93 x0 x5).f1) ((rd_T93 x0 x5).f2) ((rd_T93 x0 x5).f3) ((rd_T93 x0 x5).f4) ((rd_T93 x0 x5).f5) ((rd_T93 x0 x5).f6.f0) ((rd_T93 x0 x5).f6.f1) ((rd_T93 x0 x5).f6.f2) ((rd_T93 x0 x5).f6.f3) ((rd_T93 x0 x5).f6.f4) ((rd_T93 x0 x5).f6.f5) ((rd_T93 x0 x5).f6.f6) ((rd_T93 x0 x5).f6.f7) ((rd_T93 x0 x5).f6.f8) ((rd_T93 x0 x5).f6.f9) ((rd_T93 x0 x5).f7) ((rd_T93 x0 x5).f8) ((rd_T93 x0 x5).f9) ((rd_T93 x0 x5).f10) ((rd_T93 x0 x5).f11) ((rd_T93 x0 x5).f12) ((rd_T93 x0 x5).f13) ((rd_T93 x0 x5).f14) ((rd_T93 x0 x5).f15) ((rd_T93 x0 x5).f16) ((rd_T93 x1 x5).f0) ((rd_T93 x1 x5).f1) ((rd_T93 x1 x5).f2) ((rd_T93 x1 x5).f3) ((rd_T93 x1 x5).f4) ((rd_T93 x1 x5).f5) ((rd_T93 x1 x5).f6.f0) ((rd_T93 x1 x5).f6.f1) ((rd_T93 x1 x5).f6.f2) ((rd_T93 x1 x5).f6.f3) ((rd_T93 x1 x5).f6.f4) ((rd_T93 x1 x5).f6.f5) ((rd_T93 x1 x5).f6.f6) ((rd_T93 x1 x5).f6.f7) ((rd_T93 x1 x5).f6.f8) ((rd_T93 x1 x5).f6.f9) ((rd_T93 x1 x5).f7) ((rd_T93 x1 x5).f8) ((rd_T93 x1 x5).f9) ((rd_T93 x1 x5).f10) ((rd_T93 x1 x5).f11) ((rd_T93 x1 x5).f12) ((rd_T93 x1 x5).f13) ((rd_T93 x1 x5).f14) ((rd_T93 x1 x5).f15) ((rd_T93 x1 x5).f16)).bind fun t142=>(if t142=true then (laws_eqWordS.l0 k x0 x1 (wrap64 (x5+1))) else (some false))) else (none)) else (none)) else (some true)
def laws_eqWordS.f (k : Nat) (l0 : List (S93)) (l1 : List (S93)) : Option (Bool) := if (l0.length : Int) = (l1.length : Int) then (laws_eqWordS.l0 k l0 l1 0) else (some false)
theorem laws_eqWordS.mono_l : ∀ k, (∀ y0 y1 y2, LeO (laws_eqWordS.l0 k y0 y1 y2) (laws_eqWordS.l0 (k + 1) y0 y1 y2))
 | 0=>fun _ _ _ r h=>by simp [laws_eqWordS.l0] at h
 | k+1=>by
  have ih0:=laws_eqWordS.mono_l k
  ·intros
   unfold laws_eqWordS.l0
   repeat' first
   | (with_reducible first|apply ih0|apply laws_eqWord.mono|exact LeO.refl _|exact LeO.none _|refine LeO.ite ?_ ?_|refine LeO.bind ?_ (fun _=>?_))|exact LeO.none _|refine LeO.ite ?_ ?_|refine LeO.bind ?_ (fun _=>?_)
theorem laws_eqWordS.mono : ∀ a0 a1 k, LeO (laws_eqWordS.f k a0 a1) (laws_eqWordS.f (k + 1) a0 a1) := by
 intro a0 a1 k;have ih0:=laws_eqWordS.mono_l k
 unfold laws_eqWordS.f
 repeat' first
   | (with_reducible first|apply ih0|apply laws_eqWord.mono|exact LeO.refl _|exact LeO.none _|refine LeO.ite ?_ ?_|refine LeO.bind ?_ (fun _=>?_))|exact LeO.none _|refine LeO.ite ?_ ?_|refine LeO.bind ?_ (fun _=>?_)
def laws_eqWordS.T6 : Bool × List (List Nat × List Nat) := (true, [([], []), ([], []), ([0, 1], [0, 1]), ([2], [2]), ([], []), ([], []), ([4, 5], [4, 5]), ([6], [6]), ([3, 7], [3, 7]), ([8], [8])])
def laws_eqWordS.B6 : List Nat := [0, 0, 3, 7, 0, 0, 48, 112, 255, 511]
theorem laws_eqWordS.tab6 : rtab .any (opsOf Try.f37 6) = laws_eqWordS.T6 := by kernel_rfl
theorem laws_eqWordS.bits6 : waitsOk laws_eqWordS.T6.2 laws_eqWordS.B6 = true := by kernel_rfl
set_option maxHeartbeats 8000000 in
set_option maxRecDepth 100000 in
theorem laws_eqWordS.calls {k : Nat} {A0 : Option Addr} {c0 : Nat} {l0 : List (S93)} {A1 : Option Addr} {c1 : Nat} {l1 : List (S93)} {r : Bool} {w : World} (hr0 : Kd.C k93 w A0 l0.length l0) (hc0 : l0.length ≤ c0) (hr1 : Kd.C k93 w A1 l1.length l1) (hc1 : l1.length ≤ c1) (h : laws_eqWordS.f k l0 l1 = some r) :
  Calls Try.prog 37 #[.slice A0 l0.length c0,.slice A1 l1.length c1] w fun e w'=>e=.returned (.bool r)∧Below w.heap.size w w':=by
 have hu93:=Try.underlying93;have HR0:=mA hr0;have HC0:=mA hc0;clear hr0 hc0;have HR1:=mA hr1;have HC1:=mA hc1;clear hr1 hc1;have HB:=mA (Below.refl w.heap.size w);have H:(if (l0.length:Int)=(l1.length:Int) then (laws_eqWordS.l0 k l0 l1 0) else (some false))=some r:=h;clear h
 by_cases c3:(l0.length:Int)=(l1.length:Int)
 ·rw [if_pos c3] at H;have c3b0:((l0.length:Int) == (l1.length:Int))=true:=beq_iff_eq.mpr c3;have c3b1:((l0.length:Int) != (l1.length:Int))=false:=bne_eq_false_iff_eq.mpr c3
  have c3b2:(l0.length == l1.length)=true:=by first|simpa using c3|(simp at c3 ⊢;omega)
  clear c3;have H':=mA H;clear H
  go_enter Try.func37,Try.ntmps37
  go_wp2
  go_loopg [5] k (fun kq v5 w'=>∃ (x5_1:Int),v5=.int .i64 x5_1∧Aside0 (laws_eqWordS.l0 kq l0 l1 x5_1=some r)∧Aside0 (kq≤k)∧Aside0 (Below w.heap.size w w'))
  case atStart=>exact ⟨(0),bZ,H',⟨Nat.le_refl _⟩,⟨pB HB.out⟩⟩
  case round =>
   clear H'
   (try clear c3);(try clear c3b0);(try clear c3b1);(try clear c3b2)
   obtain ⟨x5_1,rfl,HA,HK1,HB⟩:=hrel
   cases gk with
   | zero=>exact absurd HA.out (by simp [laws_eqWordS.l0])
   | succ k1 =>
    have H:=HA.out;clear HA;simp only [laws_eqWordS.l0] at H
    by_cases c4:x5_1<(l0.length:Int)
    ·rw [if_pos c4] at H;have c4b0:decide (x5_1<(l0.length:Int))=true:=decide_eq_true c4;clear c4
     by_cases c5:0≤x5_1
     ·rw [if_pos c5] at H;have c5b0:decide (0≤x5_1)=true:=decide_eq_true c5;clear c5
      by_cases c6:x5_1<(l1.length:Int)
      ·rw [if_pos c6] at H;have c6b0:decide (x5_1<(l1.length:Int))=true:=decide_eq_true c6;clear c6;obtain ⟨t142,A7,H⟩:=bI H;(try dsimp only at H)
       have H0_:=mA H;clear H
       try go_wp2
       replace HB:=mA (below_drew1 HB.out);have p140:0≤(x5_1:Int):=of_decide_eq_true bA;have q140:x5_1<(l0.length:Int):=of_decide_eq_true bA;obtain ⟨ad140,A140_24,c140_24,A140_25,c140_25,e140,hs140,hl140_24,hi140_24,hl140_25,hi140_25⟩:=at_R93 HR0.out x5_1 p140 q140;cases e140;have HR140_24:=mA hi140_24;have HC140_24:=mA hl140_24;clear hi140_24 hl140_24;have HR140_25:=mA hi140_25;have HC140_25:=mA hl140_25;clear hi140_25 hl140_25;replace p140:=eq_true p140;replace q140:=eq_true q140;have p141:0≤(x5_1:Int):=of_decide_eq_true bA;have q141:x5_1<(l1.length:Int):=of_decide_eq_true bA;obtain ⟨ad141,A141_24,c141_24,A141_25,c141_25,e141,hs141,hl141_24,hi141_24,hl141_25,hi141_25⟩:=at_R93 HR1.out x5_1 p141 q141;cases e141;have HR141_24:=mA hi141_24;have HC141_24:=mA hl141_24;clear hi141_24 hl141_24;have HR141_25:=mA hi141_25;have HC141_25:=mA hl141_25;clear hi141_25 hl141_25;replace p141:=eq_true p141;replace q141:=eq_true q141
       refine start_ (n:=10) (S:=fun w'=>RS w' (ad140.add ((x5_1).toNat * 26)) (d93 (rd_T93 l0 x5_1) (.slice A140_24 ((rd_T93 l0 x5_1).f15).length c140_24) (.slice A140_25 ((rd_T93 l0 x5_1).f16).length c140_25))∧RS w' (ad141.add ((x5_1).toNat * 26)) (d93 (rd_T93 l1 x5_1) (.slice A141_24 ((rd_T93 l1 x5_1).f15).length c141_24) (.slice A141_25 ((rd_T93 l1 x5_1).f16).length c141_25))) (ds:=[]) _ aK rfl rfl ⟨rS HB hs140,rS HB hs141⟩ (fun hHeld=>?_);refine with_tabW laws_eqWordS.tab6 laws_eqWordS.bits6 (fun HT_ HW_=>?_)
       generalize wr.drew=w9 at HB HR140_24 HR140_25 HR141_24 HR141_25 hHeld ⊢
       refine qu 0 ?_;refine qu 1 ?_;refine qu 2 ?_;refine qu 4 ?_;refine qu 5 ?_;refine qu 6 ?_;refine qt 3 ?_;refine qt 7 ?_
       refine qo 8 ?_;intro K hK
       refine gD Try.func88 (laws_eqWord.calls (cB HR140_24 HB) HC140_24.out (cB HR140_25 HB) HC140_25.out (cB HR141_24 HB) HC141_24.out (cB HR141_25 HB) HC141_25.out A7.out) ?_
       rintro e w10 ⟨rfl,hb⟩;refine ⟨_,rfl,?_⟩;replace HB:=spB HB hb
       (try clear hb)
       refine hK.out _ _ ⟨rS HB hs140,rS HB hs141⟩ (fun hHeld=>?_);clear hK K;refine no_ (some 25) ?_;refine qu 9 ?_;refine qe ?_
       have H:=H0_.out;clear H0_
       by_cases c8:t142=true
       ·subst c8;rw [if_pos rfl] at H;have H':=mA H;clear H
        try go_wp2
        go_roundg k1
        case measure=>have:=HK1.out;omega
        case rel=>exact ⟨(wrap64 (x5_1+1)),bZ,H',⟨by have:=HK1.out;omega⟩,⟨pB HB.out⟩⟩
       ·replace c8:=Bool.eq_false_iff.mpr c8;subst c8
        rw [if_neg nFT] at H
        obtain rfl:=Option.some.inj H
        try go_wp2
        go_ret
        exact rZ (pB HB.out)
      ·rw [if_neg c6] at H
       exact absurd H (by simp)
     ·rw [if_neg c5] at H
      exact absurd H (by simp)
    ·rw [if_neg c4] at H;have c4b0:decide (x5_1<(l0.length:Int))=false:=decide_eq_false c4;clear c4;obtain rfl:=Option.some.inj H
     go_wp2
     go_ret
     exact rZ (pB HB.out)
 ·rw [if_neg c3] at H;have c3b0:((l0.length:Int) == (l1.length:Int))=false:=beq_eq_false_iff_ne.mpr c3;have c3b1:((l0.length:Int) != (l1.length:Int))=true:=bne_iff_ne.mpr c3
  have c3b2:(l0.length == l1.length)=false:=by first|simpa using c3|(simp at c3 ⊢;omega)
  obtain rfl:=Option.some.inj H
  go_enter Try.func37,Try.ntmps37
  go_wp2
  go_ret
  exact rZ (pB HB.out)

end Go.Proofs.Ytncohokalilnbaa.P
