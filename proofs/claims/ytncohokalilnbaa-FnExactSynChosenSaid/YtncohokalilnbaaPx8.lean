-- printed by pprint.py (this session's program over the kit's printer) out of the translation. Lean checks it.
import Derived.Test.YtncohokalilnbaaPx0
import Derived.Test.YtncohokalilnbaaPx7
namespace Go.Proofs.Ytncohokalilnbaa.P
open Go.RowKit Go.Proofs.YtncohokalilnbaaX Go.Proofs.YtncohokalilnbaaW.PrintWords Go.Proofs.YtncohokalilnbaaW.PrintLast Go.Proofs.YtncohokalilnbaaW.PrintMore
attribute [local go_sem] max2_int min2_int max_two min_two max_three min_three max_four min_four   -- for this text's walks alone
set_option linter.unusedVariables false
set_option linter.unusedSimpArgs false

/-! ### laws_toIntS: function 60 -/
def laws_toIntS.l0 : Nat → List Int → List Int → Int → Option (List Int)
 | 0,_,_,_=>none
 | k+1,x0,x3,x4=>if x4<(x0.length:Int) then (if 0≤x4 then (if x4<(x3.length:Int) then (laws_toIntS.l0 k x0 (x3.set (x4:Int).toNat (rd x0 x4)) (wrap64 (x4+1))) else (none)) else (none)) else (some x3)
def laws_toIntS.f (k : Nat) (l0 : List Int) : Option (List Int) := if 0 ≤ (l0.length : Int) then (if ((l0.length : Int) : Int).toNat ≤ 35184372088832 then (laws_toIntS.l0 k l0 (List.replicate ((l0.length : Int) : Int).toNat 0) 0) else (none)) else (none)
theorem laws_toIntS.mono_l : ∀ k, (∀ y0 y1 y2, LeO (laws_toIntS.l0 k y0 y1 y2) (laws_toIntS.l0 (k + 1) y0 y1 y2))
 | 0=>fun _ _ _ r h=>by simp [laws_toIntS.l0] at h
 | k+1=>by
  have ih0:=laws_toIntS.mono_l k
  ·intros
   unfold laws_toIntS.l0
   repeat' first
   | (with_reducible first|apply ih0|exact LeO.refl _|exact LeO.none _|refine LeO.ite ?_ ?_|refine LeO.bind ?_ (fun _=>?_))|exact LeO.none _|refine LeO.ite ?_ ?_|refine LeO.bind ?_ (fun _=>?_)
theorem laws_toIntS.mono : ∀ a0 k, LeO (laws_toIntS.f k a0) (laws_toIntS.f (k + 1) a0) := by
 intro a0 k;have ih0:=laws_toIntS.mono_l k
 unfold laws_toIntS.f
 repeat' first
   | (with_reducible first|apply ih0|exact LeO.refl _|exact LeO.none _|refine LeO.ite ?_ ?_|refine LeO.bind ?_ (fun _=>?_))|exact LeO.none _|refine LeO.ite ?_ ?_|refine LeO.bind ?_ (fun _=>?_)
set_option maxHeartbeats 8000000 in
set_option maxRecDepth 100000 in
theorem laws_toIntS.calls {k : Nat} {A0 : Option Addr} {c0 : Nat} {l0 r : List Int} {w : World} (hr0 : Kd.C (Kd.int .i64) w A0 l0.length l0) (hc0 : l0.length ≤ c0) (h : laws_toIntS.f k l0 = some r) :
  Calls Try.prog 60 #[.slice A0 l0.length c0] w fun e w'=>∃ v0_:Value,e=.returned (v0_)∧Kd.R (Kd.int .i64) 3 w' w.heap.size (fun _=>True) v0_ r∧Below w.heap.size w w':=by
 have HR0:=mA hr0;have HC0:=mA hc0;clear hr0 hc0;have HB:=mA (Below.refl w.heap.size w);have H:(if 0≤(l0.length:Int) then (if ((l0.length:Int):Int).toNat≤35184372088832 then (laws_toIntS.l0 k l0 (List.replicate ((l0.length:Int):Int).toNat 0) 0) else (none)) else (none))=some r:=h;clear h
 by_cases c2:0≤(l0.length:Int)
 ·rw [if_pos c2] at H;have c2b0:=eq_true c2;have c2b1:decide (0≤(l0.length:Int))=true:=decide_eq_true c2;clear c2
  by_cases c3:((l0.length:Int):Int).toNat≤35184372088832
  ·rw [if_pos c3] at H;have c3b0:=eq_true c3;have c3b1:decide (((l0.length:Int):Int).toNat≤35184372088832)=true:=decide_eq_true c3;clear c3;obtain ⟨y293,hy293⟩:∃ y_:List Int,y_=(List.replicate ((l0.length:Int):Int).toNat 0):=⟨_,rfl⟩
   replace H:(laws_toIntS.l0 k l0 y293 0)=some r:=qH hy293 H
   have Ny293:=mA hy293;clear hy293;have H':=mA H;clear H
   go_enter Try.func60,Try.ntmps60
   go_wp2_with (first|((with_reducible refine gT 7 rfl ?_);refine Kd.R_make (Kd.int .i64) _ 3 rfl (N:=7) rfl 23 _ _ rfl (l0.length:Int) rfl rfl Try.underlying23 (.int .i64 0) 8 info3 rfl aD (by omega) 0 (ok:=fun _=>True) (okp:=fun _=>True) rfl (fun _ hk=>hk) trivial (of_decide_eq_true bA) (Nat.le_trans (Nat.mul_le_mul_right _ (of_decide_eq_true bA:(l0.length:Int).toNat≤35184372088832)) (by omega)) (Below.refl _ _) (Nat.le_refl _) ?_;intro v294 w4 ho5 hb hg_ hnew_;clear hg_ hnew_;(first|rw [← Ny293.out] at ho5|(simp only [Int.reduceToNat] at ho5;rw [← Ny293.out] at ho5));have HO295:=mA (Kd.R_lower ho5 (bpB HB));replace HB:=spB HB hb;clear hb ho5))
   go_loopg [4] k (fun kq v4 w'=>∃ (x3_1:List Int) (x4_1:Int),v4=.int .i64 x4_1∧Aside0 (laws_toIntS.l0 kq l0 x3_1 x4_1=some r)∧Aside0 (kq≤k)∧Aside0 (Kd.R (Kd.int .i64) 3 w' w.heap.size (fun _=>True) v294 x3_1)∧Aside0 (Below w.heap.size w w'))
   case atStart=>exact ⟨(y293),(0),bZ,H',⟨Nat.le_refl _⟩,⟨pR HO295.out⟩,⟨pB HB.out⟩⟩
   case round =>
    clear H'
    (try clear c2);(try clear c2b0);(try clear c2b1);(try clear c3);(try clear c3b0);(try clear c3b1)
    obtain ⟨x3_1,x4_1,rfl,HA,HK1,HO_3,HB⟩:=hrel
    cases gk with
    | zero=>exact absurd HA.out (by simp [laws_toIntS.l0])
    | succ k1 =>
     have H:=HA.out;clear HA;simp only [laws_toIntS.l0] at H
     by_cases c6:x4_1<(l0.length:Int)
     ·rw [if_pos c6] at H;have c6b0:decide (x4_1<(l0.length:Int))=true:=decide_eq_true c6;clear c6
      by_cases c7:0≤x4_1
      ·rw [if_pos c7] at H;have c7b0:decide (0≤x4_1)=true:=decide_eq_true c7;clear c7
       by_cases c8:x4_1<(x3_1.length:Int)
       ·rw [if_pos c8] at H;have c8b0:decide (x4_1<(x3_1.length:Int))=true:=decide_eq_true c8;clear c8;obtain ⟨y297,hy297⟩:∃ y_:List Int,y_=(x3_1.set (x4_1:Int).toNat (rd l0 x4_1)):=⟨_,rfl⟩
        replace H:(laws_toIntS.l0 k1 l0 y297 (wrap64 (x4_1+1)))=some r:=qH hy297 H
        have Ny297:=mA hy297;clear hy297;have H':=mA H;clear H;have p296:0≤(x4_1:Int):=of_decide_eq_true bA;have q296:x4_1<(l0.length:Int):=of_decide_eq_true bA;obtain ⟨ad296,e296,hx296_0⟩:=Kd.at_int HR0.out x4_1 p296 q296;cases e296;replace hx296_0:=hC HB hx296_0;replace p296:=eq_true p296;replace q296:=eq_true q296;have p9:0≤(x4_1:Int):=of_decide_eq_true bA;have q9:(x4_1:Int)<((x3_1.length:Int):Int):=of_decide_eq_true bA
        obtain ⟨go9,co9,eo9,gb9,gl9,cl9,HG9⟩:=Kd.R_form HO_3.out (by omega)
        (first|cases eo9|(injection eo9 with ea_ en_ ec_;(first|subst ea_|(injection ea_ with ea_;subst ea_));subst ec_;clear en_))
        have GB9:=mA gb9;have GG9:=mA HG9;clear gb9 gl9 HG9;obtain ⟨hx9_0,hf9_0⟩:=Kd.R_celln 0 HO_3.out (x4_1:Int) p9 q9;replace p9:=eq_true p9;replace q9:=eq_true q9;have HP10:=Kd.R_putg HO_3.out (x4_1:Int) (rd l0 x4_1)
        go_wp2_with (first|((with_reducible refine gate_store (t:=3) (p:=20) rfl ?_);refine store_event (t:=3) (p:=20) (v:=?vo_w11) (w1:=(wr.setCell ⟨go9,(x4_1:Int).toNat,none⟩ (.int .i64 (rd l0 x4_1)))) ?hg ?ho ?hn ?hr ?_;(case ho=>rfl);(case hg=>rfl);(case hn=>rfl);(case hr=>first|(go_simp;done)|(go_simp;rfl));intro w11 hw;have hg:wr.grownBy w11 (some go9):=(by rw [hw];exact HP10.2);have hp_:Kd.R (Kd.int .i64) 3 w11 w.heap.size (fun _=>True) (.slice (some ⟨go9,0,none⟩) x3_1.length co9) y297:=(by rw [hw,Ny297.out];exact HP10.1);clear HP10;replace HO_3:=mA hp_;replace HB:=mA (by rw [hw];exact below_set (HB.out) GB9.out:Below w.heap.size w w11);clear hg hw hp_))
        go_roundg k1
        case measure=>have:=HK1.out;omega
        case rel=>exact ⟨(y297),(wrap64 (x4_1+1)),bZ,H',⟨by have:=HK1.out;omega⟩,⟨pR HO_3.out⟩,⟨pB HB.out⟩⟩
       ·rw [if_neg c8] at H
        exact absurd H (by simp)
      ·rw [if_neg c7] at H
       exact absurd H (by simp)
     ·rw [if_neg c6] at H;have c6b0:decide (x4_1<(l0.length:Int))=false:=decide_eq_false c6;clear c6;obtain rfl:=Option.some.inj H
      go_wp2
      go_ret
      exact ⟨_,by first|rfl|(simp [errW_none,errW_some]<;>rfl)|(simp [*,errW_none,errW_some]<;>rfl),pR HO_3.out,pB HB.out⟩
  ·rw [if_neg c3] at H
   exact absurd H (by simp)
 ·rw [if_neg c2] at H
  exact absurd H (by simp)

/-! ### laws_toSynSeeker: function 103 -/
def laws_toSynSeeker.f (k : Nat) (a0_0 a0_1 a0_2 a0_3 a0_4 a0_5 a0_6 a0_7 a0_8 a0_9 a0_10 a0_11 a0_12 a0_13 a0_14 a0_15 a0_16 a0_17 a0_18 a0_19 a0_20 a0_21 a0_22 a0_23 a0_24 : Int) (l0_25 : List Int) : Option (Int × Int × Int × Int × Int × Int × Int × Int × Int × Int × Int × Int × Int × Int × Int × Int × Int × Int × Int × Int × Int × Int × Int × Int × Int × List Int) := (laws_toCmd.f a0_3 a0_4 a0_5 a0_6 a0_7 a0_8 a0_9 a0_10 a0_11 a0_12).bind fun bt301 => ((laws_toSynPaper.f a0_13 a0_14 a0_15 a0_16 a0_17 a0_18 a0_19 a0_20 a0_21 a0_22 a0_23 a0_24).bind fun bt311 => ((laws_toIntS.f k l0_25).bind fun t323 => (some (a0_0, a0_1, a0_2, bt301.1, bt301.2.1, bt301.2.2.1, bt301.2.2.2.1, bt301.2.2.2.2.1, bt301.2.2.2.2.2.1, bt301.2.2.2.2.2.2.1, bt301.2.2.2.2.2.2.2.1, bt301.2.2.2.2.2.2.2.2.1, bt301.2.2.2.2.2.2.2.2.2, bt311.1, bt311.2.1, bt311.2.2.1, bt311.2.2.2.1, bt311.2.2.2.2.1, bt311.2.2.2.2.2.1, bt311.2.2.2.2.2.2.1, bt311.2.2.2.2.2.2.2.1, bt311.2.2.2.2.2.2.2.2.1, bt311.2.2.2.2.2.2.2.2.2.1, bt311.2.2.2.2.2.2.2.2.2.2.1, bt311.2.2.2.2.2.2.2.2.2.2.2, t323))))
theorem laws_toSynSeeker.mono : ∀ a0 a1 a2 a3 a4 a5 a6 a7 a8 a9 a10 a11 a12 a13 a14 a15 a16 a17 a18 a19 a20 a21 a22 a23 a24 a25 k, LeO (laws_toSynSeeker.f k a0 a1 a2 a3 a4 a5 a6 a7 a8 a9 a10 a11 a12 a13 a14 a15 a16 a17 a18 a19 a20 a21 a22 a23 a24 a25) (laws_toSynSeeker.f (k + 1) a0 a1 a2 a3 a4 a5 a6 a7 a8 a9 a10 a11 a12 a13 a14 a15 a16 a17 a18 a19 a20 a21 a22 a23 a24 a25) := by
 intro a0 a1 a2 a3 a4 a5 a6 a7 a8 a9 a10 a11 a12 a13 a14 a15 a16 a17 a18 a19 a20 a21 a22 a23 a24 a25 k
 unfold laws_toSynSeeker.f
 repeat' first
   | (with_reducible first|apply laws_toIntS.mono|exact LeO.refl _|exact LeO.none _|refine LeO.ite ?_ ?_|refine LeO.bind ?_ (fun _=>?_))|exact LeO.none _|refine LeO.ite ?_ ?_|refine LeO.bind ?_ (fun _=>?_)
set_option maxHeartbeats 8000000 in
set_option maxRecDepth 100000 in
theorem laws_toSynSeeker.calls {k : Nat} {a0_0 a0_1 a0_2 a0_3 a0_4 a0_5 a0_6 a0_7 a0_8 a0_9 a0_10 a0_11 a0_12 a0_13 a0_14 a0_15 a0_16 a0_17 a0_18 a0_19 a0_20 a0_21 a0_22 a0_23 a0_24 : Int} {A0_25 : Option Addr} {c0_25 : Nat} {l0_25 : List Int} {r1 r2 r3 r4 r5 r6 r7 r8 r9 r10 r11 r12 r13 r14 r15 r16 r17 r18 r19 r20 r21 r22 r23 r24 r25 : Int} {r26 : List Int} {w : World} (hr0_25 : Kd.C (Kd.int .i64) w A0_25 l0_25.length l0_25) (hc0_25 : l0_25.length ≤ c0_25) (h : laws_toSynSeeker.f k a0_0 a0_1 a0_2 a0_3 a0_4 a0_5 a0_6 a0_7 a0_8 a0_9 a0_10 a0_11 a0_12 a0_13 a0_14 a0_15 a0_16 a0_17 a0_18 a0_19 a0_20 a0_21 a0_22 a0_23 a0_24 l0_25 = some (r1, r2, r3, r4, r5, r6, r7, r8, r9, r10, r11, r12, r13, r14, r15, r16, r17, r18, r19, r20, r21, r22, r23, r24, r25, r26)) :
  Calls Try.prog 103 #[.agg #[.int .i64 a0_0,.int .i64 a0_1,.int .i64 a0_2,.int .i64 a0_3,.int .i64 a0_4,.int .i64 a0_5,.int .i64 a0_6,.int .i64 a0_7,.int .i64 a0_8,.int .i64 a0_9,.int .i64 a0_10,.int .i64 a0_11,.int .i64 a0_12,.int .i64 a0_13,.int .i64 a0_14,.int .i64 a0_15,.int .i64 a0_16,.int .i64 a0_17,.int .i64 a0_18,.int .i64 a0_19,.int .i64 a0_20,.int .i64 a0_21,.int .i64 a0_22,.int .i64 a0_23,.int .i64 a0_24,.slice A0_25 l0_25.length c0_25]] w fun e w'=>∃ v25_:Value,e=.returned (.agg #[.int .i64 r1,.int .i64 r2,.int .i64 r3,.int .i64 r4,.int .i64 r5,.int .i64 r6,.int .i64 r7,.int .i64 r8,.int .i64 r9,.int .i64 r10,.int .i64 r11,.int .i64 r12,.int .i64 r13,.int .i64 r14,.int .i64 r15,.int .i64 r16,.int .i64 r17,.int .i64 r18,.int .i64 r19,.int .i64 r20,.int .i64 r21,.int .i64 r22,.int .i64 r23,.int .i64 r24,.int .i64 r25,v25_])∧Kd.R (Kd.int .i64) 3 w' w.heap.size (fun _=>True) v25_ r26∧Below w.heap.size w w':=by
 have hu129:=Try.underlying129;have hu88:=Try.underlying88;have hu125:=Try.underlying125;have hu44:=Try.underlying44;have hu127:=Try.underlying127;have hu53:=Try.underlying53;have HR0_25:=mA hr0_25;have HC0_25:=mA hc0_25;clear hr0_25 hc0_25;have HB:=mA (Below.refl w.heap.size w);have H:((laws_toCmd.f a0_3 a0_4 a0_5 a0_6 a0_7 a0_8 a0_9 a0_10 a0_11 a0_12).bind fun bt301=>((laws_toSynPaper.f a0_13 a0_14 a0_15 a0_16 a0_17 a0_18 a0_19 a0_20 a0_21 a0_22 a0_23 a0_24).bind fun bt311=>((laws_toIntS.f k l0_25).bind fun t323=>(some (a0_0,a0_1,a0_2,bt301.1,bt301.2.1,bt301.2.2.1,bt301.2.2.2.1,bt301.2.2.2.2.1,bt301.2.2.2.2.2.1,bt301.2.2.2.2.2.2.1,bt301.2.2.2.2.2.2.2.1,bt301.2.2.2.2.2.2.2.2.1,bt301.2.2.2.2.2.2.2.2.2,bt311.1,bt311.2.1,bt311.2.2.1,bt311.2.2.2.1,bt311.2.2.2.2.1,bt311.2.2.2.2.2.1,bt311.2.2.2.2.2.2.1,bt311.2.2.2.2.2.2.2.1,bt311.2.2.2.2.2.2.2.2.1,bt311.2.2.2.2.2.2.2.2.2.1,bt311.2.2.2.2.2.2.2.2.2.2.1,bt311.2.2.2.2.2.2.2.2.2.2.2,t323)))))=some (r1,r2,r3,r4,r5,r6,r7,r8,r9,r10,r11,r12,r13,r14,r15,r16,r17,r18,r19,r20,r21,r22,r23,r24,r25,r26):=h;clear h;obtain ⟨⟨t301,t302,t303,t304,t305,t306,t307,t308,t309,t310⟩,A2,H⟩:=bI H;(try dsimp only at H);obtain ⟨⟨t311,t312,t313,t314,t315,t316,t317,t318,t319,t320,t321,t322⟩,A3,H⟩:=bI H;(try dsimp only at H);obtain ⟨t323,A4,H⟩:=bI H;(try dsimp only at H);simp only [Option.some.injEq,Prod.mk.injEq] at H;obtain ⟨rfl,rfl,rfl,rfl,rfl,rfl,rfl,rfl,rfl,rfl,rfl,rfl,rfl,rfl,rfl,rfl,rfl,rfl,rfl,rfl,rfl,rfl,rfl,rfl,rfl,rfl⟩:=H
 go_enter Try.func103,Try.ntmps103
 go_wp2_with (first|((with_reducible refine gLg rfl (by assumption) ?_);refine ldV ?_)|((with_reducible refine gSt rfl (by assumption) ?_);refine stV ?_)|((with_reducible refine gT 1 rfl ?_);refine bX 1 ?_;intro gb298 hg w5 hbox hb;have BK298:=mA hbox;have GW298:=gbpB HB hg;have GE298:=gbpB HB hg;replace HB:=spB HB hb;clear hb hbox hg)|((with_reducible refine gT 2 rfl ?_);refine bJ 2 y88 ?_;intro gb299 hg w6 hbox hb;have BK299:=mA hbox;have GW299:=gbpS HB hg;have GE299:=gbpS HB hg;replace HB:=spS HB hb;have NB298_299:=mA (lN (blk_lt (pK BK298.out)) hg);have hN298_299:=NB298_299.out;have NB299_298:=nS NB298_299;have hN299_298:=NB299_298.out;replace BK298:=bK BK298 hb;clear hb hbox hg)|((with_reducible refine gT 3 rfl ?_);refine bJ 3 y88 ?_;intro gb300 hg w7 hbox hb;have BK300:=mA hbox;have GW300:=gbpS HB hg;have GE300:=gbpS HB hg;replace HB:=spS HB hb;have NB298_300:=mA (lN (blk_lt (pK BK298.out)) hg);have hN298_300:=NB298_300.out;have NB300_298:=nS NB298_300;have hN300_298:=NB300_298.out;replace BK298:=bK BK298 hb;have NB299_300:=mA (lN (blk_lt (pK BK299.out)) hg);have hN299_300:=NB299_300.out;have NB300_299:=nS NB299_300;have hN300_299:=NB300_299.out;replace BK299:=bK BK299 hb;clear hb hbox hg;have hcz10_0:=fun i_=>blk_cell BK298.out i_;have hfz10_0:=fun i_=>blk_frozen BK298.out i_;have hcz12_0:=fun i_=>blk_cell BK300.out i_;have hfz12_0:=fun i_=>blk_frozen BK300.out i_)|((with_reducible refine gT 15 rfl ?_);refine gC (some 15) Try.func137 (laws_toCmd.calls A2.out) ?_;rintro e w13 ⟨rfl,hb⟩;refine ⟨_,rfl,?_⟩;replace BK298:=bF BK298 hb;replace BK299:=bF BK299 hb;replace BK300:=mA (blk_below (g:=gb300) (o:=.cells #[.int .i64 a0_0,.int .i64 a0_1,.int .i64 a0_2,.int .i64 0,.int .i64 0,.int .i64 0,.int .i64 0,.int .i64 0,.int .i64 0,.int .i64 0,.int .i64 0,.int .i64 0,.int .i64 0,.int .i64 0,.int .i64 0,.int .i64 0,.int .i64 0,.int .i64 0,.int .i64 0,.int .i64 0,.int .i64 0,.int .i64 0,.int .i64 0,.int .i64 0,.int .i64 0,.slice none 0 0] 88 (0,0)) (pP BK300) hb);replace HB:=spS HB hb;(try clear hb);have hcz14_0:=fun i_=>blk_cell BK300.out i_;have hfz14_0:=fun i_=>blk_frozen BK300.out i_;have hcz15_0:=fun i_=>blk_cell BK298.out i_;have hfz15_0:=fun i_=>blk_frozen BK298.out i_)|((with_reducible refine gT 19 rfl ?_);refine gC (some 19) Try.func105 (laws_toSynPaper.calls A3.out) ?_;rintro e w16 ⟨rfl,hb⟩;refine ⟨_,rfl,?_⟩;replace BK298:=bF BK298 hb;replace BK299:=bF BK299 hb;replace BK300:=mA (blk_below (g:=gb300) (o:=.cells #[.int .i64 a0_0,.int .i64 a0_1,.int .i64 a0_2,.int .i64 t301,.int .i64 t302,.int .i64 t303,.int .i64 t304,.int .i64 t305,.int .i64 t306,.int .i64 t307,.int .i64 t308,.int .i64 t309,.int .i64 t310,.int .i64 0,.int .i64 0,.int .i64 0,.int .i64 0,.int .i64 0,.int .i64 0,.int .i64 0,.int .i64 0,.int .i64 0,.int .i64 0,.int .i64 0,.int .i64 0,.slice none 0 0] 88 (0,0)) (pP BK300) hb);replace HB:=spS HB hb;(try clear hb);have hcz17_0:=fun i_=>blk_cell BK300.out i_;have hfz17_0:=fun i_=>blk_frozen BK300.out i_;have hcz18_0:=fun i_=>blk_cell BK298.out i_;have hfz18_0:=fun i_=>blk_frozen BK298.out i_)|((with_reducible refine gT 23 rfl ?_);refine gC (some 23) Try.func60 (laws_toIntS.calls (Kd.C_below HR0_25.out (pS HB.out)) HC0_25.out A4.out) ?_;rintro e w19 ⟨v324,rfl,ho0,hb⟩;refine ⟨_,rfl,?_⟩;have HO325:=mA (Kd.R_lower ho0 (bpS HB));replace BK298:=bF BK298 hb;replace BK299:=bF BK299 hb;replace BK300:=mA (blk_below (g:=gb300) (o:=.cells #[.int .i64 a0_0,.int .i64 a0_1,.int .i64 a0_2,.int .i64 t301,.int .i64 t302,.int .i64 t303,.int .i64 t304,.int .i64 t305,.int .i64 t306,.int .i64 t307,.int .i64 t308,.int .i64 t309,.int .i64 t310,.int .i64 t311,.int .i64 t312,.int .i64 t313,.int .i64 t314,.int .i64 t315,.int .i64 t316,.int .i64 t317,.int .i64 t318,.int .i64 t319,.int .i64 t320,.int .i64 t321,.int .i64 t322,.slice none 0 0] 88 (0,0)) (pP BK300) hb);replace HB:=spS HB hb;(try clear hb);(try clear ho0);obtain ⟨Ao20,co20,rfl⟩:=Kd.R_slice HO325.out;have hcz21_0:=fun i_=>blk_cell BK300.out i_;have hfz21_0:=fun i_=>blk_frozen BK300.out i_;have hcz22_0:=fun i_=>blk_cell BK299.out i_;have hfz22_0:=fun i_=>blk_frozen BK299.out i_))
 refine bodyPost_ret (results_cell_row rfl _ _ gb299 88 #[.int .i64 a0_0,.int .i64 a0_1,.int .i64 a0_2,.int .i64 t301,.int .i64 t302,.int .i64 t303,.int .i64 t304,.int .i64 t305,.int .i64 t306,.int .i64 t307,.int .i64 t308,.int .i64 t309,.int .i64 t310,.int .i64 t311,.int .i64 t312,.int .i64 t313,.int .i64 t314,.int .i64 t315,.int .i64 t316,.int .i64 t317,.int .i64 t318,.int .i64 t319,.int .i64 t320,.int .i64 t321,.int .i64 t322,.slice Ao20 t323.length co20] (0,0) _ rfl (pP BK299) Try.underlying88 rfl aK) rfl ?_
 exact ⟨_,by first|rfl|(simp [errW_none,errW_some]<;>rfl)|(simp [*,errW_none,errW_some]<;>rfl),pUU HO325 BK300 BK299,pS HB.out⟩

/-! ### laws_toSynSeekerS: function 61 -/
def laws_toSynSeekerS.l0 : Nat → List (S129) → List (S88) → Int → Option ((List (S88)))
 | 0,_,_,_=>none
 | k+1,x0,x3,x4=>if x4<(x0.length:Int) then (if 0≤x4 then ((laws_toSynSeeker.f k ((rd_T129 x0 x4).f0) ((rd_T129 x0 x4).f1) ((rd_T129 x0 x4).f2) ((rd_T129 x0 x4).f3.f0) ((rd_T129 x0 x4).f3.f1) ((rd_T129 x0 x4).f3.f2) ((rd_T129 x0 x4).f3.f3) ((rd_T129 x0 x4).f3.f4) ((rd_T129 x0 x4).f3.f5) ((rd_T129 x0 x4).f3.f6) ((rd_T129 x0 x4).f3.f7) ((rd_T129 x0 x4).f3.f8) ((rd_T129 x0 x4).f3.f9) ((rd_T129 x0 x4).f4.f0) ((rd_T129 x0 x4).f4.f1) ((rd_T129 x0 x4).f4.f2.f0) ((rd_T129 x0 x4).f4.f2.f1) ((rd_T129 x0 x4).f4.f2.f2) ((rd_T129 x0 x4).f4.f2.f3) ((rd_T129 x0 x4).f4.f2.f4) ((rd_T129 x0 x4).f4.f2.f5) ((rd_T129 x0 x4).f4.f2.f6) ((rd_T129 x0 x4).f4.f2.f7) ((rd_T129 x0 x4).f4.f2.f8) ((rd_T129 x0 x4).f4.f2.f9) ((rd_T129 x0 x4).f5)).bind fun bt330=>(if x4<(x3.length:Int) then (laws_toSynSeekerS.l0 k x0 (x3.set (x4:Int).toNat (⟨bt330.1,bt330.2.1,bt330.2.2.1,(⟨bt330.2.2.2.1,bt330.2.2.2.2.1,bt330.2.2.2.2.2.1,bt330.2.2.2.2.2.2.1,bt330.2.2.2.2.2.2.2.1,bt330.2.2.2.2.2.2.2.2.1,bt330.2.2.2.2.2.2.2.2.2.1,bt330.2.2.2.2.2.2.2.2.2.2.1,bt330.2.2.2.2.2.2.2.2.2.2.2.1,bt330.2.2.2.2.2.2.2.2.2.2.2.2.1⟩:S44),(⟨bt330.2.2.2.2.2.2.2.2.2.2.2.2.2.1,bt330.2.2.2.2.2.2.2.2.2.2.2.2.2.2.1,(⟨bt330.2.2.2.2.2.2.2.2.2.2.2.2.2.2.2.1,bt330.2.2.2.2.2.2.2.2.2.2.2.2.2.2.2.2.1,bt330.2.2.2.2.2.2.2.2.2.2.2.2.2.2.2.2.2.1,bt330.2.2.2.2.2.2.2.2.2.2.2.2.2.2.2.2.2.2.1,bt330.2.2.2.2.2.2.2.2.2.2.2.2.2.2.2.2.2.2.2.1,bt330.2.2.2.2.2.2.2.2.2.2.2.2.2.2.2.2.2.2.2.2.1,bt330.2.2.2.2.2.2.2.2.2.2.2.2.2.2.2.2.2.2.2.2.2.1,bt330.2.2.2.2.2.2.2.2.2.2.2.2.2.2.2.2.2.2.2.2.2.2.1,bt330.2.2.2.2.2.2.2.2.2.2.2.2.2.2.2.2.2.2.2.2.2.2.2.1,bt330.2.2.2.2.2.2.2.2.2.2.2.2.2.2.2.2.2.2.2.2.2.2.2.2.1⟩:S44)⟩:S53),bt330.2.2.2.2.2.2.2.2.2.2.2.2.2.2.2.2.2.2.2.2.2.2.2.2.2⟩:S88)) (wrap64 (x4+1))) else (none))) else (none)) else (some x3)
def laws_toSynSeekerS.f (k : Nat) (l0 : List (S129)) : Option ((List (S88))) := if 0 ≤ (l0.length : Int) then (if ((l0.length : Int) : Int).toNat ≤ 1256584717458 then (laws_toSynSeekerS.l0 k l0 (List.replicate ((l0.length : Int) : Int).toNat z88) 0) else (none)) else (none)
theorem laws_toSynSeekerS.mono_l : ∀ k, (∀ y0 y1 y2, LeO (laws_toSynSeekerS.l0 k y0 y1 y2) (laws_toSynSeekerS.l0 (k + 1) y0 y1 y2))
 | 0=>fun _ _ _ r h=>by simp [laws_toSynSeekerS.l0] at h
 | k+1=>by
  have ih0:=laws_toSynSeekerS.mono_l k
  ·intros
   unfold laws_toSynSeekerS.l0
   repeat' first
   | (with_reducible first|apply ih0|apply laws_toSynSeeker.mono|exact LeO.refl _|exact LeO.none _|refine LeO.ite ?_ ?_|refine LeO.bind ?_ (fun _=>?_))|exact LeO.none _|refine LeO.ite ?_ ?_|refine LeO.bind ?_ (fun _=>?_)
theorem laws_toSynSeekerS.mono : ∀ a0 k, LeO (laws_toSynSeekerS.f k a0) (laws_toSynSeekerS.f (k + 1) a0) := by
 intro a0 k;have ih0:=laws_toSynSeekerS.mono_l k
 unfold laws_toSynSeekerS.f
 repeat' first
   | (with_reducible first|apply ih0|apply laws_toSynSeeker.mono|exact LeO.refl _|exact LeO.none _|refine LeO.ite ?_ ?_|refine LeO.bind ?_ (fun _=>?_))|exact LeO.none _|refine LeO.ite ?_ ?_|refine LeO.bind ?_ (fun _=>?_)
set_option maxHeartbeats 8000000 in
set_option maxRecDepth 100000 in
theorem laws_toSynSeekerS.calls {k : Nat} {A0 : Option Addr} {c0 : Nat} {l0 : List (S129)} {r : List (S88)} {w : World} (hr0 : Kd.C k129 w A0 l0.length l0) (hc0 : l0.length ≤ c0) (h : laws_toSynSeekerS.f k l0 = some r) :
  Calls Try.prog 61 #[.slice A0 l0.length c0] w fun e w'=>∃ v0_:Value,e=.returned (v0_)∧Kd.S k88 88 w' w.heap.size (fun _=>True) v0_ r∧Below w.heap.size w w':=by
 have hu129:=Try.underlying129;have hu88:=Try.underlying88;have HR0:=mA hr0;have HC0:=mA hc0;clear hr0 hc0;have HB:=mA (Below.refl w.heap.size w);have H:(if 0≤(l0.length:Int) then (if ((l0.length:Int):Int).toNat≤1256584717458 then (laws_toSynSeekerS.l0 k l0 (List.replicate ((l0.length:Int):Int).toNat z88) 0) else (none)) else (none))=some r:=h;clear h
 by_cases c2:0≤(l0.length:Int)
 ·rw [if_pos c2] at H;have c2b0:=eq_true c2;have c2b1:decide (0≤(l0.length:Int))=true:=decide_eq_true c2;clear c2
  by_cases c3:((l0.length:Int):Int).toNat≤1256584717458
  ·rw [if_pos c3] at H;have c3b0:=eq_true c3;have c3b1:decide (((l0.length:Int):Int).toNat≤1256584717458)=true:=decide_eq_true c3;clear c3;obtain ⟨y326,hy326⟩:∃ y_:List (S88),y_=(List.replicate ((l0.length:Int):Int).toNat z88):=⟨_,rfl⟩
   replace H:(laws_toSynSeekerS.l0 k l0 y326 0)=some r:=qH hy326 H
   have Ny326:=mA hy326;clear hy326;have H':=mA H;clear H
   go_enter Try.func61,Try.ntmps61
   go_wp2_with (first|((with_reducible refine gLg rfl (by assumption) ?_);first|refine ldW ?_|refine ldX ?_)|((with_reducible refine gT 7 rfl ?_);refine Kd.S_make k88 _ 88 rfl (N:=7) rfl 24 _ _ rfl (l0.length:Int) rfl rfl Try.underlying24 (.agg #[(.int .i64 0),(.int .i64 0),(.int .i64 0),(.int .i64 0),(.int .i64 0),(.int .i64 0),(.int .i64 0),(.int .i64 0),(.int .i64 0),(.int .i64 0),(.int .i64 0),(.int .i64 0),(.int .i64 0),(.int .i64 0),(.int .i64 0),(.int .i64 0),(.int .i64 0),(.int .i64 0),(.int .i64 0),(.int .i64 0),(.int .i64 0),(.int .i64 0),(.int .i64 0),(.int .i64 0),(.int .i64 0),(.slice none 0 0)]) 224 info88 rfl aD (by omega) z88 (ok:=fun _=>True) (okp:=fun _=>True) (k88_mkM _ _ _ z88 (Kd.R_nil _ _ _ _ _)) (fun _ hk=>hk) trivial (of_decide_eq_true bA) (Nat.le_trans (Nat.mul_le_mul_right _ (of_decide_eq_true bA:(l0.length:Int).toNat≤1256584717458)) (by omega)) (Below.refl _ _) (Nat.le_refl _) ?_;intro v327 w4 ho5 hb hg_ hnew_;clear hg_ hnew_;(first|rw [← Ny326.out] at ho5|(simp only [Int.reduceToNat] at ho5;rw [← Ny326.out] at ho5));have HO328:=mA (Kd.S_lower ho5 (bpB HB));replace HB:=spB HB hb;clear hb ho5))
   go_loopg [4] k (fun kq v4 w'=>∃ (x3_1:List (S88)) (x4_1:Int),v4=.int .i64 x4_1∧Aside0 (laws_toSynSeekerS.l0 kq l0 x3_1 x4_1=some r)∧Aside0 (kq≤k)∧Aside0 (Kd.S k88 88 w' w.heap.size (fun _=>True) v327 x3_1)∧Aside0 (Below w.heap.size w w'))
   case atStart=>exact ⟨(y326),(0),bZ,H',⟨Nat.le_refl _⟩,⟨by (with_reducible repeat (first|apply Kd.S_alloc|apply Kd.S_drewN|apply Kd.S_drew));exact HO328.out⟩,⟨pB HB.out⟩⟩
   case round =>
    clear H'
    (try clear c2);(try clear c2b0);(try clear c2b1);(try clear c3);(try clear c3b0);(try clear c3b1)
    obtain ⟨x3_1,x4_1,rfl,HA,HK1,HO_3,HB⟩:=hrel
    cases gk with
    | zero=>exact absurd HA.out (by simp [laws_toSynSeekerS.l0])
    | succ k1 =>
     have H:=HA.out;clear HA;simp only [laws_toSynSeekerS.l0] at H
     by_cases c6:x4_1<(l0.length:Int)
     ·rw [if_pos c6] at H;have c6b0:decide (x4_1<(l0.length:Int))=true:=decide_eq_true c6;clear c6
      by_cases c7:0≤x4_1
      ·rw [if_pos c7] at H;have c7b0:decide (0≤x4_1)=true:=decide_eq_true c7;clear c7;obtain ⟨⟨t330,t331,t332,t333,t334,t335,t336,t337,t338,t339,t340,t341,t342,t343,t344,t345,t346,t347,t348,t349,t350,t351,t352,t353,t354,t355⟩,A8,H⟩:=bI H;(try dsimp only at H)
       by_cases c9:x4_1<(x3_1.length:Int)
       ·rw [if_pos c9] at H;have c9b0:decide (x4_1<(x3_1.length:Int))=true:=decide_eq_true c9;clear c9;obtain ⟨y358,hy358⟩:∃ y_:List (S88),y_=(x3_1.set (x4_1:Int).toNat (⟨t330,t331,t332,(⟨t333,t334,t335,t336,t337,t338,t339,t340,t341,t342⟩:S44),(⟨t343,t344,(⟨t345,t346,t347,t348,t349,t350,t351,t352,t353,t354⟩:S44)⟩:S53),t355⟩:S88)):=⟨_,rfl⟩
        replace H:(laws_toSynSeekerS.l0 k1 l0 y358 (wrap64 (x4_1+1)))=some r:=qH hy358 H
        have Ny358:=mA hy358;clear hy358;have H':=mA H;clear H;have p329:0≤(x4_1:Int):=of_decide_eq_true bA;have q329:x4_1<(l0.length:Int):=of_decide_eq_true bA;obtain ⟨ad329,A329_25,c329_25,e329,hs329,hl329_25,hi329_25⟩:=at_R129 HR0.out x4_1 p329 q329;have hx329_0:=RS.hd hs329 rfl;cases e329;replace hx329_0:=hC HB hx329_0;replace hs329:=rS HB hs329;have HR329_25:=mA hi329_25;have HC329_25:=mA hl329_25;clear hi329_25 hl329_25;replace p329:=eq_true p329;replace q329:=eq_true q329
        go_wp2_with (first|((with_reducible refine gLg rfl (by assumption) ?_);first|refine ldW ?_|refine ldX ?_)|((with_reducible refine gT 20 rfl ?_);refine gC (some 20) Try.func103 (laws_toSynSeeker.calls (cB HR329_25 HB) HC329_25.out A8.out) ?_;rintro e w11 ⟨v356,rfl,ho0,hb⟩;refine ⟨_,rfl,?_⟩;replace HO_3:=mA (Kd.S_elder' (pYs HO_3) (Kd.R_base ho0) hb);have HO357:=mA (Kd.R_lower ho0 (bpB HB));replace HB:=spB HB hb;(try clear hb);(try clear ho0);have p10:0≤(x4_1:Int):=of_decide_eq_true bA;have q10:(x4_1:Int)<((x3_1.length:Int):Int):=of_decide_eq_true bA;obtain ⟨go10,co10,eo10,gb10,gl10,cl10,HG10⟩:=Kd.S_form HO_3.out (by omega);(first|cases eo10|(injection eo10 with ea_ en_ ec_;(first|subst ea_|(injection ea_ with ea_;subst ea_));subst ec_;clear en_));have GB10:=mA gb10;have GG10:=mA HG10;clear gb10 gl10 HG10;replace p10:=eq_true p10;replace q10:=eq_true q10;have n_:=mA (Kd.S_mono (ok':=(fun k_=>some k_≠(v356:Value).ownBlock)) HO_3.out (fun k_ hk=>hk.2));clear HO_3;have HO_3:=n_;clear n_;have HX12:=mA (show Kd.S k88 88 w11 w.heap.size (fun k_=>((fun _=>True)) k_∧¬ ((fun k_=>some k_=(v356:Value).ownBlock)) k_) (.slice (some ⟨go10,0,none⟩) x3_1.length co10) x3_1 from (by (with_reducible repeat (first|apply Kd.S_alloc|apply Kd.S_drewN|apply Kd.S_drew));exact Kd.S_mono HO_3.out (fun k_ hk=>⟨trivial,fun e_=>hk e_⟩)));obtain ⟨oki12,ce12,hcl12,hM12,hcc12,hfr12,hoki12,hH12⟩:=Kd.S_elem HX12.out z88 (x4_1:Int) (of_decide_eq_true bA) (by have h_:(x4_1:Int)<((x3_1.length:Int):Int):=of_decide_eq_true bA;first|exact h_|(have e_:=(Kd.S_reads' HO_3.out).1;omega)|simpa using h_);obtain ⟨ve12_25,rfl,ge12_25⟩:=k88_openM hM12;have HP12:=Kd.S_seg hH12 (of_decide_eq_true bA) (by have h_:(x4_1:Int)<((x3_1.length:Int):Int):=of_decide_eq_true bA;first|exact h_|(have e_:=(Kd.S_reads' HO_3.out).1;omega)|simpa using h_) (seg:=[.int .i64 t330,.int .i64 t331,.int .i64 t332,.int .i64 t333,.int .i64 t334,.int .i64 t335,.int .i64 t336,.int .i64 t337,.int .i64 t338,.int .i64 t339,.int .i64 t340,.int .i64 t341,.int .i64 t342,.int .i64 t343,.int .i64 t344,.int .i64 t345,.int .i64 t346,.int .i64 t347,.int .i64 t348,.int .i64 t349,.int .i64 t350,.int .i64 t351,.int .i64 t352,.int .i64 t353,.int .i64 t354,v356]) (j:=0) (show 26≤26 from by decide) (x':=(⟨t330,t331,t332,(⟨t333,t334,t335,t336,t337,t338,t339,t340,t341,t342⟩:S44),(⟨t343,t344,(⟨t345,t346,t347,t348,t349,t350,t351,t352,t353,t354⟩:S44)⟩:S53),t355⟩:S88)) (k88_mkM _ _ _ (⟨t330,t331,t332,(⟨t333,t334,t335,t336,t337,t338,t339,t340,t341,t342⟩:S44),(⟨t343,t344,(⟨t345,t346,t347,t348,t349,t350,t351,t352,t353,t354⟩:S44)⟩:S53),t355⟩:S88) (Kd.R_mono (Kd.R_tight rfl (Kd.R_mono (ok':=fun k_=>((fun _=>True)) k_∧k_≠go10) (Kd.R_apart' (HO357.out) (Kd.S_typed HO_3.out) aD) (fun k_ hk=>⟨trivial,fun e_=>(hk.2) (by rw [e_];rfl)⟩))) (fun _ h_=>Or.inr (h_)))) (fun _ hk=>hk) (fun k_ hk_=>((Kd.R_mono (ok':=fun k_=>((fun _=>True)) k_∧k_≠go10) (Kd.R_apart' (HO357.out) (Kd.S_typed HO_3.out) aD) (fun k_ hk=>⟨trivial,fun e_=>(hk.2) (by rw [e_];rfl)⟩))).1 k_ hk_.symm);have HCC12:=mA hcc12;clear hcl12 hcc12 hfr12 hM12 hoki12 hH12)|((with_reducible refine gate_store (t:=88) (p:=21) rfl ?_);refine stR (p:=21) GG10 HCC12.out ?_ (h1:=by obtain ⟨_,_,eo_0⟩:=Kd.R_slice HO357.out;rw [eo_0];rfl);intro w13 hw;have hg:w11.grownBy w13 (some go10):=(by rw [hw];exact HP12.2);have hp_:Kd.S k88 88 w13 w.heap.size (fun _=>True) (.slice (some ⟨go10,0,none⟩) x3_1.length co10) y358:=(by rw [hw,Ny358.out];exact HP12.1);clear HP12;replace HO_3:=mA hp_;replace HB:=mA (by rw [hw];exact below_sets GB10.out _ _ (HB.out):Below w.heap.size w w13);clear HO357;clear hg hw hp_))
        go_roundg k1
        case measure=>have:=HK1.out;omega
        case rel=>exact ⟨(y358),(wrap64 (x4_1+1)),bZ,H',⟨by have:=HK1.out;omega⟩,⟨by (with_reducible repeat (first|apply Kd.S_alloc|apply Kd.S_drewN|apply Kd.S_drew));exact HO_3.out⟩,⟨pB HB.out⟩⟩
       ·rw [if_neg c9] at H
        exact absurd H (by simp)
      ·rw [if_neg c7] at H
       exact absurd H (by simp)
     ·rw [if_neg c6] at H;have c6b0:decide (x4_1<(l0.length:Int))=false:=decide_eq_false c6;clear c6;obtain rfl:=Option.some.inj H
      go_wp2_with (first|((with_reducible refine gLg rfl (by assumption) ?_);first|refine ldW ?_|refine ldX ?_))
      go_ret
      exact ⟨_,by first|rfl|(simp [errW_none,errW_some]<;>rfl)|(simp [*,errW_none,errW_some]<;>rfl),by (with_reducible repeat (first|apply Kd.S_alloc|apply Kd.S_drewN|apply Kd.S_drew));exact HO_3.out,pB HB.out⟩
  ·rw [if_neg c3] at H
   exact absurd H (by simp)
 ·rw [if_neg c2] at H
  exact absurd H (by simp)

/-! ### laws_toBlkPiece: function 158 -/
def laws_toBlkPiece.f (a0_0 a0_1 a0_2 a0_3 : Int) : Option (Int × Int × Int × Int) := some (a0_0, a0_1, a0_2, a0_3)
set_option maxHeartbeats 8000000 in
set_option maxRecDepth 100000 in
theorem laws_toBlkPiece.calls {a0_0 a0_1 a0_2 a0_3 r1 r2 r3 r4 : Int} {w : World} (h : laws_toBlkPiece.f a0_0 a0_1 a0_2 a0_3 = some (r1, r2, r3, r4)) :
  Calls Try.prog 158 #[.agg #[.int .i64 a0_0,.int .i64 a0_1,.int .i64 a0_2,.int .i64 a0_3]] w fun e w'=>e=.returned (.agg #[.int .i64 r1,.int .i64 r2,.int .i64 r3,.int .i64 r4])∧Below w.heap.size w w':=by
 have hu182:=Try.underlying182;have hu164:=Try.underlying164;have HB:=mA (Below.refl w.heap.size w);have H:(some (a0_0,a0_1,a0_2,a0_3))=some (r1,r2,r3,r4):=h;clear h;simp only [Option.some.injEq,Prod.mk.injEq] at H;obtain ⟨rfl,rfl,rfl,rfl⟩:=H
 go_enter Try.func158,Try.ntmps158
 go_wp2_with (first|((with_reducible refine gT 1 rfl ?_);refine bX 1 ?_;intro gb359 hg w2 hbox hb;have BK359:=mA hbox;have GW359:=gbpB HB hg;have GE359:=gbpB HB hg;replace HB:=spB HB hb;clear hb hbox hg)|((with_reducible refine gT 2 rfl ?_);refine bJ 2 y164 ?_;intro gb360 hg w3 hbox hb;have BK360:=mA hbox;have GW360:=gbpS HB hg;have GE360:=gbpS HB hg;replace HB:=spS HB hb;have NB359_360:=mA (lN (blk_lt (pK BK359.out)) hg);have hN359_360:=NB359_360.out;have NB360_359:=nS NB359_360;have hN360_359:=NB360_359.out;replace BK359:=bK BK359 hb;clear hb hbox hg)|((with_reducible refine gT 3 rfl ?_);refine bJ 3 y164 ?_;intro gb361 hg w4 hbox hb;have BK361:=mA hbox;have GW361:=gbpS HB hg;have GE361:=gbpS HB hg;replace HB:=spS HB hb;have NB359_361:=mA (lN (blk_lt (pK BK359.out)) hg);have hN359_361:=NB359_361.out;have NB361_359:=nS NB359_361;have hN361_359:=NB361_359.out;replace BK359:=bK BK359 hb;have NB360_361:=mA (lN (blk_lt (pK BK360.out)) hg);have hN360_361:=NB360_361.out;have NB361_360:=nS NB360_361;have hN361_360:=NB361_360.out;replace BK360:=bK BK360 hb;clear hb hbox hg;obtain ⟨hcz7_0,hcz7_1,hcz7_2,hcz7_3,hfz7_0,hfz7_1,hfz7_2,hfz7_3⟩:=box4 BK359.out;obtain ⟨hcz9_0,hcz9_1,hcz9_2,hcz9_3,hfz9_0,hfz9_1,hfz9_2,hfz9_3⟩:=box4 BK361.out;obtain ⟨hcz10_0,hcz10_1,hcz10_2,hcz10_3,hfz10_0,hfz10_1,hfz10_2,hfz10_3⟩:=box4 BK360.out))
 refine bodyPost_ret (results_cell_row rfl _ _ gb360 164 #[.int .i64 a0_0,.int .i64 a0_1,.int .i64 a0_2,.int .i64 a0_3] (0,0) _ rfl (pP BK360) Try.underlying164 rfl aK) rfl ?_
 exact rZ (pS HB.out)

/-! ### laws_toBlkPieceS: function 138 -/
def laws_toBlkPieceS.l0 : Nat → List (S182) → List (S164) → Int → Option ((List (S164)))
 | 0,_,_,_=>none
 | k+1,x0,x3,x4=>if x4<(x0.length:Int) then (if 0≤x4 then ((laws_toBlkPiece.f ((rd_T182 x0 x4).f0) ((rd_T182 x0 x4).f1) ((rd_T182 x0 x4).f2) ((rd_T182 x0 x4).f3)).bind fun bt366=>(if x4<(x3.length:Int) then (laws_toBlkPieceS.l0 k x0 (x3.set (x4:Int).toNat (⟨bt366.1,bt366.2.1,bt366.2.2.1,bt366.2.2.2⟩:S164)) (wrap64 (x4+1))) else (none))) else (none)) else (some x3)
def laws_toBlkPieceS.f (k : Nat) (l0 : List (S182)) : Option ((List (S164))) := if 0 ≤ (l0.length : Int) then (if ((l0.length : Int) : Int).toNat ≤ 8796093022208 then (laws_toBlkPieceS.l0 k l0 (List.replicate ((l0.length : Int) : Int).toNat z164) 0) else (none)) else (none)
theorem laws_toBlkPieceS.mono_l : ∀ k, (∀ y0 y1 y2, LeO (laws_toBlkPieceS.l0 k y0 y1 y2) (laws_toBlkPieceS.l0 (k + 1) y0 y1 y2))
 | 0=>fun _ _ _ r h=>by simp [laws_toBlkPieceS.l0] at h
 | k+1=>by
  have ih0:=laws_toBlkPieceS.mono_l k
  ·intros
   unfold laws_toBlkPieceS.l0
   repeat' first
   | (with_reducible first|apply ih0|exact LeO.refl _|exact LeO.none _|refine LeO.ite ?_ ?_|refine LeO.bind ?_ (fun _=>?_))|exact LeO.none _|refine LeO.ite ?_ ?_|refine LeO.bind ?_ (fun _=>?_)
theorem laws_toBlkPieceS.mono : ∀ a0 k, LeO (laws_toBlkPieceS.f k a0) (laws_toBlkPieceS.f (k + 1) a0) := by
 intro a0 k;have ih0:=laws_toBlkPieceS.mono_l k
 unfold laws_toBlkPieceS.f
 repeat' first
   | (with_reducible first|apply ih0|exact LeO.refl _|exact LeO.none _|refine LeO.ite ?_ ?_|refine LeO.bind ?_ (fun _=>?_))|exact LeO.none _|refine LeO.ite ?_ ?_|refine LeO.bind ?_ (fun _=>?_)
set_option maxHeartbeats 8000000 in
set_option maxRecDepth 100000 in
theorem laws_toBlkPieceS.calls {k : Nat} {A0 : Option Addr} {c0 : Nat} {l0 : List (S182)} {r : List (S164)} {w : World} (hr0 : Kd.C k182 w A0 l0.length l0) (hc0 : l0.length ≤ c0) (h : laws_toBlkPieceS.f k l0 = some r) :
  Calls Try.prog 138 #[.slice A0 l0.length c0] w fun e w'=>∃ v0_:Value,e=.returned (v0_)∧Kd.R k164 164 w' w.heap.size (fun _=>True) v0_ r∧Below w.heap.size w w':=by
 have hu182:=Try.underlying182;have hu164:=Try.underlying164;have HR0:=mA hr0;have HC0:=mA hc0;clear hr0 hc0;have HB:=mA (Below.refl w.heap.size w);have H:(if 0≤(l0.length:Int) then (if ((l0.length:Int):Int).toNat≤8796093022208 then (laws_toBlkPieceS.l0 k l0 (List.replicate ((l0.length:Int):Int).toNat z164) 0) else (none)) else (none))=some r:=h;clear h
 by_cases c2:0≤(l0.length:Int)
 ·rw [if_pos c2] at H;have c2b0:=eq_true c2;have c2b1:decide (0≤(l0.length:Int))=true:=decide_eq_true c2;clear c2
  by_cases c3:((l0.length:Int):Int).toNat≤8796093022208
  ·rw [if_pos c3] at H;have c3b0:=eq_true c3;have c3b1:decide (((l0.length:Int):Int).toNat≤8796093022208)=true:=decide_eq_true c3;clear c3;obtain ⟨y362,hy362⟩:∃ y_:List (S164),y_=(List.replicate ((l0.length:Int):Int).toNat z164):=⟨_,rfl⟩
   replace H:(laws_toBlkPieceS.l0 k l0 y362 0)=some r:=qH hy362 H
   have Ny362:=mA hy362;clear hy362;have H':=mA H;clear H
   go_enter Try.func138,Try.ntmps138
   go_wp2_with (first|((with_reducible refine gT 7 rfl ?_);refine Kd.R_make k164 _ 164 rfl (N:=7) rfl 90 _ _ rfl (l0.length:Int) rfl rfl Try.underlying90 (.agg #[(.int .i64 0),(.int .i64 0),(.int .i64 0),(.int .i64 0)]) 32 info164 rfl aD (by omega) z164 (ok:=fun _=>True) (okp:=fun _=>True) (k164_mkM _ _ _ z164 ) (fun _ hk=>hk) trivial (of_decide_eq_true bA) (Nat.le_trans (Nat.mul_le_mul_right _ (of_decide_eq_true bA:(l0.length:Int).toNat≤8796093022208)) (by omega)) (Below.refl _ _) (Nat.le_refl _) ?_;intro v363 w4 ho5 hb hg_ hnew_;clear hg_ hnew_;(first|rw [← Ny362.out] at ho5|(simp only [Int.reduceToNat] at ho5;rw [← Ny362.out] at ho5));have HO364:=mA (Kd.R_lower ho5 (bpB HB));replace HB:=spB HB hb;clear hb ho5))
   go_loopg [4] k (fun kq v4 w'=>∃ (x3_1:List (S164)) (x4_1:Int),v4=.int .i64 x4_1∧Aside0 (laws_toBlkPieceS.l0 kq l0 x3_1 x4_1=some r)∧Aside0 (kq≤k)∧Aside0 (Kd.R k164 164 w' w.heap.size (fun _=>True) v363 x3_1)∧Aside0 (Below w.heap.size w w'))
   case atStart=>exact ⟨(y362),(0),bZ,H',⟨Nat.le_refl _⟩,⟨pR HO364.out⟩,⟨pB HB.out⟩⟩
   case round =>
    clear H'
    (try clear c2);(try clear c2b0);(try clear c2b1);(try clear c3);(try clear c3b0);(try clear c3b1)
    obtain ⟨x3_1,x4_1,rfl,HA,HK1,HO_3,HB⟩:=hrel
    cases gk with
    | zero=>exact absurd HA.out (by simp [laws_toBlkPieceS.l0])
    | succ k1 =>
     have H:=HA.out;clear HA;simp only [laws_toBlkPieceS.l0] at H
     by_cases c6:x4_1<(l0.length:Int)
     ·rw [if_pos c6] at H;have c6b0:decide (x4_1<(l0.length:Int))=true:=decide_eq_true c6;clear c6
      by_cases c7:0≤x4_1
      ·rw [if_pos c7] at H;have c7b0:decide (0≤x4_1)=true:=decide_eq_true c7;clear c7;obtain ⟨⟨t366,t367,t368,t369⟩,A8,H⟩:=bI H;(try dsimp only at H)
       by_cases c9:x4_1<(x3_1.length:Int)
       ·rw [if_pos c9] at H;have c9b0:decide (x4_1<(x3_1.length:Int))=true:=decide_eq_true c9;clear c9;obtain ⟨y370,hy370⟩:∃ y_:List (S164),y_=(x3_1.set (x4_1:Int).toNat (⟨t366,t367,t368,t369⟩:S164)):=⟨_,rfl⟩
        replace H:(laws_toBlkPieceS.l0 k1 l0 y370 (wrap64 (x4_1+1)))=some r:=qH hy370 H
        have Ny370:=mA hy370;clear hy370;have H':=mA H;clear H;have p365:0≤(x4_1:Int):=of_decide_eq_true bA;have q365:x4_1<(l0.length:Int):=of_decide_eq_true bA;obtain ⟨ad365,e365,hx365_0,hx365_1,hx365_2,hx365_3⟩:=at_T182 HR0.out x4_1 p365 q365;cases e365;replace hx365_0:=hC HB hx365_0;replace hx365_1:=hC HB hx365_1;replace hx365_2:=hC HB hx365_2;replace hx365_3:=hC HB hx365_3;replace p365:=eq_true p365;replace q365:=eq_true q365
        go_wp2_with (first|((with_reducible refine gT 20 rfl ?_);refine gC (some 20) Try.func158 (laws_toBlkPiece.calls A8.out) ?_;rintro e w11 ⟨rfl,hb⟩;refine ⟨_,rfl,?_⟩;replace HO_3:=rB HO_3 hb;replace HB:=spB HB hb;(try clear hb);have p10:0≤(x4_1:Int):=of_decide_eq_true bA;have q10:(x4_1:Int)<((x3_1.length:Int):Int):=of_decide_eq_true bA;obtain ⟨go10,co10,eo10,gb10,gl10,cl10,HG10⟩:=Kd.R_form HO_3.out (by omega);(first|cases eo10|(injection eo10 with ea_ en_ ec_;(first|subst ea_|(injection ea_ with ea_;subst ea_));subst ec_;clear en_));have GB10:=mA gb10;have GG10:=mA HG10;clear gb10 gl10 HG10;replace p10:=eq_true p10;replace q10:=eq_true q10;have HX12:=mA (show Kd.R k164 164 w11 w.heap.size (fun _=>True) (.slice (some ⟨go10,0,none⟩) x3_1.length co10) x3_1 from (pR HO_3.out));obtain ⟨ce12,hcl12,hM12,hcc12,hfr12⟩:=Kd.R_elem HX12.out z164 (x4_1:Int) (of_decide_eq_true bA) (by have h_:(x4_1:Int)<((x3_1.length:Int):Int):=of_decide_eq_true bA;first|exact h_|(have e_:=(Kd.R_reads' HO_3.out).1;omega)|simpa using h_);obtain rfl:=k164_openM hM12;have HP12:=Kd.R_seg HX12.out (x4_1:Int) (of_decide_eq_true bA) (by have h_:(x4_1:Int)<((x3_1.length:Int):Int):=of_decide_eq_true bA;first|exact h_|(have e_:=(Kd.R_reads' HO_3.out).1;omega)|simpa using h_) (seg:=[.int .i64 t366,.int .i64 t367,.int .i64 t368,.int .i64 t369]) (j:=0) hcl12 hcc12 (show 4≤4 from by decide) (x':=(⟨t366,t367,t368,t369⟩:S164)) (k164_mkM _ _ _ (⟨t366,t367,t368,t369⟩:S164) ) (fun _ hk=>hk);have HCC12:=mA hcc12;clear hcl12 hcc12 hfr12 hM12)|((with_reducible refine gate_store (t:=164) (p:=21) rfl ?_);refine stR (p:=21) GG10 HCC12.out ?_;intro w13 hw;have hg:w11.grownBy w13 (some go10):=(by rw [hw];exact HP12.2);have hp_:Kd.R k164 164 w13 w.heap.size (fun _=>True) (.slice (some ⟨go10,0,none⟩) x3_1.length co10) y370:=(by rw [hw,Ny370.out];exact HP12.1);clear HP12;replace HO_3:=mA hp_;replace HB:=mA (by rw [hw];exact below_sets GB10.out _ _ (HB.out):Below w.heap.size w w13);clear hg hw hp_))
        go_roundg k1
        case measure=>have:=HK1.out;omega
        case rel=>exact ⟨(y370),(wrap64 (x4_1+1)),bZ,H',⟨by have:=HK1.out;omega⟩,⟨pR HO_3.out⟩,⟨pB HB.out⟩⟩
       ·rw [if_neg c9] at H
        exact absurd H (by simp)
      ·rw [if_neg c7] at H
       exact absurd H (by simp)
     ·rw [if_neg c6] at H;have c6b0:decide (x4_1<(l0.length:Int))=false:=decide_eq_false c6;clear c6;obtain rfl:=Option.some.inj H
      go_wp2
      go_ret
      exact ⟨_,by first|rfl|(simp [errW_none,errW_some]<;>rfl)|(simp [*,errW_none,errW_some]<;>rfl),pR HO_3.out,pB HB.out⟩
  ·rw [if_neg c3] at H
   exact absurd H (by simp)
 ·rw [if_neg c2] at H
  exact absurd H (by simp)

/-! ### laws_toBlkLast: function 159 -/
def laws_toBlkLast.f (a0_0 a0_1 : Int) : Option (Int × Int) := some (a0_0, a0_1)
set_option maxHeartbeats 8000000 in
set_option maxRecDepth 100000 in
theorem laws_toBlkLast.calls {a0_0 a0_1 r1 r2 : Int} {w : World} (h : laws_toBlkLast.f a0_0 a0_1 = some (r1, r2)) :
  Calls Try.prog 159 #[.agg #[.int .i64 a0_0,.int .i64 a0_1]] w fun e w'=>e=.returned (.agg #[.int .i64 r1,.int .i64 r2])∧Below w.heap.size w w':=by
 have hu184:=Try.underlying184;have hu166:=Try.underlying166;have HB:=mA (Below.refl w.heap.size w);have H:(some (a0_0,a0_1))=some (r1,r2):=h;clear h;simp only [Option.some.injEq,Prod.mk.injEq] at H;obtain ⟨rfl,rfl⟩:=H
 go_enter Try.func159,Try.ntmps159
 go_wp2_with (first|((with_reducible refine gT 1 rfl ?_);refine bE 1 #[.int .i64 a0_0,.int .i64 a0_1] 184 ?_;intro gb371 hg w2 hbox hb;have BK371:=mA hbox;have GW371:=gbpB HB hg;have GE371:=gbpB HB hg;replace HB:=spB HB hb;clear hb hbox hg)|((with_reducible refine gT 2 rfl ?_);refine bE 2 #[.int .i64 0,.int .i64 0] 166 ?_;intro gb372 hg w3 hbox hb;have BK372:=mA hbox;have GW372:=gbpS HB hg;have GE372:=gbpS HB hg;replace HB:=spS HB hb;have NB371_372:=mA (lN (blk_lt (pK BK371.out)) hg);have hN371_372:=NB371_372.out;have NB372_371:=nS NB371_372;have hN372_371:=NB372_371.out;replace BK371:=bK BK371 hb;clear hb hbox hg)|((with_reducible refine gT 3 rfl ?_);refine bE 3 #[.int .i64 0,.int .i64 0] 166 ?_;intro gb373 hg w4 hbox hb;have BK373:=mA hbox;have GW373:=gbpS HB hg;have GE373:=gbpS HB hg;replace HB:=spS HB hb;have NB371_373:=mA (lN (blk_lt (pK BK371.out)) hg);have hN371_373:=NB371_373.out;have NB373_371:=nS NB371_373;have hN373_371:=NB373_371.out;replace BK371:=bK BK371 hb;have NB372_373:=mA (lN (blk_lt (pK BK372.out)) hg);have hN372_373:=NB372_373.out;have NB373_372:=nS NB372_373;have hN373_372:=NB373_372.out;replace BK372:=bK BK372 hb;clear hb hbox hg;obtain ⟨hcz7_0,hcz7_1,hfz7_0,hfz7_1⟩:=box2 BK371.out;obtain ⟨hcz9_0,hcz9_1,hfz9_0,hfz9_1⟩:=box2 BK373.out;obtain ⟨hcz10_0,hcz10_1,hfz10_0,hfz10_1⟩:=box2 BK372.out))
 refine bodyPost_ret (results_cell_row rfl _ _ gb372 166 #[.int .i64 a0_0,.int .i64 a0_1] (0,0) _ rfl (pP BK372) Try.underlying166 rfl aK) rfl ?_
 exact rZ (pS HB.out)

/-! ### laws_toBlkLastS: function 139 -/
def laws_toBlkLastS.l0 : Nat → List (S184) → List (S166) → Int → Option ((List (S166)))
 | 0,_,_,_=>none
 | k+1,x0,x3,x4=>if x4<(x0.length:Int) then (if 0≤x4 then ((laws_toBlkLast.f ((rd_T184 x0 x4).f0) ((rd_T184 x0 x4).f1)).bind fun bt378=>(if x4<(x3.length:Int) then (laws_toBlkLastS.l0 k x0 (x3.set (x4:Int).toNat (⟨bt378.1,bt378.2⟩:S166)) (wrap64 (x4+1))) else (none))) else (none)) else (some x3)
def laws_toBlkLastS.f (k : Nat) (l0 : List (S184)) : Option ((List (S166))) := if 0 ≤ (l0.length : Int) then (if ((l0.length : Int) : Int).toNat ≤ 17592186044416 then (laws_toBlkLastS.l0 k l0 (List.replicate ((l0.length : Int) : Int).toNat z166) 0) else (none)) else (none)
theorem laws_toBlkLastS.mono_l : ∀ k, (∀ y0 y1 y2, LeO (laws_toBlkLastS.l0 k y0 y1 y2) (laws_toBlkLastS.l0 (k + 1) y0 y1 y2))
 | 0=>fun _ _ _ r h=>by simp [laws_toBlkLastS.l0] at h
 | k+1=>by
  have ih0:=laws_toBlkLastS.mono_l k
  ·intros
   unfold laws_toBlkLastS.l0
   repeat' first
   | (with_reducible first|apply ih0|exact LeO.refl _|exact LeO.none _|refine LeO.ite ?_ ?_|refine LeO.bind ?_ (fun _=>?_))|exact LeO.none _|refine LeO.ite ?_ ?_|refine LeO.bind ?_ (fun _=>?_)
theorem laws_toBlkLastS.mono : ∀ a0 k, LeO (laws_toBlkLastS.f k a0) (laws_toBlkLastS.f (k + 1) a0) := by
 intro a0 k;have ih0:=laws_toBlkLastS.mono_l k
 unfold laws_toBlkLastS.f
 repeat' first
   | (with_reducible first|apply ih0|exact LeO.refl _|exact LeO.none _|refine LeO.ite ?_ ?_|refine LeO.bind ?_ (fun _=>?_))|exact LeO.none _|refine LeO.ite ?_ ?_|refine LeO.bind ?_ (fun _=>?_)
set_option maxHeartbeats 8000000 in
set_option maxRecDepth 100000 in
theorem laws_toBlkLastS.calls {k : Nat} {A0 : Option Addr} {c0 : Nat} {l0 : List (S184)} {r : List (S166)} {w : World} (hr0 : Kd.C k184 w A0 l0.length l0) (hc0 : l0.length ≤ c0) (h : laws_toBlkLastS.f k l0 = some r) :
  Calls Try.prog 139 #[.slice A0 l0.length c0] w fun e w'=>∃ v0_:Value,e=.returned (v0_)∧Kd.R k166 166 w' w.heap.size (fun _=>True) v0_ r∧Below w.heap.size w w':=by
 have hu184:=Try.underlying184;have hu166:=Try.underlying166;have HR0:=mA hr0;have HC0:=mA hc0;clear hr0 hc0;have HB:=mA (Below.refl w.heap.size w);have H:(if 0≤(l0.length:Int) then (if ((l0.length:Int):Int).toNat≤17592186044416 then (laws_toBlkLastS.l0 k l0 (List.replicate ((l0.length:Int):Int).toNat z166) 0) else (none)) else (none))=some r:=h;clear h
 by_cases c2:0≤(l0.length:Int)
 ·rw [if_pos c2] at H;have c2b0:=eq_true c2;have c2b1:decide (0≤(l0.length:Int))=true:=decide_eq_true c2;clear c2
  by_cases c3:((l0.length:Int):Int).toNat≤17592186044416
  ·rw [if_pos c3] at H;have c3b0:=eq_true c3;have c3b1:decide (((l0.length:Int):Int).toNat≤17592186044416)=true:=decide_eq_true c3;clear c3;obtain ⟨y374,hy374⟩:∃ y_:List (S166),y_=(List.replicate ((l0.length:Int):Int).toNat z166):=⟨_,rfl⟩
   replace H:(laws_toBlkLastS.l0 k l0 y374 0)=some r:=qH hy374 H
   have Ny374:=mA hy374;clear hy374;have H':=mA H;clear H
   go_enter Try.func139,Try.ntmps139
   go_wp2_with (first|((with_reducible refine gT 7 rfl ?_);refine Kd.R_make k166 _ 166 rfl (N:=7) rfl 91 _ _ rfl (l0.length:Int) rfl rfl Try.underlying91 (.agg #[(.int .i64 0),(.int .i64 0)]) 16 info166 rfl aD (by omega) z166 (ok:=fun _=>True) (okp:=fun _=>True) (k166_mkM _ _ _ z166 ) (fun _ hk=>hk) trivial (of_decide_eq_true bA) (Nat.le_trans (Nat.mul_le_mul_right _ (of_decide_eq_true bA:(l0.length:Int).toNat≤17592186044416)) (by omega)) (Below.refl _ _) (Nat.le_refl _) ?_;intro v375 w4 ho5 hb hg_ hnew_;clear hg_ hnew_;(first|rw [← Ny374.out] at ho5|(simp only [Int.reduceToNat] at ho5;rw [← Ny374.out] at ho5));have HO376:=mA (Kd.R_lower ho5 (bpB HB));replace HB:=spB HB hb;clear hb ho5))
   go_loopg [4] k (fun kq v4 w'=>∃ (x3_1:List (S166)) (x4_1:Int),v4=.int .i64 x4_1∧Aside0 (laws_toBlkLastS.l0 kq l0 x3_1 x4_1=some r)∧Aside0 (kq≤k)∧Aside0 (Kd.R k166 166 w' w.heap.size (fun _=>True) v375 x3_1)∧Aside0 (Below w.heap.size w w'))
   case atStart=>exact ⟨(y374),(0),bZ,H',⟨Nat.le_refl _⟩,⟨pR HO376.out⟩,⟨pB HB.out⟩⟩
   case round =>
    clear H'
    (try clear c2);(try clear c2b0);(try clear c2b1);(try clear c3);(try clear c3b0);(try clear c3b1)
    obtain ⟨x3_1,x4_1,rfl,HA,HK1,HO_3,HB⟩:=hrel
    cases gk with
    | zero=>exact absurd HA.out (by simp [laws_toBlkLastS.l0])
    | succ k1 =>
     have H:=HA.out;clear HA;simp only [laws_toBlkLastS.l0] at H
     by_cases c6:x4_1<(l0.length:Int)
     ·rw [if_pos c6] at H;have c6b0:decide (x4_1<(l0.length:Int))=true:=decide_eq_true c6;clear c6
      by_cases c7:0≤x4_1
      ·rw [if_pos c7] at H;have c7b0:decide (0≤x4_1)=true:=decide_eq_true c7;clear c7;obtain ⟨⟨t378,t379⟩,A8,H⟩:=bI H;(try dsimp only at H)
       by_cases c9:x4_1<(x3_1.length:Int)
       ·rw [if_pos c9] at H;have c9b0:decide (x4_1<(x3_1.length:Int))=true:=decide_eq_true c9;clear c9;obtain ⟨y380,hy380⟩:∃ y_:List (S166),y_=(x3_1.set (x4_1:Int).toNat (⟨t378,t379⟩:S166)):=⟨_,rfl⟩
        replace H:(laws_toBlkLastS.l0 k1 l0 y380 (wrap64 (x4_1+1)))=some r:=qH hy380 H
        have Ny380:=mA hy380;clear hy380;have H':=mA H;clear H;have p377:0≤(x4_1:Int):=of_decide_eq_true bA;have q377:x4_1<(l0.length:Int):=of_decide_eq_true bA;obtain ⟨ad377,e377,hx377_0,hx377_1⟩:=at_T184 HR0.out x4_1 p377 q377;cases e377;replace hx377_0:=hC HB hx377_0;replace hx377_1:=hC HB hx377_1;replace p377:=eq_true p377;replace q377:=eq_true q377
        go_wp2_with (first|((with_reducible refine gT 20 rfl ?_);refine gC (some 20) Try.func159 (laws_toBlkLast.calls A8.out) ?_;rintro e w11 ⟨rfl,hb⟩;refine ⟨_,rfl,?_⟩;replace HO_3:=rB HO_3 hb;replace HB:=spB HB hb;(try clear hb);have p10:0≤(x4_1:Int):=of_decide_eq_true bA;have q10:(x4_1:Int)<((x3_1.length:Int):Int):=of_decide_eq_true bA;obtain ⟨go10,co10,eo10,gb10,gl10,cl10,HG10⟩:=Kd.R_form HO_3.out (by omega);(first|cases eo10|(injection eo10 with ea_ en_ ec_;(first|subst ea_|(injection ea_ with ea_;subst ea_));subst ec_;clear en_));have GB10:=mA gb10;have GG10:=mA HG10;clear gb10 gl10 HG10;replace p10:=eq_true p10;replace q10:=eq_true q10;have HX12:=mA (show Kd.R k166 166 w11 w.heap.size (fun _=>True) (.slice (some ⟨go10,0,none⟩) x3_1.length co10) x3_1 from (pR HO_3.out));obtain ⟨ce12,hcl12,hM12,hcc12,hfr12⟩:=Kd.R_elem HX12.out z166 (x4_1:Int) (of_decide_eq_true bA) (by have h_:(x4_1:Int)<((x3_1.length:Int):Int):=of_decide_eq_true bA;first|exact h_|(have e_:=(Kd.R_reads' HO_3.out).1;omega)|simpa using h_);obtain rfl:=k166_openM hM12;have HP12:=Kd.R_seg HX12.out (x4_1:Int) (of_decide_eq_true bA) (by have h_:(x4_1:Int)<((x3_1.length:Int):Int):=of_decide_eq_true bA;first|exact h_|(have e_:=(Kd.R_reads' HO_3.out).1;omega)|simpa using h_) (seg:=[.int .i64 t378,.int .i64 t379]) (j:=0) hcl12 hcc12 (show 2≤2 from by decide) (x':=(⟨t378,t379⟩:S166)) (k166_mkM _ _ _ (⟨t378,t379⟩:S166) ) (fun _ hk=>hk);have HCC12:=mA hcc12;clear hcl12 hcc12 hfr12 hM12)|((with_reducible refine gate_store (t:=166) (p:=21) rfl ?_);refine stR (p:=21) GG10 HCC12.out ?_;intro w13 hw;have hg:w11.grownBy w13 (some go10):=(by rw [hw];exact HP12.2);have hp_:Kd.R k166 166 w13 w.heap.size (fun _=>True) (.slice (some ⟨go10,0,none⟩) x3_1.length co10) y380:=(by rw [hw,Ny380.out];exact HP12.1);clear HP12;replace HO_3:=mA hp_;replace HB:=mA (by rw [hw];exact below_sets GB10.out _ _ (HB.out):Below w.heap.size w w13);clear hg hw hp_))
        go_roundg k1
        case measure=>have:=HK1.out;omega
        case rel=>exact ⟨(y380),(wrap64 (x4_1+1)),bZ,H',⟨by have:=HK1.out;omega⟩,⟨pR HO_3.out⟩,⟨pB HB.out⟩⟩
       ·rw [if_neg c9] at H
        exact absurd H (by simp)
      ·rw [if_neg c7] at H
       exact absurd H (by simp)
     ·rw [if_neg c6] at H;have c6b0:decide (x4_1<(l0.length:Int))=false:=decide_eq_false c6;clear c6;obtain rfl:=Option.some.inj H
      go_wp2
      go_ret
      exact ⟨_,by first|rfl|(simp [errW_none,errW_some]<;>rfl)|(simp [*,errW_none,errW_some]<;>rfl),pR HO_3.out,pB HB.out⟩
  ·rw [if_neg c3] at H
   exact absurd H (by simp)
 ·rw [if_neg c2] at H
  exact absurd H (by simp)

/-! ### laws_toWord: function 104 -/
def laws_toWord.f (k : Nat) (a0_0 a0_1 a0_2 a0_3 a0_4 a0_5 a0_6 a0_7 a0_8 a0_9 a0_10 a0_11 a0_12 a0_13 a0_14 a0_15 a0_16 a0_17 a0_18 a0_19 a0_20 a0_21 a0_22 a0_23 : Int) (l0_24 : List (S182)) (l0_25 : List (S184)) : Option (Int × Int × Int × Int × Int × Int × Int × Int × Int × Int × Int × Int × Int × Int × Int × Int × Int × Int × Int × Int × Int × Int × Int × Int × (List (S164)) × (List (S166))) := (laws_toCmd.f a0_6 a0_7 a0_8 a0_9 a0_10 a0_11 a0_12 a0_13 a0_14 a0_15).bind fun bt384 => ((laws_toBlkPieceS.f k l0_24).bind fun t394 => ((laws_toBlkLastS.f k l0_25).bind fun t397 => (some (a0_0, a0_1, a0_2, a0_3, a0_4, a0_5, bt384.1, bt384.2.1, bt384.2.2.1, bt384.2.2.2.1, bt384.2.2.2.2.1, bt384.2.2.2.2.2.1, bt384.2.2.2.2.2.2.1, bt384.2.2.2.2.2.2.2.1, bt384.2.2.2.2.2.2.2.2.1, bt384.2.2.2.2.2.2.2.2.2, a0_16, a0_17, a0_18, a0_19, a0_20, a0_21, a0_22, a0_23, t394, t397))))
theorem laws_toWord.mono : ∀ a0 a1 a2 a3 a4 a5 a6 a7 a8 a9 a10 a11 a12 a13 a14 a15 a16 a17 a18 a19 a20 a21 a22 a23 a24 a25 k, LeO (laws_toWord.f k a0 a1 a2 a3 a4 a5 a6 a7 a8 a9 a10 a11 a12 a13 a14 a15 a16 a17 a18 a19 a20 a21 a22 a23 a24 a25) (laws_toWord.f (k + 1) a0 a1 a2 a3 a4 a5 a6 a7 a8 a9 a10 a11 a12 a13 a14 a15 a16 a17 a18 a19 a20 a21 a22 a23 a24 a25) := by
 intro a0 a1 a2 a3 a4 a5 a6 a7 a8 a9 a10 a11 a12 a13 a14 a15 a16 a17 a18 a19 a20 a21 a22 a23 a24 a25 k
 unfold laws_toWord.f
 repeat' first
   | (with_reducible first|apply laws_toBlkLastS.mono|apply laws_toBlkPieceS.mono|exact LeO.refl _|exact LeO.none _|refine LeO.ite ?_ ?_|refine LeO.bind ?_ (fun _=>?_))|exact LeO.none _|refine LeO.ite ?_ ?_|refine LeO.bind ?_ (fun _=>?_)
set_option maxHeartbeats 8000000 in
set_option maxRecDepth 100000 in
theorem laws_toWord.calls {k : Nat} {a0_0 a0_1 a0_2 a0_3 a0_4 a0_5 a0_6 a0_7 a0_8 a0_9 a0_10 a0_11 a0_12 a0_13 a0_14 a0_15 a0_16 a0_17 a0_18 a0_19 a0_20 a0_21 a0_22 a0_23 : Int} {A0_24 : Option Addr} {c0_24 : Nat} {l0_24 : List (S182)} {A0_25 : Option Addr} {c0_25 : Nat} {l0_25 : List (S184)} {r1 r2 r3 r4 r5 r6 r7 r8 r9 r10 r11 r12 r13 r14 r15 r16 r17 r18 r19 r20 r21 r22 r23 r24 : Int} {r25 : List (S164)} {r26 : List (S166)} {w : World} (hr0_24 : Kd.C k182 w A0_24 l0_24.length l0_24) (hc0_24 : l0_24.length ≤ c0_24) (hr0_25 : Kd.C k184 w A0_25 l0_25.length l0_25) (hc0_25 : l0_25.length ≤ c0_25) (h : laws_toWord.f k a0_0 a0_1 a0_2 a0_3 a0_4 a0_5 a0_6 a0_7 a0_8 a0_9 a0_10 a0_11 a0_12 a0_13 a0_14 a0_15 a0_16 a0_17 a0_18 a0_19 a0_20 a0_21 a0_22 a0_23 l0_24 l0_25 = some (r1, r2, r3, r4, r5, r6, r7, r8, r9, r10, r11, r12, r13, r14, r15, r16, r17, r18, r19, r20, r21, r22, r23, r24, r25, r26)) :
  Calls Try.prog 104 #[.agg #[.int .i64 a0_0,.int .i64 a0_1,.int .i64 a0_2,.int .i64 a0_3,.int .i64 a0_4,.int .i64 a0_5,.int .i64 a0_6,.int .i64 a0_7,.int .i64 a0_8,.int .i64 a0_9,.int .i64 a0_10,.int .i64 a0_11,.int .i64 a0_12,.int .i64 a0_13,.int .i64 a0_14,.int .i64 a0_15,.int .i64 a0_16,.int .i64 a0_17,.int .i64 a0_18,.int .i64 a0_19,.int .i64 a0_20,.int .i64 a0_21,.int .i64 a0_22,.int .i64 a0_23,.slice A0_24 l0_24.length c0_24,.slice A0_25 l0_25.length c0_25]] w fun e w'=>∃ v24_ v25_:Value,e=.returned (.agg #[.int .i64 r1,.int .i64 r2,.int .i64 r3,.int .i64 r4,.int .i64 r5,.int .i64 r6,.int .i64 r7,.int .i64 r8,.int .i64 r9,.int .i64 r10,.int .i64 r11,.int .i64 r12,.int .i64 r13,.int .i64 r14,.int .i64 r15,.int .i64 r16,.int .i64 r17,.int .i64 r18,.int .i64 r19,.int .i64 r20,.int .i64 r21,.int .i64 r22,.int .i64 r23,.int .i64 r24,v24_,v25_])∧Kd.R k164 164 w' w.heap.size (fun _=>True) v24_ r25∧Kd.R k166 166 w' w.heap.size (fun _=>True) v25_ r26∧Below w.heap.size w w':=by
 have hu134:=Try.underlying134;have hu93:=Try.underlying93;have hu125:=Try.underlying125;have hu44:=Try.underlying44;have HR0_24:=mA hr0_24;have HC0_24:=mA hc0_24;clear hr0_24 hc0_24;have HR0_25:=mA hr0_25;have HC0_25:=mA hc0_25;clear hr0_25 hc0_25;have HB:=mA (Below.refl w.heap.size w);have H:((laws_toCmd.f a0_6 a0_7 a0_8 a0_9 a0_10 a0_11 a0_12 a0_13 a0_14 a0_15).bind fun bt384=>((laws_toBlkPieceS.f k l0_24).bind fun t394=>((laws_toBlkLastS.f k l0_25).bind fun t397=>(some (a0_0,a0_1,a0_2,a0_3,a0_4,a0_5,bt384.1,bt384.2.1,bt384.2.2.1,bt384.2.2.2.1,bt384.2.2.2.2.1,bt384.2.2.2.2.2.1,bt384.2.2.2.2.2.2.1,bt384.2.2.2.2.2.2.2.1,bt384.2.2.2.2.2.2.2.2.1,bt384.2.2.2.2.2.2.2.2.2,a0_16,a0_17,a0_18,a0_19,a0_20,a0_21,a0_22,a0_23,t394,t397)))))=some (r1,r2,r3,r4,r5,r6,r7,r8,r9,r10,r11,r12,r13,r14,r15,r16,r17,r18,r19,r20,r21,r22,r23,r24,r25,r26):=h;clear h;obtain ⟨⟨t384,t385,t386,t387,t388,t389,t390,t391,t392,t393⟩,A2,H⟩:=bI H;(try dsimp only at H);obtain ⟨t394,A3,H⟩:=bI H;(try dsimp only at H);obtain ⟨t397,A4,H⟩:=bI H;(try dsimp only at H);simp only [Option.some.injEq,Prod.mk.injEq] at H;obtain ⟨rfl,rfl,rfl,rfl,rfl,rfl,rfl,rfl,rfl,rfl,rfl,rfl,rfl,rfl,rfl,rfl,rfl,rfl,rfl,rfl,rfl,rfl,rfl,rfl,rfl,rfl⟩:=H
 go_enter Try.func104,Try.ntmps104
 go_wp2_with (first|((with_reducible refine gLg rfl (by assumption) ?_);refine ldV ?_)|((with_reducible refine gSt rfl (by assumption) ?_);refine stV ?_)|((with_reducible refine gT 1 rfl ?_);refine bX 1 ?_;intro gb381 hg w5 hbox hb;have BK381:=mA hbox;have GW381:=gbpB HB hg;have GE381:=gbpB HB hg;replace HB:=spB HB hb;clear hb hbox hg)|((with_reducible refine gT 2 rfl ?_);refine bJ 2 y93 ?_;intro gb382 hg w6 hbox hb;have BK382:=mA hbox;have GW382:=gbpS HB hg;have GE382:=gbpS HB hg;replace HB:=spS HB hb;have NB381_382:=mA (lN (blk_lt (pK BK381.out)) hg);have hN381_382:=NB381_382.out;have NB382_381:=nS NB381_382;have hN382_381:=NB382_381.out;replace BK381:=bK BK381 hb;clear hb hbox hg)|((with_reducible refine gT 3 rfl ?_);refine bJ 3 y93 ?_;intro gb383 hg w7 hbox hb;have BK383:=mA hbox;have GW383:=gbpS HB hg;have GE383:=gbpS HB hg;replace HB:=spS HB hb;have NB381_383:=mA (lN (blk_lt (pK BK381.out)) hg);have hN381_383:=NB381_383.out;have NB383_381:=nS NB381_383;have hN383_381:=NB383_381.out;replace BK381:=bK BK381 hb;have NB382_383:=mA (lN (blk_lt (pK BK382.out)) hg);have hN382_383:=NB382_383.out;have NB383_382:=nS NB382_383;have hN383_382:=NB383_382.out;replace BK382:=bK BK382 hb;clear hb hbox hg;have hcz10_0:=fun i_=>blk_cell BK381.out i_;have hfz10_0:=fun i_=>blk_frozen BK381.out i_;have hcz12_0:=fun i_=>blk_cell BK383.out i_;have hfz12_0:=fun i_=>blk_frozen BK383.out i_)|((with_reducible refine gT 24 rfl ?_);refine gC (some 24) Try.func137 (laws_toCmd.calls A2.out) ?_;rintro e w13 ⟨rfl,hb⟩;refine ⟨_,rfl,?_⟩;replace BK381:=bF BK381 hb;replace BK382:=bF BK382 hb;replace BK383:=mA (blk_below (g:=gb383) (o:=.cells #[.int .i64 a0_0,.int .i64 a0_1,.int .i64 a0_2,.int .i64 a0_3,.int .i64 a0_4,.int .i64 a0_5,.int .i64 0,.int .i64 0,.int .i64 0,.int .i64 0,.int .i64 0,.int .i64 0,.int .i64 0,.int .i64 0,.int .i64 0,.int .i64 0,.int .i64 0,.int .i64 0,.int .i64 0,.int .i64 0,.int .i64 0,.int .i64 0,.int .i64 0,.int .i64 0,.slice none 0 0,.slice none 0 0] 93 (0,0)) (pP BK383) hb);replace HB:=spS HB hb;(try clear hb);have hcz14_0:=fun i_=>blk_cell BK383.out i_;have hfz14_0:=fun i_=>blk_frozen BK383.out i_;have hcz15_0:=fun i_=>blk_cell BK381.out i_;have hfz15_0:=fun i_=>blk_frozen BK381.out i_)|((with_reducible refine gT 52 rfl ?_);refine gC (some 52) Try.func138 (laws_toBlkPieceS.calls (Kd.C_below HR0_24.out (pS HB.out)) HC0_24.out A3.out) ?_;rintro e w16 ⟨v395,rfl,ho0,hb⟩;refine ⟨_,rfl,?_⟩;have HO396:=mA (Kd.R_lower ho0 (bpS HB));replace BK381:=bF BK381 hb;replace BK382:=bF BK382 hb;replace BK383:=mA (blk_below (g:=gb383) (o:=.cells #[.int .i64 a0_0,.int .i64 a0_1,.int .i64 a0_2,.int .i64 a0_3,.int .i64 a0_4,.int .i64 a0_5,.int .i64 t384,.int .i64 t385,.int .i64 t386,.int .i64 t387,.int .i64 t388,.int .i64 t389,.int .i64 t390,.int .i64 t391,.int .i64 t392,.int .i64 t393,.int .i64 a0_16,.int .i64 a0_17,.int .i64 a0_18,.int .i64 a0_19,.int .i64 a0_20,.int .i64 a0_21,.int .i64 a0_22,.int .i64 a0_23,.slice none 0 0,.slice none 0 0] 93 (0,0)) (pP BK383) hb);replace HB:=spS HB hb;(try clear hb);(try clear ho0);obtain ⟨Ao17,co17,rfl⟩:=Kd.R_slice HO396.out;have hcz18_0:=fun i_=>blk_cell BK383.out i_;have hfz18_0:=fun i_=>blk_frozen BK383.out i_;have hcz19_0:=fun i_=>blk_cell BK381.out i_;have hfz19_0:=fun i_=>blk_frozen BK381.out i_)|((with_reducible refine gT 56 rfl ?_);refine gC (some 56) Try.func139 (laws_toBlkLastS.calls (Kd.C_below HR0_25.out (pS HB.out)) HC0_25.out A4.out) ?_;rintro e w20 ⟨v398,rfl,ho0,hb⟩;refine ⟨_,rfl,?_⟩;replace HO396:=rY HO396 BK383 hb;have HO399:=mA (Kd.R_lower ho0 (bpS HB));replace BK381:=bF BK381 hb;replace BK382:=bF BK382 hb;replace BK383:=mA (blk_below (g:=gb383) (o:=.cells #[.int .i64 a0_0,.int .i64 a0_1,.int .i64 a0_2,.int .i64 a0_3,.int .i64 a0_4,.int .i64 a0_5,.int .i64 t384,.int .i64 t385,.int .i64 t386,.int .i64 t387,.int .i64 t388,.int .i64 t389,.int .i64 t390,.int .i64 t391,.int .i64 t392,.int .i64 t393,.int .i64 a0_16,.int .i64 a0_17,.int .i64 a0_18,.int .i64 a0_19,.int .i64 a0_20,.int .i64 a0_21,.int .i64 a0_22,.int .i64 a0_23,.slice Ao17 t394.length co17,.slice none 0 0] 93 (0,0)) (pP BK383) hb);replace HB:=spS HB hb;(try clear hb);(try clear ho0);obtain ⟨Ao21,co21,rfl⟩:=Kd.R_slice HO399.out;have hcz22_0:=fun i_=>blk_cell BK383.out i_;have hfz22_0:=fun i_=>blk_frozen BK383.out i_;have hcz23_0:=fun i_=>blk_cell BK382.out i_;have hfz23_0:=fun i_=>blk_frozen BK382.out i_))
 refine bodyPost_ret (results_cell_row rfl _ _ gb382 93 #[.int .i64 a0_0,.int .i64 a0_1,.int .i64 a0_2,.int .i64 a0_3,.int .i64 a0_4,.int .i64 a0_5,.int .i64 t384,.int .i64 t385,.int .i64 t386,.int .i64 t387,.int .i64 t388,.int .i64 t389,.int .i64 t390,.int .i64 t391,.int .i64 t392,.int .i64 t393,.int .i64 a0_16,.int .i64 a0_17,.int .i64 a0_18,.int .i64 a0_19,.int .i64 a0_20,.int .i64 a0_21,.int .i64 a0_22,.int .i64 a0_23,.slice Ao17 t394.length co17,.slice Ao21 t397.length co21] (0,0) _ rfl (pP BK382) Try.underlying93 rfl aK) rfl ?_
 exact ⟨_,_,by first|rfl|(simp [errW_none,errW_some]<;>rfl)|(simp [*,errW_none,errW_some]<;>rfl),pUU HO396 BK383 BK382,pUU HO399 BK383 BK382,pS HB.out⟩

/-! ### laws_toWordS: function 62 -/
def laws_toWordS.l0 : Nat → List (S134) → List (S93) → Int → Option ((List (S93)))
 | 0,_,_,_=>none
 | k+1,x0,x3,x4=>if x4<(x0.length:Int) then (if 0≤x4 then ((laws_toWord.f k ((rd_T134 x0 x4).f0) ((rd_T134 x0 x4).f1) ((rd_T134 x0 x4).f2) ((rd_T134 x0 x4).f3) ((rd_T134 x0 x4).f4) ((rd_T134 x0 x4).f5) ((rd_T134 x0 x4).f6.f0) ((rd_T134 x0 x4).f6.f1) ((rd_T134 x0 x4).f6.f2) ((rd_T134 x0 x4).f6.f3) ((rd_T134 x0 x4).f6.f4) ((rd_T134 x0 x4).f6.f5) ((rd_T134 x0 x4).f6.f6) ((rd_T134 x0 x4).f6.f7) ((rd_T134 x0 x4).f6.f8) ((rd_T134 x0 x4).f6.f9) ((rd_T134 x0 x4).f7) ((rd_T134 x0 x4).f8) ((rd_T134 x0 x4).f9) ((rd_T134 x0 x4).f10) ((rd_T134 x0 x4).f11) ((rd_T134 x0 x4).f12) ((rd_T134 x0 x4).f13) ((rd_T134 x0 x4).f14) ((rd_T134 x0 x4).f15) ((rd_T134 x0 x4).f16)).bind fun bt404=>(if x4<(x3.length:Int) then (laws_toWordS.l0 k x0 (x3.set (x4:Int).toNat (⟨bt404.1,bt404.2.1,bt404.2.2.1,bt404.2.2.2.1,bt404.2.2.2.2.1,bt404.2.2.2.2.2.1,(⟨bt404.2.2.2.2.2.2.1,bt404.2.2.2.2.2.2.2.1,bt404.2.2.2.2.2.2.2.2.1,bt404.2.2.2.2.2.2.2.2.2.1,bt404.2.2.2.2.2.2.2.2.2.2.1,bt404.2.2.2.2.2.2.2.2.2.2.2.1,bt404.2.2.2.2.2.2.2.2.2.2.2.2.1,bt404.2.2.2.2.2.2.2.2.2.2.2.2.2.1,bt404.2.2.2.2.2.2.2.2.2.2.2.2.2.2.1,bt404.2.2.2.2.2.2.2.2.2.2.2.2.2.2.2.1⟩:S44),bt404.2.2.2.2.2.2.2.2.2.2.2.2.2.2.2.2.1,bt404.2.2.2.2.2.2.2.2.2.2.2.2.2.2.2.2.2.1,bt404.2.2.2.2.2.2.2.2.2.2.2.2.2.2.2.2.2.2.1,bt404.2.2.2.2.2.2.2.2.2.2.2.2.2.2.2.2.2.2.2.1,bt404.2.2.2.2.2.2.2.2.2.2.2.2.2.2.2.2.2.2.2.2.1,bt404.2.2.2.2.2.2.2.2.2.2.2.2.2.2.2.2.2.2.2.2.2.1,bt404.2.2.2.2.2.2.2.2.2.2.2.2.2.2.2.2.2.2.2.2.2.2.1,bt404.2.2.2.2.2.2.2.2.2.2.2.2.2.2.2.2.2.2.2.2.2.2.2.1,bt404.2.2.2.2.2.2.2.2.2.2.2.2.2.2.2.2.2.2.2.2.2.2.2.2.1,bt404.2.2.2.2.2.2.2.2.2.2.2.2.2.2.2.2.2.2.2.2.2.2.2.2.2⟩:S93)) (wrap64 (x4+1))) else (none))) else (none)) else (some x3)
def laws_toWordS.f (k : Nat) (l0 : List (S134)) : Option ((List (S93))) := if 0 ≤ (l0.length : Int) then (if ((l0.length : Int) : Int).toNat ≤ 1172812402961 then (laws_toWordS.l0 k l0 (List.replicate ((l0.length : Int) : Int).toNat z93) 0) else (none)) else (none)
theorem laws_toWordS.mono_l : ∀ k, (∀ y0 y1 y2, LeO (laws_toWordS.l0 k y0 y1 y2) (laws_toWordS.l0 (k + 1) y0 y1 y2))
 | 0=>fun _ _ _ r h=>by simp [laws_toWordS.l0] at h
 | k+1=>by
  have ih0:=laws_toWordS.mono_l k
  ·intros
   unfold laws_toWordS.l0
   repeat' first
   | (with_reducible first|apply ih0|apply laws_toWord.mono|exact LeO.refl _|exact LeO.none _|refine LeO.ite ?_ ?_|refine LeO.bind ?_ (fun _=>?_))|exact LeO.none _|refine LeO.ite ?_ ?_|refine LeO.bind ?_ (fun _=>?_)
theorem laws_toWordS.mono : ∀ a0 k, LeO (laws_toWordS.f k a0) (laws_toWordS.f (k + 1) a0) := by
 intro a0 k;have ih0:=laws_toWordS.mono_l k
 unfold laws_toWordS.f
 repeat' first
   | (with_reducible first|apply ih0|apply laws_toWord.mono|exact LeO.refl _|exact LeO.none _|refine LeO.ite ?_ ?_|refine LeO.bind ?_ (fun _=>?_))|exact LeO.none _|refine LeO.ite ?_ ?_|refine LeO.bind ?_ (fun _=>?_)
set_option maxHeartbeats 8000000 in
set_option maxRecDepth 100000 in
theorem laws_toWordS.calls {k : Nat} {A0 : Option Addr} {c0 : Nat} {l0 : List (S134)} {r : List (S93)} {w : World} (hr0 : Kd.C k134 w A0 l0.length l0) (hc0 : l0.length ≤ c0) (h : laws_toWordS.f k l0 = some r) :
  Calls Try.prog 62 #[.slice A0 l0.length c0] w fun e w'=>∃ v0_:Value,e=.returned (v0_)∧Kd.S k93 93 w' w.heap.size (fun _=>True) v0_ r∧Below w.heap.size w w':=by
 have hu134:=Try.underlying134;have hu93:=Try.underlying93;have HR0:=mA hr0;have HC0:=mA hc0;clear hr0 hc0;have HB:=mA (Below.refl w.heap.size w);have H:(if 0≤(l0.length:Int) then (if ((l0.length:Int):Int).toNat≤1172812402961 then (laws_toWordS.l0 k l0 (List.replicate ((l0.length:Int):Int).toNat z93) 0) else (none)) else (none))=some r:=h;clear h
 by_cases c2:0≤(l0.length:Int)
 ·rw [if_pos c2] at H;have c2b0:=eq_true c2;have c2b1:decide (0≤(l0.length:Int))=true:=decide_eq_true c2;clear c2
  by_cases c3:((l0.length:Int):Int).toNat≤1172812402961
  ·rw [if_pos c3] at H;have c3b0:=eq_true c3;have c3b1:decide (((l0.length:Int):Int).toNat≤1172812402961)=true:=decide_eq_true c3;clear c3;obtain ⟨y400,hy400⟩:∃ y_:List (S93),y_=(List.replicate ((l0.length:Int):Int).toNat z93):=⟨_,rfl⟩
   replace H:(laws_toWordS.l0 k l0 y400 0)=some r:=qH hy400 H
   have Ny400:=mA hy400;clear hy400;have H':=mA H;clear H
   go_enter Try.func62,Try.ntmps62
   go_wp2_with (first|((with_reducible refine gLg rfl (by assumption) ?_);first|refine ldW ?_|refine ldX ?_)|((with_reducible refine gT 7 rfl ?_);refine Kd.S_make k93 _ 93 rfl (N:=7) rfl 25 _ _ rfl (l0.length:Int) rfl rfl Try.underlying25 (.agg #[(.int .i64 0),(.int .i64 0),(.int .i64 0),(.int .i64 0),(.int .i64 0),(.int .i64 0),(.int .i64 0),(.int .i64 0),(.int .i64 0),(.int .i64 0),(.int .i64 0),(.int .i64 0),(.int .i64 0),(.int .i64 0),(.int .i64 0),(.int .i64 0),(.int .i64 0),(.int .i64 0),(.int .i64 0),(.int .i64 0),(.int .i64 0),(.int .i64 0),(.int .i64 0),(.int .i64 0),(.slice none 0 0),(.slice none 0 0)]) 240 info93 rfl aD (by omega) z93 (ok:=fun _=>True) (okp:=fun _=>True) (k93_mkM _ _ _ z93 (Kd.R_nil _ _ _ _ _) (Kd.R_nil _ _ _ _ _)) (fun _ hk=>hk) trivial (of_decide_eq_true bA) (Nat.le_trans (Nat.mul_le_mul_right _ (of_decide_eq_true bA:(l0.length:Int).toNat≤1172812402961)) (by omega)) (Below.refl _ _) (Nat.le_refl _) ?_;intro v401 w4 ho5 hb hg_ hnew_;clear hg_ hnew_;(first|rw [← Ny400.out] at ho5|(simp only [Int.reduceToNat] at ho5;rw [← Ny400.out] at ho5));have HO402:=mA (Kd.S_lower ho5 (bpB HB));replace HB:=spB HB hb;clear hb ho5))
   go_loopg [4] k (fun kq v4 w'=>∃ (x3_1:List (S93)) (x4_1:Int),v4=.int .i64 x4_1∧Aside0 (laws_toWordS.l0 kq l0 x3_1 x4_1=some r)∧Aside0 (kq≤k)∧Aside0 (Kd.S k93 93 w' w.heap.size (fun _=>True) v401 x3_1)∧Aside0 (Below w.heap.size w w'))
   case atStart=>exact ⟨(y400),(0),bZ,H',⟨Nat.le_refl _⟩,⟨by (with_reducible repeat (first|apply Kd.S_alloc|apply Kd.S_drewN|apply Kd.S_drew));exact HO402.out⟩,⟨pB HB.out⟩⟩
   case round =>
    clear H'
    (try clear c2);(try clear c2b0);(try clear c2b1);(try clear c3);(try clear c3b0);(try clear c3b1)
    obtain ⟨x3_1,x4_1,rfl,HA,HK1,HO_3,HB⟩:=hrel
    cases gk with
    | zero=>exact absurd HA.out (by simp [laws_toWordS.l0])
    | succ k1 =>
     have H:=HA.out;clear HA;simp only [laws_toWordS.l0] at H
     by_cases c6:x4_1<(l0.length:Int)
     ·rw [if_pos c6] at H;have c6b0:decide (x4_1<(l0.length:Int))=true:=decide_eq_true c6;clear c6
      by_cases c7:0≤x4_1
      ·rw [if_pos c7] at H;have c7b0:decide (0≤x4_1)=true:=decide_eq_true c7;clear c7;obtain ⟨⟨t404,t405,t406,t407,t408,t409,t410,t411,t412,t413,t414,t415,t416,t417,t418,t419,t420,t421,t422,t423,t424,t425,t426,t427,t428,t431⟩,A8,H⟩:=bI H;(try dsimp only at H)
       by_cases c9:x4_1<(x3_1.length:Int)
       ·rw [if_pos c9] at H;have c9b0:decide (x4_1<(x3_1.length:Int))=true:=decide_eq_true c9;clear c9;obtain ⟨y434,hy434⟩:∃ y_:List (S93),y_=(x3_1.set (x4_1:Int).toNat (⟨t404,t405,t406,t407,t408,t409,(⟨t410,t411,t412,t413,t414,t415,t416,t417,t418,t419⟩:S44),t420,t421,t422,t423,t424,t425,t426,t427,t428,t431⟩:S93)):=⟨_,rfl⟩
        replace H:(laws_toWordS.l0 k1 l0 y434 (wrap64 (x4_1+1)))=some r:=qH hy434 H
        have Ny434:=mA hy434;clear hy434;have H':=mA H;clear H;have p403:0≤(x4_1:Int):=of_decide_eq_true bA;have q403:x4_1<(l0.length:Int):=of_decide_eq_true bA;obtain ⟨ad403,A403_24,c403_24,A403_25,c403_25,e403,hs403,hl403_24,hi403_24,hl403_25,hi403_25⟩:=at_R134 HR0.out x4_1 p403 q403;have hx403_0:=RS.hd hs403 rfl;cases e403;replace hx403_0:=hC HB hx403_0;replace hs403:=rS HB hs403;have HR403_24:=mA hi403_24;have HC403_24:=mA hl403_24;clear hi403_24 hl403_24;have HR403_25:=mA hi403_25;have HC403_25:=mA hl403_25;clear hi403_25 hl403_25;replace p403:=eq_true p403;replace q403:=eq_true q403
        go_wp2_with (first|((with_reducible refine gLg rfl (by assumption) ?_);first|refine ldW ?_|refine ldX ?_)|((with_reducible refine gT 20 rfl ?_);refine gC (some 20) Try.func104 (laws_toWord.calls (cB HR403_24 HB) HC403_24.out (cB HR403_25 HB) HC403_25.out A8.out) ?_;rintro e w11 ⟨v429,v432,rfl,ho0,ho1,hb⟩;refine ⟨_,rfl,?_⟩;replace HO_3:=mA (Kd.S_mono (Kd.S_told (Kd.S_told (Kd.S_old (pYs HO_3) hb) (Kd.R_base ho0)) (Kd.R_base ho1)) (fun _ h_=>h_.1));have HO430:=mA (Kd.R_lower ho0 (bpB HB));have HO433:=mA (Kd.R_lower ho1 (bpB HB));replace HB:=spB HB hb;(try clear hb);(try clear ho0);(try clear ho1);have p10:0≤(x4_1:Int):=of_decide_eq_true bA;have q10:(x4_1:Int)<((x3_1.length:Int):Int):=of_decide_eq_true bA;obtain ⟨go10,co10,eo10,gb10,gl10,cl10,HG10⟩:=Kd.S_form HO_3.out (by omega);(first|cases eo10|(injection eo10 with ea_ en_ ec_;(first|subst ea_|(injection ea_ with ea_;subst ea_));subst ec_;clear en_));have GB10:=mA gb10;have GG10:=mA HG10;clear gb10 gl10 HG10;replace p10:=eq_true p10;replace q10:=eq_true q10;have n_:=mA (Kd.S_mono (ok':=(fun k_=>some k_≠(v429:Value).ownBlock∧some k_≠(v432:Value).ownBlock)) HO_3.out (fun k_ hk=>⟨hk.1.2,hk.2⟩));clear HO_3;have HO_3:=n_;clear n_;have HX12:=mA (show Kd.S k93 93 w11 w.heap.size (fun k_=>((fun _=>True)) k_∧¬ ((fun k_=>some k_=(v429:Value).ownBlock ∨ some k_=(v432:Value).ownBlock)) k_) (.slice (some ⟨go10,0,none⟩) x3_1.length co10) x3_1 from (by (with_reducible repeat (first|apply Kd.S_alloc|apply Kd.S_drewN|apply Kd.S_drew));exact Kd.S_mono HO_3.out (fun k_ hk=>⟨trivial,fun e_=>e_.elim (fun h_=>hk.1 h_) (fun h_=>hk.2 h_)⟩)));obtain ⟨oki12,ce12,hcl12,hM12,hcc12,hfr12,hoki12,hH12⟩:=Kd.S_elem HX12.out z93 (x4_1:Int) (of_decide_eq_true bA) (by have h_:(x4_1:Int)<((x3_1.length:Int):Int):=of_decide_eq_true bA;first|exact h_|(have e_:=(Kd.S_reads' HO_3.out).1;omega)|simpa using h_);obtain ⟨ve12_24,ve12_25,rfl,ge12_24,ge12_25⟩:=k93_openM hM12;have HP12:=Kd.S_seg hH12 (of_decide_eq_true bA) (by have h_:(x4_1:Int)<((x3_1.length:Int):Int):=of_decide_eq_true bA;first|exact h_|(have e_:=(Kd.S_reads' HO_3.out).1;omega)|simpa using h_) (seg:=[.int .i64 t404,.int .i64 t405,.int .i64 t406,.int .i64 t407,.int .i64 t408,.int .i64 t409,.int .i64 t410,.int .i64 t411,.int .i64 t412,.int .i64 t413,.int .i64 t414,.int .i64 t415,.int .i64 t416,.int .i64 t417,.int .i64 t418,.int .i64 t419,.int .i64 t420,.int .i64 t421,.int .i64 t422,.int .i64 t423,.int .i64 t424,.int .i64 t425,.int .i64 t426,.int .i64 t427,v429,v432]) (j:=0) (show 26≤26 from by decide) (x':=(⟨t404,t405,t406,t407,t408,t409,(⟨t410,t411,t412,t413,t414,t415,t416,t417,t418,t419⟩:S44),t420,t421,t422,t423,t424,t425,t426,t427,t428,t431⟩:S93)) (k93_mkM _ _ _ (⟨t404,t405,t406,t407,t408,t409,(⟨t410,t411,t412,t413,t414,t415,t416,t417,t418,t419⟩:S44),t420,t421,t422,t423,t424,t425,t426,t427,t428,t431⟩:S93) (Kd.R_mono (Kd.R_tight rfl (Kd.R_mono (ok':=fun k_=>((fun _=>True)) k_∧k_≠go10) (Kd.R_apart' (HO430.out) (Kd.S_typed HO_3.out) aD) (fun k_ hk=>⟨trivial,fun e_=>(hk.2) (by rw [e_];rfl)⟩))) (fun _ h_=>Or.inr (Or.inl h_))) (Kd.R_mono (Kd.R_tight rfl (Kd.R_mono (ok':=fun k_=>((fun _=>True)) k_∧k_≠go10) (Kd.R_apart' (HO433.out) (Kd.S_typed HO_3.out) aD) (fun k_ hk=>⟨trivial,fun e_=>(hk.2) (by rw [e_];rfl)⟩))) (fun _ h_=>Or.inr (Or.inr (h_))))) (fun _ hk=>hk) (fun k_ hk_=>hk_.elim (fun h_=>((Kd.R_mono (ok':=fun k_=>((fun _=>True)) k_∧k_≠go10) (Kd.R_apart' (HO430.out) (Kd.S_typed HO_3.out) aD) (fun k_ hk=>⟨trivial,fun e_=>(hk.2) (by rw [e_];rfl)⟩))).1 k_ h_.symm) (fun h_=>((Kd.R_mono (ok':=fun k_=>((fun _=>True)) k_∧k_≠go10) (Kd.R_apart' (HO433.out) (Kd.S_typed HO_3.out) aD) (fun k_ hk=>⟨trivial,fun e_=>(hk.2) (by rw [e_];rfl)⟩))).1 k_ h_.symm));have HCC12:=mA hcc12;clear hcl12 hcc12 hfr12 hM12 hoki12 hH12)|((with_reducible refine gate_store (t:=93) (p:=21) rfl ?_);refine stR (p:=21) GG10 HCC12.out ?_ (h1:=by obtain ⟨_,_,eo_0⟩:=Kd.R_slice HO430.out;obtain ⟨_,_,eo_1⟩:=Kd.R_slice HO433.out;rw [eo_0,eo_1];rfl);intro w13 hw;have hg:w11.grownBy w13 (some go10):=(by rw [hw];exact HP12.2);have hp_:Kd.S k93 93 w13 w.heap.size (fun _=>True) (.slice (some ⟨go10,0,none⟩) x3_1.length co10) y434:=(by rw [hw,Ny434.out];exact HP12.1);clear HP12;replace HO_3:=mA hp_;replace HB:=mA (by rw [hw];exact below_sets GB10.out _ _ (HB.out):Below w.heap.size w w13);clear HO430;clear HO433;clear hg hw hp_))
        go_roundg k1
        case measure=>have:=HK1.out;omega
        case rel=>exact ⟨(y434),(wrap64 (x4_1+1)),bZ,H',⟨by have:=HK1.out;omega⟩,⟨by (with_reducible repeat (first|apply Kd.S_alloc|apply Kd.S_drewN|apply Kd.S_drew));exact HO_3.out⟩,⟨pB HB.out⟩⟩
       ·rw [if_neg c9] at H
        exact absurd H (by simp)
      ·rw [if_neg c7] at H
       exact absurd H (by simp)
     ·rw [if_neg c6] at H;have c6b0:decide (x4_1<(l0.length:Int))=false:=decide_eq_false c6;clear c6;obtain rfl:=Option.some.inj H
      go_wp2_with (first|((with_reducible refine gLg rfl (by assumption) ?_);first|refine ldW ?_|refine ldX ?_))
      go_ret
      exact ⟨_,by first|rfl|(simp [errW_none,errW_some]<;>rfl)|(simp [*,errW_none,errW_some]<;>rfl),by (with_reducible repeat (first|apply Kd.S_alloc|apply Kd.S_drewN|apply Kd.S_drew));exact HO_3.out,pB HB.out⟩
  ·rw [if_neg c3] at H
   exact absurd H (by simp)
 ·rw [if_neg c2] at H
  exact absurd H (by simp)

/-! ### laws_toSynCouncil: function 17 -/
def laws_toSynCouncil.f (k : Nat) (l0_0 : List (S123)) (l0_1 : List Int) (l0_2 : List (S129)) (l0_3 : List (S134)) (l0_4 : List (S127)) : Option ((List (S84)) × List Int × (List (S88)) × (List (S93)) × (List (S53))) := (laws_toSynVoterS.f k l0_0).bind fun t438 => ((laws_toIntS.f k l0_1).bind fun t441 => ((laws_toSynSeekerS.f k l0_2).bind fun t444 => ((laws_toWordS.f k l0_3).bind fun t447 => ((laws_toSynPaperS.f k l0_4).bind fun t450 => (some (t438, t441, t444, t447, t450))))))
theorem laws_toSynCouncil.mono : ∀ a0 a1 a2 a3 a4 k, LeO (laws_toSynCouncil.f k a0 a1 a2 a3 a4) (laws_toSynCouncil.f (k + 1) a0 a1 a2 a3 a4) := by
 intro a0 a1 a2 a3 a4 k
 unfold laws_toSynCouncil.f
 repeat' first
   | (with_reducible first|apply laws_toIntS.mono|apply laws_toSynPaperS.mono|apply laws_toSynSeekerS.mono|apply laws_toSynVoterS.mono|apply laws_toWordS.mono|exact LeO.refl _|exact LeO.none _|refine LeO.ite ?_ ?_|refine LeO.bind ?_ (fun _=>?_))|exact LeO.none _|refine LeO.ite ?_ ?_|refine LeO.bind ?_ (fun _=>?_)
set_option maxHeartbeats 8000000 in
set_option maxRecDepth 100000 in
theorem laws_toSynCouncil.calls {k : Nat} {A0_0 : Option Addr} {c0_0 : Nat} {l0_0 : List (S123)} {A0_1 : Option Addr} {c0_1 : Nat} {l0_1 : List Int} {A0_2 : Option Addr} {c0_2 : Nat} {l0_2 : List (S129)} {A0_3 : Option Addr} {c0_3 : Nat} {l0_3 : List (S134)} {A0_4 : Option Addr} {c0_4 : Nat} {l0_4 : List (S127)} {r1 : List (S84)} {r2 : List Int} {r3 : List (S88)} {r4 : List (S93)} {r5 : List (S53)} {w : World} (hr0_0 : Kd.C k123 w A0_0 l0_0.length l0_0) (hc0_0 : l0_0.length ≤ c0_0) (hr0_1 : Kd.C (Kd.int .i64) w A0_1 l0_1.length l0_1) (hc0_1 : l0_1.length ≤ c0_1) (hr0_2 : Kd.C k129 w A0_2 l0_2.length l0_2) (hc0_2 : l0_2.length ≤ c0_2) (hr0_3 : Kd.C k134 w A0_3 l0_3.length l0_3) (hc0_3 : l0_3.length ≤ c0_3) (hr0_4 : Kd.C k127 w A0_4 l0_4.length l0_4) (hc0_4 : l0_4.length ≤ c0_4) (h : laws_toSynCouncil.f k l0_0 l0_1 l0_2 l0_3 l0_4 = some (r1, r2, r3, r4, r5)) :
  Calls Try.prog 17 #[.agg #[.slice A0_0 l0_0.length c0_0,.slice A0_1 l0_1.length c0_1,.slice A0_2 l0_2.length c0_2,.slice A0_3 l0_3.length c0_3,.slice A0_4 l0_4.length c0_4]] w fun e w'=>∃ v0_ v1_ v2_ v3_ v4_:Value,e=.returned (.agg #[v0_,v1_,v2_,v3_,v4_])∧Kd.S k84 84 w' w.heap.size (fun k_=>some k_≠(v4_:Value).ownBlock) v0_ r1∧Kd.R (Kd.int .i64) 3 w' w.heap.size (fun _=>True) v1_ r2∧Kd.S k88 88 w' w.heap.size (fun k_=>some k_≠(v1_:Value).ownBlock) v2_ r3∧Kd.S k93 93 w' w.heap.size (fun _=>True) v3_ r4∧Kd.R k53 53 w' w.heap.size (fun _=>True) v4_ r5∧Below w.heap.size w w':=by
 have hu38:=Try.underlying38;have hu28:=Try.underlying28;have HR0_0:=mA hr0_0;have HC0_0:=mA hc0_0;clear hr0_0 hc0_0;have HR0_1:=mA hr0_1;have HC0_1:=mA hc0_1;clear hr0_1 hc0_1;have HR0_2:=mA hr0_2;have HC0_2:=mA hc0_2;clear hr0_2 hc0_2;have HR0_3:=mA hr0_3;have HC0_3:=mA hc0_3;clear hr0_3 hc0_3;have HR0_4:=mA hr0_4;have HC0_4:=mA hc0_4;clear hr0_4 hc0_4;have HB:=mA (Below.refl w.heap.size w);have H:((laws_toSynVoterS.f k l0_0).bind fun t438=>((laws_toIntS.f k l0_1).bind fun t441=>((laws_toSynSeekerS.f k l0_2).bind fun t444=>((laws_toWordS.f k l0_3).bind fun t447=>((laws_toSynPaperS.f k l0_4).bind fun t450=>(some (t438,t441,t444,t447,t450)))))))=some (r1,r2,r3,r4,r5):=h;clear h;obtain ⟨t438,A2,H⟩:=bI H;(try dsimp only at H);obtain ⟨t441,A3,H⟩:=bI H;(try dsimp only at H);obtain ⟨t444,A4,H⟩:=bI H;(try dsimp only at H);obtain ⟨t447,A5,H⟩:=bI H;(try dsimp only at H);obtain ⟨t450,A6,H⟩:=bI H;(try dsimp only at H);simp only [Option.some.injEq,Prod.mk.injEq] at H;obtain ⟨rfl,rfl,rfl,rfl,rfl⟩:=H
 go_enter Try.func17,Try.ntmps17
 go_wp2_with (first|((with_reducible refine gT 1 rfl ?_);refine bX 1 ?_;intro gb435 hg w7 hbox hb;have BK435:=mA hbox;have GW435:=gbpB HB hg;have GE435:=gbpB HB hg;replace HB:=spB HB hb;clear hb hbox hg)|((with_reducible refine gT 2 rfl ?_);refine bJ 2 y28 ?_;intro gb436 hg w8 hbox hb;have BK436:=mA hbox;have GW436:=gbpS HB hg;have GE436:=gbpS HB hg;replace HB:=spS HB hb;have NB435_436:=mA (lN (blk_lt (pK BK435.out)) hg);have hN435_436:=NB435_436.out;have NB436_435:=nS NB435_436;have hN436_435:=NB436_435.out;replace BK435:=bK BK435 hb;clear hb hbox hg)|((with_reducible refine gT 3 rfl ?_);refine bJ 3 y28 ?_;intro gb437 hg w9 hbox hb;have BK437:=mA hbox;have GW437:=gbpS HB hg;have GE437:=gbpS HB hg;replace HB:=spS HB hb;have NB435_437:=mA (lN (blk_lt (pK BK435.out)) hg);have hN435_437:=NB435_437.out;have NB437_435:=nS NB435_437;have hN437_435:=NB437_435.out;replace BK435:=bK BK435 hb;have NB436_437:=mA (lN (blk_lt (pK BK436.out)) hg);have hN436_437:=NB436_437.out;have NB437_436:=nS NB436_437;have hN437_436:=NB437_436.out;replace BK436:=bK BK436 hb;clear hb hbox hg;obtain ⟨hcz12_0,hcz12_1,hcz12_2,hcz12_3,hcz12_4,hfz12_0,hfz12_1,hfz12_2,hfz12_3,hfz12_4⟩:=box5 BK435.out)|((with_reducible refine gT 6 rfl ?_);refine gC (some 6) Try.func59 (laws_toSynVoterS.calls (cB HR0_0 HB) HC0_0.out A2.out) ?_;rintro e w13 ⟨v439,rfl,ho0,hb⟩;refine ⟨_,rfl,?_⟩;have HO440:=mA (Kd.S_lower ho0 (bpS HB));replace BK435:=bK BK435 hb;replace BK436:=bK BK436 hb;replace BK437:=bK BK437 hb;replace HB:=spS HB hb;(try clear hb);(try clear ho0);obtain ⟨Ao14,co14,eo14⟩:=Kd.S_slice HO440.out;subst eo14;obtain ⟨hcz16_0,hcz16_1,hcz16_2,hcz16_3,hcz16_4,hfz16_0,hfz16_1,hfz16_2,hfz16_3,hfz16_4⟩:=box5 BK437.out;obtain ⟨hcz17_0,hcz17_1,hcz17_2,hcz17_3,hcz17_4,hfz17_0,hfz17_1,hfz17_2,hfz17_3,hfz17_4⟩:=box5 BK435.out)|((with_reducible refine gT 10 rfl ?_);refine gC (some 10) Try.func60 (laws_toIntS.calls (Kd.C_below HR0_1.out (pS HB.out)) HC0_1.out A3.out) ?_;rintro e w18 ⟨v442,rfl,ho0,hb⟩;refine ⟨_,rfl,?_⟩;replace HO440:=sY HO440 BK437 hb;have HO443:=mA (Kd.R_lower ho0 (bpS HB));replace BK435:=bF BK435 hb;replace BK436:=bF BK436 hb;replace BK437:=mA (blk_below (g:=gb437) (o:=.cells #[.slice Ao14 t438.length co14,.slice none 0 0,.slice none 0 0,.slice none 0 0,.slice none 0 0] 28 (0,0)) (pP BK437) hb);replace HB:=spS HB hb;(try clear hb);(try clear hk);(try clear ho0);obtain ⟨Ao19,co19,rfl⟩:=Kd.R_slice HO443.out;obtain ⟨hcz20_0,hcz20_1,hcz20_2,hcz20_3,hcz20_4,hfz20_0,hfz20_1,hfz20_2,hfz20_3,hfz20_4⟩:=box5 BK437.out;obtain ⟨hcz21_0,hcz21_1,hcz21_2,hcz21_3,hcz21_4,hfz21_0,hfz21_1,hfz21_2,hfz21_3,hfz21_4⟩:=box5 BK435.out)|((with_reducible refine gT 14 rfl ?_);refine gC (some 14) Try.func61 (laws_toSynSeekerS.calls (Kd.C_below HR0_2.out (pS HB.out)) HC0_2.out A4.out) ?_;rintro e w22 ⟨v445,rfl,ho0,hb⟩;refine ⟨_,rfl,?_⟩;replace HO440:=sY HO440 BK437 hb;have HO446:=mA (Kd.S_lower (Kd.S_new' ho0 (Kd.R_lt (pG HO443 BK437))) (bpS HB));replace HO443:=rY HO443 BK437 hb;replace BK435:=bF BK435 hb;replace BK436:=bF BK436 hb;replace BK437:=mA (blk_below (g:=gb437) (o:=.cells #[.slice Ao14 t438.length co14,.slice Ao19 t441.length co19,.slice none 0 0,.slice none 0 0,.slice none 0 0] 28 (0,0)) (pP BK437) hb);replace HB:=spS HB hb;(try clear hb);(try clear hk);(try clear ho0);obtain ⟨Ao23,co23,eo23⟩:=Kd.S_slice HO446.out;subst eo23;obtain ⟨hcz24_0,hcz24_1,hcz24_2,hcz24_3,hcz24_4,hfz24_0,hfz24_1,hfz24_2,hfz24_3,hfz24_4⟩:=box5 BK437.out;obtain ⟨hcz25_0,hcz25_1,hcz25_2,hcz25_3,hcz25_4,hfz25_0,hfz25_1,hfz25_2,hfz25_3,hfz25_4⟩:=box5 BK435.out)|((with_reducible refine gT 18 rfl ?_);refine gC (some 18) Try.func62 (laws_toWordS.calls (Kd.C_below HR0_3.out (pS HB.out)) HC0_3.out A5.out) ?_;rintro e w26 ⟨v448,rfl,ho0,hb⟩;refine ⟨_,rfl,?_⟩;replace HO440:=sY HO440 BK437 hb;replace HO443:=rY HO443 BK437 hb;replace HO446:=sY HO446 BK437 hb;have HO449:=mA (Kd.S_lower ho0 (bpS HB));replace BK435:=bF BK435 hb;replace BK436:=bF BK436 hb;replace BK437:=mA (blk_below (g:=gb437) (o:=.cells #[.slice Ao14 t438.length co14,.slice Ao19 t441.length co19,.slice Ao23 t444.length co23,.slice none 0 0,.slice none 0 0] 28 (0,0)) (pP BK437) hb);replace HB:=spS HB hb;(try clear hb);(try clear hk);(try clear ho0);obtain ⟨Ao27,co27,eo27⟩:=Kd.S_slice HO449.out;subst eo27;obtain ⟨hcz28_0,hcz28_1,hcz28_2,hcz28_3,hcz28_4,hfz28_0,hfz28_1,hfz28_2,hfz28_3,hfz28_4⟩:=box5 BK437.out;obtain ⟨hcz29_0,hcz29_1,hcz29_2,hcz29_3,hcz29_4,hfz29_0,hfz29_1,hfz29_2,hfz29_3,hfz29_4⟩:=box5 BK435.out)|((with_reducible refine gT 22 rfl ?_);refine gC (some 22) Try.func63 (laws_toSynPaperS.calls (Kd.C_below HR0_4.out (pS HB.out)) HC0_4.out A6.out) ?_;rintro e w30 ⟨v451,rfl,ho0,hb⟩;refine ⟨_,rfl,?_⟩;replace HO440:=mA (Kd.S_elder' (pY HO440 BK437) (Kd.R_base ho0) hb);replace HO443:=rY HO443 BK437 hb;replace HO446:=sY HO446 BK437 hb;replace HO449:=sY HO449 BK437 hb;have HO452:=mA (Kd.R_lower ho0 (bpS HB));replace BK435:=bF BK435 hb;replace BK436:=bF BK436 hb;replace BK437:=mA (blk_below (g:=gb437) (o:=.cells #[.slice Ao14 t438.length co14,.slice Ao19 t441.length co19,.slice Ao23 t444.length co23,.slice Ao27 t447.length co27,.slice none 0 0] 28 (0,0)) (pP BK437) hb);replace HB:=spS HB hb;(try clear hb);(try clear hk);(try clear ho0);obtain ⟨Ao31,co31,rfl⟩:=Kd.R_slice HO452.out;obtain ⟨hcz32_0,hcz32_1,hcz32_2,hcz32_3,hcz32_4,hfz32_0,hfz32_1,hfz32_2,hfz32_3,hfz32_4⟩:=box5 BK437.out;obtain ⟨hcz33_0,hcz33_1,hcz33_2,hcz33_3,hcz33_4,hfz33_0,hfz33_1,hfz33_2,hfz33_3,hfz33_4⟩:=box5 BK436.out))
 refine bodyPost_ret (results_cell_row rfl _ _ gb436 28 #[.slice Ao14 t438.length co14,.slice Ao19 t441.length co19,.slice Ao23 t444.length co23,.slice Ao27 t447.length co27,.slice Ao31 t450.length co31] (0,0) _ rfl (pP BK436) Try.underlying28 rfl aK) rfl ?_
 exact ⟨_,_,_,_,_,by first|rfl|(simp [errW_none,errW_some]<;>rfl)|(simp [*,errW_none,errW_some]<;>rfl),by (with_reducible repeat (first|apply Kd.S_alloc|apply Kd.S_drewN|apply Kd.S_drew));exact Kd.S_mono (Kd.S_far (p:=⟨gb436,4,none⟩) (Kd.S_far (p:=⟨gb436,3,none⟩) (Kd.S_far (p:=⟨gb436,2,none⟩) (Kd.S_far (p:=⟨gb436,1,none⟩) (Kd.S_far (p:=⟨gb436,0,none⟩) (Kd.S_far (p:=⟨gb437,4,none⟩) (Kd.S_types (Kd.S_types HO440.out BK437.out aD) BK436.out aD) (fun _ hk=>hk.1.2) (.slice Ao31 t450.length co31)) (fun _ hk=>hk.2) (.slice Ao14 t438.length co14)) (fun _ hk=>hk.2) (.slice Ao19 t441.length co19)) (fun _ hk=>hk.2) (.slice Ao23 t444.length co23)) (fun _ hk=>hk.2) (.slice Ao27 t447.length co27)) (fun _ hk=>hk.2) (.slice Ao31 t450.length co31)) (fun _ hk=>hk.1.1.2),pUU HO443 BK437 BK436,by (with_reducible repeat (first|apply Kd.S_alloc|apply Kd.S_drewN|apply Kd.S_drew));exact Kd.S_mono (Kd.S_far (p:=⟨gb436,4,none⟩) (Kd.S_far (p:=⟨gb436,3,none⟩) (Kd.S_far (p:=⟨gb436,2,none⟩) (Kd.S_far (p:=⟨gb436,1,none⟩) (Kd.S_far (p:=⟨gb436,0,none⟩) (Kd.S_far (p:=⟨gb437,4,none⟩) (Kd.S_types (Kd.S_types HO446.out BK437.out aD) BK436.out aD) (fun _ hk=>hk.1.2) (.slice Ao31 t450.length co31)) (fun _ hk=>hk.2) (.slice Ao14 t438.length co14)) (fun _ hk=>hk.2) (.slice Ao19 t441.length co19)) (fun _ hk=>hk.2) (.slice Ao23 t444.length co23)) (fun _ hk=>hk.2) (.slice Ao27 t447.length co27)) (fun _ hk=>hk.2) (.slice Ao31 t450.length co31)) (fun _ hk=>hk.1.1.2),by (with_reducible repeat (first|apply Kd.S_alloc|apply Kd.S_drewN|apply Kd.S_drew));exact Kd.S_mono (Kd.S_far (p:=⟨gb436,4,none⟩) (Kd.S_far (p:=⟨gb436,3,none⟩) (Kd.S_far (p:=⟨gb436,2,none⟩) (Kd.S_far (p:=⟨gb436,1,none⟩) (Kd.S_far (p:=⟨gb436,0,none⟩) (Kd.S_far (p:=⟨gb437,4,none⟩) (Kd.S_types (Kd.S_types HO449.out BK437.out aD) BK436.out aD) (fun _ hk=>hk.1.2) (.slice Ao31 t450.length co31)) (fun _ hk=>hk.2) (.slice Ao14 t438.length co14)) (fun _ hk=>hk.2) (.slice Ao19 t441.length co19)) (fun _ hk=>hk.2) (.slice Ao23 t444.length co23)) (fun _ hk=>hk.2) (.slice Ao27 t447.length co27)) (fun _ hk=>hk.2) (.slice Ao31 t450.length co31)) (fun _ hk=>trivial),pUU HO452 BK437 BK436,pS HB.out⟩

/-! ### impl_in: function 65 -/
def impl_in.f (a0 a1 a2 : Int) : Option (Bool) := if a0 ≥ a1 then (some (decide (a0 ≤ a2))) else (some false)
set_option maxHeartbeats 8000000 in
set_option maxRecDepth 100000 in
theorem impl_in.calls {a0 a1 a2 : Int} {r : Bool} {w : World} (h : impl_in.f a0 a1 a2 = some r) :
  Calls Try.prog 65 #[.int .i64 a0,.int .i64 a1,.int .i64 a2] w fun e w'=>e=.returned (.bool r)∧Drawn0 w w':=by
 have H:(if a0 ≥ a1 then (some (decide (a0≤a2))) else (some false))=some r:=h;clear h
 by_cases c4:a0 ≥ a1
 ·rw [if_pos c4] at H;have c4b0:decide (a1≤a0)=true:=decide_eq_true c4;clear c4;obtain rfl:=Option.some.inj H
  go_enter Try.func65,Try.ntmps65
  go_wp2
  go_ret
  exact ⟨by first|rfl|(simp;done)|(simp [*];done),by repeat (first|exact Drawn0.refl _|apply Drawn0.step)⟩
 ·rw [if_neg c4] at H;have c4b0:decide (a1≤a0)=false:=decide_eq_false c4;clear c4;obtain rfl:=Option.some.inj H
  go_enter Try.func65,Try.ntmps65
  go_wp2
  go_ret
  exact ⟨by first|rfl|(simp;done)|(simp [*];done),by repeat (first|exact Drawn0.refl _|apply Drawn0.step)⟩

/-! ### impl_numbersOk: function 112 -/
def impl_numbersOk.l0 : Nat → List Int → Int → Int → Option (Bool)
 | 0,_,_,_=>none
 | k+1,x5,x6,x7=>if x7<x6 then (if 0≤x7 then (if x7<(x5.length:Int) then ((impl_in.f (rd x5 x7) (-1) 99999).bind fun t454=>(if t454=true then (impl_numbersOk.l0 k x5 x6 (wrap64 (x7+1))) else (some false))) else (none)) else (none)) else (some true)
def impl_numbersOk.f (k : Nat) (l0 : List Int) : Option (Bool) := impl_numbersOk.l0 k l0 (l0.length : Int) 0
theorem impl_numbersOk.mono_l : ∀ k, (∀ y0 y1 y2, LeO (impl_numbersOk.l0 k y0 y1 y2) (impl_numbersOk.l0 (k + 1) y0 y1 y2))
 | 0=>fun _ _ _ r h=>by simp [impl_numbersOk.l0] at h
 | k+1=>by
  have ih0:=impl_numbersOk.mono_l k
  ·intros
   unfold impl_numbersOk.l0
   repeat' first
   | (with_reducible first|apply ih0|exact LeO.refl _|exact LeO.none _|refine LeO.ite ?_ ?_|refine LeO.bind ?_ (fun _=>?_))|exact LeO.none _|refine LeO.ite ?_ ?_|refine LeO.bind ?_ (fun _=>?_)
theorem impl_numbersOk.mono : ∀ a0 k, LeO (impl_numbersOk.f k a0) (impl_numbersOk.f (k + 1) a0) := by
 intro a0 k;have ih0:=impl_numbersOk.mono_l k
 unfold impl_numbersOk.f
 repeat' first
   | (with_reducible first|apply ih0|exact LeO.refl _|exact LeO.none _|refine LeO.ite ?_ ?_|refine LeO.bind ?_ (fun _=>?_))|exact LeO.none _|refine LeO.ite ?_ ?_|refine LeO.bind ?_ (fun _=>?_)
set_option maxHeartbeats 8000000 in
set_option maxRecDepth 100000 in
theorem impl_numbersOk.calls {k : Nat} {A0 : Option Addr} {c0 : Nat} {l0 : List Int} {r : Bool} {w : World} (hr0 : Kd.C (Kd.int .i64) w A0 l0.length l0) (hc0 : l0.length ≤ c0) (h : impl_numbersOk.f k l0 = some r) :
  Calls Try.prog 112 #[.slice A0 l0.length c0] w fun e w'=>e=.returned (.bool r)∧Drawn0 w w':=by
 have HR0:=mA hr0;have HC0:=mA hc0;clear hr0 hc0;have H:(impl_numbersOk.l0 k l0 (l0.length:Int) 0)=some r:=h;clear h;have H':=mA H;clear H
 go_enter Try.func112,Try.ntmps112
 go_wp2
 go_loopg [7] k (fun kq v7 w'=>∃ (x7_1:Int),v7=.int .i64 x7_1∧Aside0 (impl_numbersOk.l0 kq l0 (l0.length:Int) x7_1=some r)∧Aside0 (kq≤k)∧Drawn0 w w')
 case atStart=>exact ⟨(0),bZ,H',⟨Nat.le_refl _⟩,by repeat (first|exact Drawn0.refl _|apply Drawn0.step)⟩
 case round =>
  clear H'
  obtain ⟨x7_1,rfl,HA,HK1,⟨m1,rfl⟩⟩:=hrel
  cases gk with
  | zero=>exact absurd HA.out (by simp [impl_numbersOk.l0])
  | succ k1 =>
   have H:=HA.out;clear HA;simp only [impl_numbersOk.l0] at H
   by_cases c2:x7_1<(l0.length:Int)
   ·rw [if_pos c2] at H;have c2b0:decide (x7_1<(l0.length:Int))=true:=decide_eq_true c2;clear c2
    by_cases c3:0≤x7_1
    ·rw [if_pos c3] at H;have c3b0:decide (0≤x7_1)=true:=decide_eq_true c3;clear c3
     by_cases c4:x7_1<(l0.length:Int)
     ·rw [if_pos c4] at H;have c4b0:decide (x7_1<(l0.length:Int))=true:=decide_eq_true c4;clear c4;obtain ⟨t454,A5,H⟩:=bI H;(try dsimp only at H)
      by_cases c6:t454=true
      ·subst c6;rw [if_pos rfl] at H;have H':=mA H;clear H;have p453:0≤(x7_1:Int):=of_decide_eq_true bA;have q453:x7_1<(l0.length:Int):=of_decide_eq_true bA;obtain ⟨ad453,e453,hx453_0⟩:=Kd.at_int HR0.out x7_1 p453 q453;cases e453;replace p453:=eq_true p453;replace q453:=eq_true q453
       go_wp2_with (first|((with_reducible refine gT 12 rfl ?_);refine gC (some 12) Try.func65 (impl_in.calls A5.out) ?_;rintro e w' ⟨rfl,⟨nd,rfl⟩⟩;refine ⟨_,rfl,?_⟩))
       go_roundg k1
       case measure=>have:=HK1.out;omega
       case rel=>exact ⟨(wrap64 (x7_1+1)),bZ,H',⟨by have:=HK1.out;omega⟩,by repeat (first|exact Drawn0.refl _|apply Drawn0.step)⟩
      ·replace c6:=Bool.eq_false_iff.mpr c6;subst c6
       rw [if_neg nFT] at H
       obtain rfl:=Option.some.inj H;have p453:0≤(x7_1:Int):=of_decide_eq_true bA;have q453:x7_1<(l0.length:Int):=of_decide_eq_true bA;obtain ⟨ad453,e453,hx453_0⟩:=Kd.at_int HR0.out x7_1 p453 q453;cases e453;replace p453:=eq_true p453;replace q453:=eq_true q453
       go_wp2_with (first|((with_reducible refine gT 12 rfl ?_);refine gC (some 12) Try.func65 (impl_in.calls A5.out) ?_;rintro e w' ⟨rfl,⟨nd,rfl⟩⟩;refine ⟨_,rfl,?_⟩))
       go_ret
       exact ⟨by first|rfl|(simp;done)|(simp [*];done),by repeat (first|exact Drawn0.refl _|apply Drawn0.step)⟩
     ·rw [if_neg c4] at H
      exact absurd H (by simp)
    ·rw [if_neg c3] at H
     exact absurd H (by simp)
   ·rw [if_neg c2] at H;have c2b0:decide (x7_1<(l0.length:Int))=false:=decide_eq_false c2;clear c2;obtain rfl:=Option.some.inj H
    go_wp2
    go_ret
    exact ⟨by first|rfl|(simp;done)|(simp [*];done),by repeat (first|exact Drawn0.refl _|apply Drawn0.step)⟩

/-! ### impl_cmdNumbers: function 140 -/
def impl_cmdNumbers.f (a0_0 a0_1 a0_2 a0_3 a0_4 a0_5 a0_6 a0_7 a0_8 a0_9 : Int) : Option (List Int) := some (([a0_0, a0_1, a0_2, a0_3, a0_4, a0_5, a0_6, a0_7, a0_8, a0_9] : List Int))
set_option maxHeartbeats 8000000 in
set_option maxRecDepth 100000 in
theorem impl_cmdNumbers.calls {a0_0 a0_1 a0_2 a0_3 a0_4 a0_5 a0_6 a0_7 a0_8 a0_9 : Int} {r : List Int} {w : World} (h : impl_cmdNumbers.f a0_0 a0_1 a0_2 a0_3 a0_4 a0_5 a0_6 a0_7 a0_8 a0_9 = some r) :
  Calls Try.prog 140 #[.agg #[.int .i64 a0_0,.int .i64 a0_1,.int .i64 a0_2,.int .i64 a0_3,.int .i64 a0_4,.int .i64 a0_5,.int .i64 a0_6,.int .i64 a0_7,.int .i64 a0_8,.int .i64 a0_9]] w fun e w'=>∃ v0_:Value,e=.returned (v0_)∧Kd.R (Kd.int .i64) 3 w' w.heap.size (fun _=>True) v0_ r∧Below w.heap.size w w':=by
 have hu44:=Try.underlying44;have HB:=mA (Below.refl w.heap.size w);have H:(some (([a0_0,a0_1,a0_2,a0_3,a0_4,a0_5,a0_6,a0_7,a0_8,a0_9]:List Int)))=some r:=h;clear h;obtain ⟨y456,hy456⟩:∃ y_:List Int,y_=(([a0_0,a0_1,a0_2,a0_3,a0_4,a0_5,a0_6,a0_7,a0_8,a0_9]:List Int)):=⟨_,rfl⟩
 replace H:(some y456)=some r:=qH hy456 H
 have Ny456:=mA hy456;clear hy456;obtain rfl:=Option.some.inj H
 go_enter Try.func140,Try.ntmps140
 go_wp2_with (first|((with_reducible refine gLg rfl (by assumption) ?_);refine ldV ?_)|((with_reducible refine gSt rfl (by assumption) ?_);refine stV ?_)|((with_reducible refine gT 1 rfl ?_);refine bX 1 ?_;intro gb455 hg w2 hbox hb;have BK455:=mA hbox;have GW455:=gbpB HB hg;have GE455:=gbpB HB hg;replace HB:=spB HB hb;clear hb hbox hg;have hcz3_0:=fun i_=>blk_cell BK455.out i_;have hfz3_0:=fun i_=>blk_frozen BK455.out i_)|((with_reducible refine gT 23 rfl ?_);refine Kd.R_lit (Kd.int .i64) _ 3 ?hg (N:=23) ?hd (xs:=([a0_0,a0_1,a0_2,a0_3,a0_4,a0_5,a0_6,a0_7,a0_8,a0_9]:List Int)) (inner:=[.int .i64 a0_0,.int .i64 a0_1,.int .i64 a0_2,.int .i64 a0_3,.int .i64 a0_4,.int .i64 a0_5,.int .i64 a0_6,.int .i64 a0_7,.int .i64 a0_8,.int .i64 a0_9]) (ok:=fun _=>True) (okp:=fun _=>True) ?hr ?hp (fun _ hk=>hk) trivial (Below.refl _ _) (Nat.le_refl _) (by simp) ?_;(case hd=>rfl);(case hg=>rfl);(case hr=>first|(go_simp;done)|(go_simp;rfl));(case hp=>exact (Reps.one (show Kd.M (Kd.int .i64) _ _ _ a0_0 [.int .i64 a0_0] from rfl) (Reps.one (show Kd.M (Kd.int .i64) _ _ _ a0_1 [.int .i64 a0_1] from rfl) (Reps.one (show Kd.M (Kd.int .i64) _ _ _ a0_2 [.int .i64 a0_2] from rfl) (Reps.one (show Kd.M (Kd.int .i64) _ _ _ a0_3 [.int .i64 a0_3] from rfl) (Reps.one (show Kd.M (Kd.int .i64) _ _ _ a0_4 [.int .i64 a0_4] from rfl) (Reps.one (show Kd.M (Kd.int .i64) _ _ _ a0_5 [.int .i64 a0_5] from rfl) (Reps.one (show Kd.M (Kd.int .i64) _ _ _ a0_6 [.int .i64 a0_6] from rfl) (Reps.one (show Kd.M (Kd.int .i64) _ _ _ a0_7 [.int .i64 a0_7] from rfl) (Reps.one (show Kd.M (Kd.int .i64) _ _ _ a0_8 [.int .i64 a0_8] from rfl) (Reps.one (show Kd.M (Kd.int .i64) _ _ _ a0_9 [.int .i64 a0_9] from rfl) (Reps.none _ _))))))))))));intro v457 w4 ho5 hb hg_ hnew_;clear hg_ hnew_;(first|rw [← Ny456.out] at ho5|(simp only [Int.reduceToNat] at ho5;rw [← Ny456.out] at ho5));have HO458:=mA (Kd.R_lower ho5 (bpS HB));replace BK455:=bK BK455 hb;replace HB:=spS HB hb;clear hb ho5))
 go_ret
 exact ⟨_,by first|rfl|(simp [errW_none,errW_some]<;>rfl)|(simp [*,errW_none,errW_some]<;>rfl),pR HO458.out,pS HB.out⟩

/-! ### impl_cmdOk: function 107 -/
def impl_cmdOk.f (k : Nat) (a0_0 a0_1 a0_2 a0_3 a0_4 a0_5 a0_6 a0_7 a0_8 a0_9 : Int) : Option (Bool) := (impl_in.f a0_0 0 7).bind fun t460 => (if t460 = true then ((impl_cmdNumbers.f a0_0 a0_1 a0_2 a0_3 a0_4 a0_5 a0_6 a0_7 a0_8 a0_9).bind fun t461 => ((impl_numbersOk.f k t461).bind fun t464 => (some t464))) else (some false))
theorem impl_cmdOk.mono : ∀ a0 a1 a2 a3 a4 a5 a6 a7 a8 a9 k, LeO (impl_cmdOk.f k a0 a1 a2 a3 a4 a5 a6 a7 a8 a9) (impl_cmdOk.f (k + 1) a0 a1 a2 a3 a4 a5 a6 a7 a8 a9) := by
 intro a0 a1 a2 a3 a4 a5 a6 a7 a8 a9 k
 unfold impl_cmdOk.f
 repeat' first
   | (with_reducible first|apply impl_numbersOk.mono|exact LeO.refl _|exact LeO.none _|refine LeO.ite ?_ ?_|refine LeO.bind ?_ (fun _=>?_))|exact LeO.none _|refine LeO.ite ?_ ?_|refine LeO.bind ?_ (fun _=>?_)
set_option maxHeartbeats 8000000 in
set_option maxRecDepth 100000 in
theorem impl_cmdOk.calls {k : Nat} {a0_0 a0_1 a0_2 a0_3 a0_4 a0_5 a0_6 a0_7 a0_8 a0_9 : Int} {r : Bool} {w : World} (h : impl_cmdOk.f k a0_0 a0_1 a0_2 a0_3 a0_4 a0_5 a0_6 a0_7 a0_8 a0_9 = some r) :
  Calls Try.prog 107 #[.agg #[.int .i64 a0_0,.int .i64 a0_1,.int .i64 a0_2,.int .i64 a0_3,.int .i64 a0_4,.int .i64 a0_5,.int .i64 a0_6,.int .i64 a0_7,.int .i64 a0_8,.int .i64 a0_9]] w fun e w'=>e=.returned (.bool r)∧Below w.heap.size w w':=by
 have hu44:=Try.underlying44;have HB:=mA (Below.refl w.heap.size w);have H:((impl_in.f a0_0 0 7).bind fun t460=>(if t460=true then ((impl_cmdNumbers.f a0_0 a0_1 a0_2 a0_3 a0_4 a0_5 a0_6 a0_7 a0_8 a0_9).bind fun t461=>((impl_numbersOk.f k t461).bind fun t464=>(some t464))) else (some false)))=some r:=h;clear h;obtain ⟨t460,A2,H⟩:=bI H;(try dsimp only at H)
 by_cases c3:t460=true
 ·subst c3;rw [if_pos rfl] at H;obtain ⟨t461,A4,H⟩:=bI H;(try dsimp only at H);obtain ⟨t464,A5,H⟩:=bI H;(try dsimp only at H);obtain rfl:=Option.some.inj H
  go_enter Try.func107,Try.ntmps107
  go_wp2_with (first|((with_reducible refine gLg rfl (by assumption) ?_);refine ldV ?_)|((with_reducible refine gSt rfl (by assumption) ?_);refine stV ?_)|((with_reducible refine gT 1 rfl ?_);refine bX 1 ?_;intro gb459 hg w6 hbox hb;have BK459:=mA hbox;have GW459:=gbpB HB hg;have GE459:=gbpB HB hg;replace HB:=spB HB hb;clear hb hbox hg;have hcz7_0:=fun i_=>blk_cell BK459.out i_;have hfz7_0:=fun i_=>blk_frozen BK459.out i_)|((with_reducible refine gT 5 rfl ?_);refine gC (some 5) Try.func65 (impl_in.calls A2.out) ?_;rintro e w' ⟨rfl,⟨nd,rfl⟩⟩;refine ⟨_,rfl,?_⟩)|(go_at_call 140;(with_reducible refine (impl_cmdNumbers.calls A4.out).mono ?_);rintro e w8 ⟨v462,rfl,ho0,hb⟩;have HO463:=mA (Kd.R_lower ho0 (bpS HB));replace BK459:=bK BK459 hb;replace HB:=spS HB hb;(try clear hb);(try clear ho0);obtain ⟨Ao9,co9,rfl⟩:=Kd.R_slice HO463.out)|(go_at_call 112;(with_reducible refine (impl_numbersOk.calls ?s1 ?s2 A5.out).mono ?_);(case s1=>exact cR HO463);(case s2=>exact cL HO463);rintro e w' ⟨rfl,⟨nd,rfl⟩⟩))
  go_ret
  exact rZ (pS HB.out)
 ·replace c3:=Bool.eq_false_iff.mpr c3;subst c3
  rw [if_neg nFT] at H
  obtain rfl:=Option.some.inj H
  go_enter Try.func107,Try.ntmps107
  go_wp2_with (first|((with_reducible refine gLg rfl (by assumption) ?_);refine ldV ?_)|((with_reducible refine gSt rfl (by assumption) ?_);refine stV ?_)|((with_reducible refine gT 1 rfl ?_);refine bX 1 ?_;intro gb459 hg w10 hbox hb;have BK459:=mA hbox;have GW459:=gbpB HB hg;have GE459:=gbpB HB hg;replace HB:=spB HB hb;clear hb hbox hg;have hcz11_0:=fun i_=>blk_cell BK459.out i_;have hfz11_0:=fun i_=>blk_frozen BK459.out i_)|((with_reducible refine gT 5 rfl ?_);refine gC (some 5) Try.func65 (impl_in.calls A2.out) ?_;rintro e w' ⟨rfl,⟨nd,rfl⟩⟩;refine ⟨_,rfl,?_⟩))
  go_ret
  exact rZ (pS HB.out)

/-! ### impl_paperOk: function 68 -/
def impl_paperOk.f (k : Nat) (a0_0 a0_1 a0_2 a0_3 a0_4 a0_5 a0_6 a0_7 a0_8 a0_9 a0_10 a0_11 : Int) : Option (Bool) := (impl_in.f a0_0 1 60).bind fun t466 => (if t466 = true then ((impl_in.f a0_1 1 99999).bind fun t467 => (if t467 = true then ((impl_cmdOk.f k a0_2 a0_3 a0_4 a0_5 a0_6 a0_7 a0_8 a0_9 a0_10 a0_11).bind fun t468 => (some t468)) else (some false))) else (some false))
theorem impl_paperOk.mono : ∀ a0 a1 a2 a3 a4 a5 a6 a7 a8 a9 a10 a11 k, LeO (impl_paperOk.f k a0 a1 a2 a3 a4 a5 a6 a7 a8 a9 a10 a11) (impl_paperOk.f (k + 1) a0 a1 a2 a3 a4 a5 a6 a7 a8 a9 a10 a11) := by
 intro a0 a1 a2 a3 a4 a5 a6 a7 a8 a9 a10 a11 k
 unfold impl_paperOk.f
 repeat' first
   | (with_reducible first|apply impl_cmdOk.mono|exact LeO.refl _|exact LeO.none _|refine LeO.ite ?_ ?_|refine LeO.bind ?_ (fun _=>?_))|exact LeO.none _|refine LeO.ite ?_ ?_|refine LeO.bind ?_ (fun _=>?_)
set_option maxHeartbeats 8000000 in
set_option maxRecDepth 100000 in
theorem impl_paperOk.calls {k : Nat} {a0_0 a0_1 a0_2 a0_3 a0_4 a0_5 a0_6 a0_7 a0_8 a0_9 a0_10 a0_11 : Int} {r : Bool} {w : World} (h : impl_paperOk.f k a0_0 a0_1 a0_2 a0_3 a0_4 a0_5 a0_6 a0_7 a0_8 a0_9 a0_10 a0_11 = some r) :
  Calls Try.prog 68 #[.agg #[.int .i64 a0_0,.int .i64 a0_1,.int .i64 a0_2,.int .i64 a0_3,.int .i64 a0_4,.int .i64 a0_5,.int .i64 a0_6,.int .i64 a0_7,.int .i64 a0_8,.int .i64 a0_9,.int .i64 a0_10,.int .i64 a0_11]] w fun e w'=>e=.returned (.bool r)∧Below w.heap.size w w':=by
 have hu53:=Try.underlying53;have hu44:=Try.underlying44;have HB:=mA (Below.refl w.heap.size w);have H:((impl_in.f a0_0 1 60).bind fun t466=>(if t466=true then ((impl_in.f a0_1 1 99999).bind fun t467=>(if t467=true then ((impl_cmdOk.f k a0_2 a0_3 a0_4 a0_5 a0_6 a0_7 a0_8 a0_9 a0_10 a0_11).bind fun t468=>(some t468)) else (some false))) else (some false)))=some r:=h;clear h;obtain ⟨t466,A2,H⟩:=bI H;(try dsimp only at H)
 by_cases c3:t466=true
 ·subst c3;rw [if_pos rfl] at H;obtain ⟨t467,A4,H⟩:=bI H;(try dsimp only at H)
  by_cases c5:t467=true
  ·subst c5;rw [if_pos rfl] at H;obtain ⟨t468,A6,H⟩:=bI H;(try dsimp only at H);obtain rfl:=Option.some.inj H
   go_enter Try.func68,Try.ntmps68
   go_wp2_with (first|((with_reducible refine gLg rfl (by assumption) ?_);refine ldV ?_)|((with_reducible refine gSt rfl (by assumption) ?_);refine stV ?_)|((with_reducible refine gT 1 rfl ?_);refine bX 1 ?_;intro gb465 hg w7 hbox hb;have BK465:=mA hbox;have GW465:=gbpB HB hg;have GE465:=gbpB HB hg;replace HB:=spB HB hb;clear hb hbox hg;have hcz8_0:=fun i_=>blk_cell BK465.out i_;have hfz8_0:=fun i_=>blk_frozen BK465.out i_)|((with_reducible refine gT 5 rfl ?_);refine gC (some 5) Try.func65 (impl_in.calls A2.out) ?_;rintro e w' ⟨rfl,⟨nd,rfl⟩⟩;refine ⟨_,rfl,?_⟩)|(go_at_call 65;(with_reducible refine (impl_in.calls A4.out).mono ?_);rintro e w' ⟨rfl,⟨nd,rfl⟩⟩)|(go_at_call 107;(with_reducible refine (impl_cmdOk.calls A6.out).mono ?_);rintro e w9 ⟨rfl,hb⟩;replace BK465:=bK BK465 hb;replace HB:=spS HB hb;(try clear hb)))
   go_ret
   exact rZ (pS HB.out)
  ·replace c5:=Bool.eq_false_iff.mpr c5;subst c5
   rw [if_neg nFT] at H
   obtain rfl:=Option.some.inj H
   go_enter Try.func68,Try.ntmps68
   go_wp2_with (first|((with_reducible refine gLg rfl (by assumption) ?_);refine ldV ?_)|((with_reducible refine gSt rfl (by assumption) ?_);refine stV ?_)|((with_reducible refine gT 1 rfl ?_);refine bX 1 ?_;intro gb465 hg w10 hbox hb;have BK465:=mA hbox;have GW465:=gbpB HB hg;have GE465:=gbpB HB hg;replace HB:=spB HB hb;clear hb hbox hg;have hcz11_0:=fun i_=>blk_cell BK465.out i_;have hfz11_0:=fun i_=>blk_frozen BK465.out i_)|((with_reducible refine gT 5 rfl ?_);refine gC (some 5) Try.func65 (impl_in.calls A2.out) ?_;rintro e w' ⟨rfl,⟨nd,rfl⟩⟩;refine ⟨_,rfl,?_⟩)|(go_at_call 65;(with_reducible refine (impl_in.calls A4.out).mono ?_);rintro e w' ⟨rfl,⟨nd,rfl⟩⟩))
   go_ret
   exact rZ (pS HB.out)
 ·replace c3:=Bool.eq_false_iff.mpr c3;subst c3
  rw [if_neg nFT] at H
  obtain rfl:=Option.some.inj H
  go_enter Try.func68,Try.ntmps68
  go_wp2_with (first|((with_reducible refine gLg rfl (by assumption) ?_);refine ldV ?_)|((with_reducible refine gSt rfl (by assumption) ?_);refine stV ?_)|((with_reducible refine gT 1 rfl ?_);refine bX 1 ?_;intro gb465 hg w12 hbox hb;have BK465:=mA hbox;have GW465:=gbpB HB hg;have GE465:=gbpB HB hg;replace HB:=spB HB hb;clear hb hbox hg;have hcz13_0:=fun i_=>blk_cell BK465.out i_;have hfz13_0:=fun i_=>blk_frozen BK465.out i_)|((with_reducible refine gT 5 rfl ?_);refine gC (some 5) Try.func65 (impl_in.calls A2.out) ?_;rintro e w' ⟨rfl,⟨nd,rfl⟩⟩;refine ⟨_,rfl,?_⟩))
  go_ret
  exact rZ (pS HB.out)

end Go.Proofs.Ytncohokalilnbaa.P
