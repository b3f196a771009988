-- printed by pprint.py (this session's program over the kit's printer) out of the translation. Lean checks it.
import Derived.Test.YtncohokalilnbaaPx0
import Derived.Test.YtncohokalilnbaaPx1
import Derived.Test.YtncohokalilnbaaPx2
import Derived.Test.YtncohokalilnbaaPx8
namespace Go.Proofs.Ytncohokalilnbaa.P
open Go.RowKit Go.Proofs.YtncohokalilnbaaX Go.Proofs.YtncohokalilnbaaW.PrintWords Go.Proofs.YtncohokalilnbaaW.PrintLast Go.Proofs.YtncohokalilnbaaW.PrintMore
attribute [local go_sem] max2_int min2_int max_two min_two max_three min_three max_four min_four   -- for this text's walks alone
set_option linter.unusedVariables false
set_option linter.unusedSimpArgs false

attribute [local go_sem high] eqA44 eqA53
/-! ### impl_SynVoterOk: function 64 -/
def impl_SynVoterOk.l0 : Nat → List (S53) → Int → Int → Int → List (S53) → Option (Bool)
 | 0,_,_,_,_,_=>none
 | k+1,x6,x7,x8,x470000,x470001=>if x8<x7 then (if 0≤x8 then (if x8<(x6.length:Int) then ((impl_paperOk.f k ((rd_T53 x6 x8).f0) ((rd_T53 x6 x8).f1) ((rd_T53 x6 x8).f2.f0) ((rd_T53 x6 x8).f2.f1) ((rd_T53 x6 x8).f2.f2) ((rd_T53 x6 x8).f2.f3) ((rd_T53 x6 x8).f2.f4) ((rd_T53 x6 x8).f2.f5) ((rd_T53 x6 x8).f2.f6) ((rd_T53 x6 x8).f2.f7) ((rd_T53 x6 x8).f2.f8) ((rd_T53 x6 x8).f2.f9)).bind fun t472=>(if t472=true then (if ((rd_T53 x6 x8).f1) > x470000 then (some false) else (if x8 > 0 then (if 0≤(wrap64 (x8 - 1)) then (if (wrap64 (x8 - 1))<(x470001.length:Int) then (if ((rd_T53 x470001 (wrap64 (x8 - 1))).f0) ≥ ((rd_T53 x6 x8).f0) then (some false) else (impl_SynVoterOk.l0 k x6 x7 (wrap64 (x8+1)) x470000 x470001)) else (none)) else (none)) else (impl_SynVoterOk.l0 k x6 x7 (wrap64 (x8+1)) x470000 x470001))) else (some false))) else (none)) else (none)) else ((impl_in.f x470000 0 99999).bind fun t474=>(if t474=true then (some (decide ((x470001.length:Int)≤60))) else (some false)))
def impl_SynVoterOk.f (k : Nat) (a0_0 : Int) (l0_1 : List (S53)) : Option (Bool) := impl_SynVoterOk.l0 k l0_1 (l0_1.length : Int) 0 a0_0 l0_1
theorem impl_SynVoterOk.mono_l : ∀ k, (∀ y0 y1 y2 y3 y4, LeO (impl_SynVoterOk.l0 k y0 y1 y2 y3 y4) (impl_SynVoterOk.l0 (k + 1) y0 y1 y2 y3 y4))
 | 0=>fun _ _ _ _ _ r h=>by simp [impl_SynVoterOk.l0] at h
 | k+1=>by
  have ih0:=impl_SynVoterOk.mono_l k
  ·intros
   unfold impl_SynVoterOk.l0
   repeat' first
   | (with_reducible first|apply ih0|apply impl_paperOk.mono|exact LeO.refl _|exact LeO.none _|refine LeO.ite ?_ ?_|refine LeO.bind ?_ (fun _=>?_))|exact LeO.none _|refine LeO.ite ?_ ?_|refine LeO.bind ?_ (fun _=>?_)
theorem impl_SynVoterOk.mono : ∀ a0 a1 k, LeO (impl_SynVoterOk.f k a0 a1) (impl_SynVoterOk.f (k + 1) a0 a1) := by
 intro a0 a1 k;have ih0:=impl_SynVoterOk.mono_l k
 unfold impl_SynVoterOk.f
 repeat' first
   | (with_reducible first|apply ih0|apply impl_paperOk.mono|exact LeO.refl _|exact LeO.none _|refine LeO.ite ?_ ?_|refine LeO.bind ?_ (fun _=>?_))|exact LeO.none _|refine LeO.ite ?_ ?_|refine LeO.bind ?_ (fun _=>?_)
def impl_SynVoterOk.T4 : Bool × List (List Nat × List Nat) := (true, [([], []), ([0], [0]), ([1], [1]), ([2, 1], [2]), ([3], [3]), ([4, 3], [3, 4]), ([3], [3]), ([6, 3], [3, 6]), ([5, 7, 3], [3, 5, 7]), ([3, 8], [3, 8]), ([9, 3], [9]), ([10], [10]), ([11, 10], [10, 11]), ([12, 10, 10], [10, 12]), ([13], [13]), ([14, 13], [13, 14]), ([13], [13]), ([16, 13], [13, 16]), ([15, 17, 13], [13, 15, 17]), ([18, 13], [13, 18]), ([19, 13], [13, 19]), ([13], [13]), ([21, 13], [13, 21]), ([20, 22, 13], [13, 20, 22]), ([13, 23, 10], [10, 13, 23]), ([10, 24], [10, 24])])
def impl_SynVoterOk.B4 : List Nat := [0, 1, 3, 7, 15, 31, 15, 79, 255, 511, 1023, 2047, 4095, 8191, 16383, 32767, 16383, 81919, 262143, 524287, 1048575, 16383, 2113535, 8388607, 16777215, 33554431]
theorem impl_SynVoterOk.tab4 : rtab .any (opsOf Try.f64 4) = impl_SynVoterOk.T4 := by kernel_rfl
theorem impl_SynVoterOk.bits4 : waitsOk impl_SynVoterOk.T4.2 impl_SynVoterOk.B4 = true := by kernel_rfl
set_option maxHeartbeats 8000000 in
set_option maxRecDepth 100000 in
theorem impl_SynVoterOk.calls {k : Nat} {a0_0 : Int} {A0_1 : Option Addr} {c0_1 : Nat} {l0_1 : List (S53)} {r : Bool} {w : World} (hr0_1 : Kd.C k53 w A0_1 l0_1.length l0_1) (hc0_1 : l0_1.length ≤ c0_1) (h : impl_SynVoterOk.f k a0_0 l0_1 = some r) :
  Calls Try.prog 64 #[.agg #[.int .i64 a0_0,.slice A0_1 l0_1.length c0_1]] w fun e w'=>e=.returned (.bool r)∧Below w.heap.size w w':=by
 have hu84:=Try.underlying84;have hu53:=Try.underlying53;have HR0_1:=mA hr0_1;have HC0_1:=mA hc0_1;clear hr0_1 hc0_1;have HB:=mA (Below.refl w.heap.size w);have H:(impl_SynVoterOk.l0 k l0_1 (l0_1.length:Int) 0 a0_0 l0_1)=some r:=h;clear h;have H':=mA H;clear H
 go_enter Try.func64,Try.ntmps64
 go_wp2_with (first|((with_reducible refine gLg rfl (by assumption) ?_);first|refine ldW ?_|refine ldX ?_)|((with_reducible refine gLg rfl (by assumption) ?_);refine ldV ?_)|((with_reducible refine gSt rfl (by assumption) ?_);refine stV ?_)|((with_reducible refine gT 1 rfl ?_);(try (refine gate_guard (by rfl) ?_;dsimp only));refine bE 1 #[.int .i64 a0_0,.slice A0_1 l0_1.length c0_1] 84 ?_;intro gb469 hg w2 hbox hb;have BK469:=mA hbox;have GW469:=gbpB HB hg;have GE469:=gbpB HB hg;replace HB:=spB HB hb;clear hb hbox hg;obtain ⟨hcz3_0,hcz3_1,hfz3_0,hfz3_1⟩:=box2 BK469.out))
 go_loopg [8] k (fun kq v8 w'=>∃ (x8_1:Int),v8=.int .i64 x8_1∧Aside0 (impl_SynVoterOk.l0 kq l0_1 (l0_1.length:Int) x8_1 a0_0 l0_1=some r)∧Aside0 (kq≤k)∧Aside0 (w'.heap[gb469]?=some (.cells #[.int .i64 a0_0,(.slice A0_1 l0_1.length c0_1)] 84 (0,0)))∧Aside0 (Below w.heap.size w w'))
 case atStart=>exact ⟨(0),bZ,H',⟨Nat.le_refl _⟩,⟨pK BK469.out⟩,⟨pS HB.out⟩⟩
 case round =>
  clear H'
  (try clear hcz3_0);(try clear hcz3_1);(try clear hfz3_0);(try clear hfz3_1)
  obtain ⟨x8_1,rfl,HA,HK1,BK469,HB⟩:=hrel
  cases gk with
  | zero=>exact absurd HA.out (by simp [impl_SynVoterOk.l0])
  | succ k1 =>
   have H:=HA.out;clear HA;simp only [impl_SynVoterOk.l0] at H
   by_cases c4:x8_1<(l0_1.length:Int)
   ·rw [if_pos c4] at H;have c4b0:decide (x8_1<(l0_1.length:Int))=true:=decide_eq_true c4;clear c4
    by_cases c5:0≤x8_1
    ·rw [if_pos c5] at H;have c5b0:decide (0≤x8_1)=true:=decide_eq_true c5;clear c5
     by_cases c6:x8_1<(l0_1.length:Int)
     ·rw [if_pos c6] at H;have c6b0:decide (x8_1<(l0_1.length:Int))=true:=decide_eq_true c6;clear c6;obtain ⟨t472,A7,H⟩:=bI H;(try dsimp only at H)
      by_cases c8:t472=true
      ·subst c8;rw [if_pos rfl] at H
       by_cases c9:((rd_T53 l0_1 x8_1).f1) > a0_0
       ·rw [if_pos c9] at H;have c9b0:decide (a0_0<((rd_T53 l0_1 x8_1).f1))=true:=decide_eq_true c9;clear c9;obtain rfl:=Option.some.inj H;have p470:0≤(x8_1:Int):=of_decide_eq_true bA;have q470:x8_1<(l0_1.length:Int):=of_decide_eq_true bA;obtain ⟨ad470,e470,hs470⟩:=at_R53 HR0_1.out x8_1 p470 q470;have hx470_0:=RS.hd hs470 rfl;cases e470;replace hx470_0:=hC HB hx470_0;replace hs470:=rS HB hs470;replace p470:=eq_true p470;replace q470:=eq_true q470
        try go_wp2_with (first|((with_reducible refine gLg rfl (by assumption) ?_);first|refine ldW ?_|refine ldX ?_)|((with_reducible refine gLg rfl (by assumption) ?_);refine ldV ?_)|((with_reducible refine gSt rfl (by assumption) ?_);refine stV ?_)|((with_reducible refine gT 4 rfl ?_);(try (refine gate_guard (by rfl) ?_;dsimp only));refine bJ 4 y53 ?_;intro gb471 hg w10 hbox hb;have BK471:=mA hbox;have GW471:=gbpS HB hg;have GE471:=gbpS HB hg;replace HB:=spS HB hb;have NB469_471:=mA (lN (blk_lt (pK BK469.out)) hg);have hN469_471:=NB469_471.out;have NB471_469:=nS NB469_471;have hN471_469:=NB471_469.out;replace BK469:=bK BK469 hb;clear hb hbox hg;have hcz12_0:=fun i_=>blk_cell BK471.out i_;have hfz12_0:=fun i_=>blk_frozen BK471.out i_))
        have n0_:Aside0 (((((((((((((w10.setCell ⟨gb471,0,none⟩ (.int .i64 ((rd_T53 l0_1 x8_1).f0))).setCell ⟨gb471,1,none⟩ (.int .i64 ((rd_T53 l0_1 x8_1).f1))).setCell ⟨gb471,2,none⟩ (.int .i64 ((rd_T53 l0_1 x8_1).f2.f0))).setCell ⟨gb471,3,none⟩ (.int .i64 ((rd_T53 l0_1 x8_1).f2.f1))).setCell ⟨gb471,4,none⟩ (.int .i64 ((rd_T53 l0_1 x8_1).f2.f2))).setCell ⟨gb471,5,none⟩ (.int .i64 ((rd_T53 l0_1 x8_1).f2.f3))).setCell ⟨gb471,6,none⟩ (.int .i64 ((rd_T53 l0_1 x8_1).f2.f4))).setCell ⟨gb471,7,none⟩ (.int .i64 ((rd_T53 l0_1 x8_1).f2.f5))).setCell ⟨gb471,8,none⟩ (.int .i64 ((rd_T53 l0_1 x8_1).f2.f6))).setCell ⟨gb471,9,none⟩ (.int .i64 ((rd_T53 l0_1 x8_1).f2.f7))).setCell ⟨gb471,10,none⟩ (.int .i64 ((rd_T53 l0_1 x8_1).f2.f8))).setCell ⟨gb471,11,none⟩ (.int .i64 ((rd_T53 l0_1 x8_1).f2.f9))).heap[gb469]?=some (.cells #[.int .i64 a0_0,.slice (some ad470) l0_1.length c0_1] 84 (0,0))):=⟨pF BK469.out⟩
        have n1_:Aside0 (((((((((((((w10.setCell ⟨gb471,0,none⟩ (.int .i64 ((rd_T53 l0_1 x8_1).f0))).setCell ⟨gb471,1,none⟩ (.int .i64 ((rd_T53 l0_1 x8_1).f1))).setCell ⟨gb471,2,none⟩ (.int .i64 ((rd_T53 l0_1 x8_1).f2.f0))).setCell ⟨gb471,3,none⟩ (.int .i64 ((rd_T53 l0_1 x8_1).f2.f1))).setCell ⟨gb471,4,none⟩ (.int .i64 ((rd_T53 l0_1 x8_1).f2.f2))).setCell ⟨gb471,5,none⟩ (.int .i64 ((rd_T53 l0_1 x8_1).f2.f3))).setCell ⟨gb471,6,none⟩ (.int .i64 ((rd_T53 l0_1 x8_1).f2.f4))).setCell ⟨gb471,7,none⟩ (.int .i64 ((rd_T53 l0_1 x8_1).f2.f5))).setCell ⟨gb471,8,none⟩ (.int .i64 ((rd_T53 l0_1 x8_1).f2.f6))).setCell ⟨gb471,9,none⟩ (.int .i64 ((rd_T53 l0_1 x8_1).f2.f7))).setCell ⟨gb471,10,none⟩ (.int .i64 ((rd_T53 l0_1 x8_1).f2.f8))).setCell ⟨gb471,11,none⟩ (.int .i64 ((rd_T53 l0_1 x8_1).f2.f9))).heap[gb471]?=some (.cells #[.int .i64 ((rd_T53 l0_1 x8_1).f0),.int .i64 ((rd_T53 l0_1 x8_1).f1),.int .i64 ((rd_T53 l0_1 x8_1).f2.f0),.int .i64 ((rd_T53 l0_1 x8_1).f2.f1),.int .i64 ((rd_T53 l0_1 x8_1).f2.f2),.int .i64 ((rd_T53 l0_1 x8_1).f2.f3),.int .i64 ((rd_T53 l0_1 x8_1).f2.f4),.int .i64 ((rd_T53 l0_1 x8_1).f2.f5),.int .i64 ((rd_T53 l0_1 x8_1).f2.f6),.int .i64 ((rd_T53 l0_1 x8_1).f2.f7),.int .i64 ((rd_T53 l0_1 x8_1).f2.f8),.int .i64 ((rd_T53 l0_1 x8_1).f2.f9)] 53 (0,0))):=⟨pP BK471⟩
        have n2_:Aside0 (Below w.heap.size w ((((((((((((w10.setCell ⟨gb471,0,none⟩ (.int .i64 ((rd_T53 l0_1 x8_1).f0))).setCell ⟨gb471,1,none⟩ (.int .i64 ((rd_T53 l0_1 x8_1).f1))).setCell ⟨gb471,2,none⟩ (.int .i64 ((rd_T53 l0_1 x8_1).f2.f0))).setCell ⟨gb471,3,none⟩ (.int .i64 ((rd_T53 l0_1 x8_1).f2.f1))).setCell ⟨gb471,4,none⟩ (.int .i64 ((rd_T53 l0_1 x8_1).f2.f2))).setCell ⟨gb471,5,none⟩ (.int .i64 ((rd_T53 l0_1 x8_1).f2.f3))).setCell ⟨gb471,6,none⟩ (.int .i64 ((rd_T53 l0_1 x8_1).f2.f4))).setCell ⟨gb471,7,none⟩ (.int .i64 ((rd_T53 l0_1 x8_1).f2.f5))).setCell ⟨gb471,8,none⟩ (.int .i64 ((rd_T53 l0_1 x8_1).f2.f6))).setCell ⟨gb471,9,none⟩ (.int .i64 ((rd_T53 l0_1 x8_1).f2.f7))).setCell ⟨gb471,10,none⟩ (.int .i64 ((rd_T53 l0_1 x8_1).f2.f8))).setCell ⟨gb471,11,none⟩ (.int .i64 ((rd_T53 l0_1 x8_1).f2.f9)))):=⟨pS HB.out⟩
        (try clear BK469);(try clear BK471);(try clear HB)
        generalize ((((((((((((w10.setCell ⟨gb471,0,none⟩ (.int .i64 ((rd_T53 l0_1 x8_1).f0))).setCell ⟨gb471,1,none⟩ (.int .i64 ((rd_T53 l0_1 x8_1).f1))).setCell ⟨gb471,2,none⟩ (.int .i64 ((rd_T53 l0_1 x8_1).f2.f0))).setCell ⟨gb471,3,none⟩ (.int .i64 ((rd_T53 l0_1 x8_1).f2.f1))).setCell ⟨gb471,4,none⟩ (.int .i64 ((rd_T53 l0_1 x8_1).f2.f2))).setCell ⟨gb471,5,none⟩ (.int .i64 ((rd_T53 l0_1 x8_1).f2.f3))).setCell ⟨gb471,6,none⟩ (.int .i64 ((rd_T53 l0_1 x8_1).f2.f4))).setCell ⟨gb471,7,none⟩ (.int .i64 ((rd_T53 l0_1 x8_1).f2.f5))).setCell ⟨gb471,8,none⟩ (.int .i64 ((rd_T53 l0_1 x8_1).f2.f6))).setCell ⟨gb471,9,none⟩ (.int .i64 ((rd_T53 l0_1 x8_1).f2.f7))).setCell ⟨gb471,10,none⟩ (.int .i64 ((rd_T53 l0_1 x8_1).f2.f8))).setCell ⟨gb471,11,none⟩ (.int .i64 ((rd_T53 l0_1 x8_1).f2.f9)))=w13 at n0_ n1_ n2_ ⊢
        have BK469:=n0_;have BK471:=n1_;have HB:=n2_;clear n0_ n1_ n2_;replace BK469:=mA (blk_drew BK469.out);replace BK471:=mA (blk_drew BK471.out);replace HB:=mA (below_drew1 HB.out)
        refine start_ (n:=26) (S:=fun w'=>w'.heap[gb471]?=some (.cells #[.int .i64 ((rd_T53 l0_1 x8_1).f0),.int .i64 ((rd_T53 l0_1 x8_1).f1),.int .i64 ((rd_T53 l0_1 x8_1).f2.f0),.int .i64 ((rd_T53 l0_1 x8_1).f2.f1),.int .i64 ((rd_T53 l0_1 x8_1).f2.f2),.int .i64 ((rd_T53 l0_1 x8_1).f2.f3),.int .i64 ((rd_T53 l0_1 x8_1).f2.f4),.int .i64 ((rd_T53 l0_1 x8_1).f2.f5),.int .i64 ((rd_T53 l0_1 x8_1).f2.f6),.int .i64 ((rd_T53 l0_1 x8_1).f2.f7),.int .i64 ((rd_T53 l0_1 x8_1).f2.f8),.int .i64 ((rd_T53 l0_1 x8_1).f2.f9)] 53 (0,0))∧w'.heap[gb469]?=some (.cells #[.int .i64 a0_0,.slice (some ad470) l0_1.length c0_1] 84 (0,0))) (ds:=[]) _ aK rfl rfl ⟨BK471.out,BK469.out⟩ (fun hHeld=>?_);refine with_tabW impl_SynVoterOk.tab4 impl_SynVoterOk.bits4 (fun HT_ HW_=>?_)
        generalize w13.drew=w14 at BK469 BK471 HB hHeld ⊢
        refine qt 0 ?_
        refine qo 1 ?_;intro K hK
        refine gD Try.func68 (impl_paperOk.calls A7.out) ?_
        rintro e w15 ⟨rfl,hb⟩;refine ⟨_,rfl,?_⟩;replace BK469:=bK BK469 hb;replace BK471:=bK BK471 hb;replace HB:=spS HB hb
        (try clear hb)
        refine hK.out _ _ ⟨BK471.out,BK469.out⟩ (fun hHeld=>?_);clear hK K;refine no_ (some 14) ?_;refine qu 2 ?_;refine qu 3 ?_;refine qu 4 ?_;refine qu 6 ?_;refine qt 5 ?_;refine qt 7 ?_;refine qu 8 ?_;refine qu 9 ?_;refine qu 10 ?_;refine qd 11 ?_;refine qd 12 ?_;refine qd 13 ?_;refine qd 14 ?_;refine qd 15 ?_;refine qd 16 ?_;refine qd 17 ?_;refine qd 18 ?_;refine qd 19 ?_;refine qd 20 ?_;refine qd 21 ?_;refine qd 22 ?_;refine qd 23 ?_;refine qd 24 ?_;refine qu 25 ?_;refine qe ?_
        try go_wp2_with (first|((with_reducible refine gLg rfl (by assumption) ?_);first|refine ldW ?_|refine ldX ?_)|((with_reducible refine gLg rfl (by assumption) ?_);refine ldV ?_)|((with_reducible refine gSt rfl (by assumption) ?_);refine stV ?_))
        go_ret
        exact rZ (pS HB.out)
       ·rw [if_neg c9] at H;have c9b0:decide (a0_0<((rd_T53 l0_1 x8_1).f1))=false:=decide_eq_false c9;clear c9
        by_cases c16:x8_1 > 0
        ·rw [if_pos c16] at H;have c16b0:decide (0<x8_1)=true:=decide_eq_true c16;clear c16;obtain ⟨ji17,hji17⟩:∃ j_:Int,(wrap64 (x8_1 - 1))=j_:=⟨_,rfl⟩
         replace H:(if 0≤(ji17) then (if (ji17)<(l0_1.length:Int) then (if ((rd_T53 l0_1 (ji17)).f0) ≥ ((rd_T53 l0_1 x8_1).f0) then (some false) else (impl_SynVoterOk.l0 k1 l0_1 (l0_1.length:Int) (wrap64 (x8_1+1)) a0_0 l0_1)) else (none)) else (none))=some r:=by first|(rw [hji17] at H;exact H)|(simp only [hji17] at H ⊢;exact H)
         (try rw [hji17] at A7)
         have hji17w:(IntKind.i64.wrap (x8_1 - 1))=ji17:=(i64_w _).trans hji17
         by_cases c18:0≤(ji17)
         ·rw [if_pos c18] at H;have c18b0:decide (0≤(ji17))=true:=decide_eq_true c18;clear c18
          by_cases c19:(ji17)<(l0_1.length:Int)
          ·rw [if_pos c19] at H;have c19b0:decide ((ji17)<(l0_1.length:Int))=true:=decide_eq_true c19;clear c19
           by_cases c20:((rd_T53 l0_1 (ji17)).f0) ≥ ((rd_T53 l0_1 x8_1).f0)
           ·rw [if_pos c20] at H;have c20b0:decide (((rd_T53 l0_1 x8_1).f0)≤((rd_T53 l0_1 (ji17)).f0))=true:=decide_eq_true c20;clear c20;obtain rfl:=Option.some.inj H;have p470:0≤(x8_1:Int):=of_decide_eq_true bA;have q470:x8_1<(l0_1.length:Int):=of_decide_eq_true bA;obtain ⟨ad470,e470,hs470⟩:=at_R53 HR0_1.out x8_1 p470 q470;have hx470_0:=RS.hd hs470 rfl;cases e470;replace hx470_0:=hC HB hx470_0;replace hs470:=rS HB hs470;replace p470:=eq_true p470;replace q470:=eq_true q470
            try go_wp2_with (first|((with_reducible refine gLg rfl (by assumption) ?_);first|refine ldW ?_|refine ldX ?_)|((with_reducible refine gLg rfl (by assumption) ?_);refine ldV ?_)|((with_reducible refine gSt rfl (by assumption) ?_);refine stV ?_)|((with_reducible refine gT 4 rfl ?_);(try (refine gate_guard (by rfl) ?_;dsimp only));refine bJ 4 y53 ?_;intro gb471 hg w21 hbox hb;have BK471:=mA hbox;have GW471:=gbpS HB hg;have GE471:=gbpS HB hg;replace HB:=spS HB hb;have NB469_471:=mA (lN (blk_lt (pK BK469.out)) hg);have hN469_471:=NB469_471.out;have NB471_469:=nS NB469_471;have hN471_469:=NB471_469.out;replace BK469:=bK BK469 hb;clear hb hbox hg;have hcz23_0:=fun i_=>blk_cell BK471.out i_;have hfz23_0:=fun i_=>blk_frozen BK471.out i_))
            have n0_:Aside0 (((((((((((((w21.setCell ⟨gb471,0,none⟩ (.int .i64 ((rd_T53 l0_1 x8_1).f0))).setCell ⟨gb471,1,none⟩ (.int .i64 ((rd_T53 l0_1 x8_1).f1))).setCell ⟨gb471,2,none⟩ (.int .i64 ((rd_T53 l0_1 x8_1).f2.f0))).setCell ⟨gb471,3,none⟩ (.int .i64 ((rd_T53 l0_1 x8_1).f2.f1))).setCell ⟨gb471,4,none⟩ (.int .i64 ((rd_T53 l0_1 x8_1).f2.f2))).setCell ⟨gb471,5,none⟩ (.int .i64 ((rd_T53 l0_1 x8_1).f2.f3))).setCell ⟨gb471,6,none⟩ (.int .i64 ((rd_T53 l0_1 x8_1).f2.f4))).setCell ⟨gb471,7,none⟩ (.int .i64 ((rd_T53 l0_1 x8_1).f2.f5))).setCell ⟨gb471,8,none⟩ (.int .i64 ((rd_T53 l0_1 x8_1).f2.f6))).setCell ⟨gb471,9,none⟩ (.int .i64 ((rd_T53 l0_1 x8_1).f2.f7))).setCell ⟨gb471,10,none⟩ (.int .i64 ((rd_T53 l0_1 x8_1).f2.f8))).setCell ⟨gb471,11,none⟩ (.int .i64 ((rd_T53 l0_1 x8_1).f2.f9))).heap[gb469]?=some (.cells #[.int .i64 a0_0,.slice (some ad470) l0_1.length c0_1] 84 (0,0))):=⟨pF BK469.out⟩
            have n1_:Aside0 (((((((((((((w21.setCell ⟨gb471,0,none⟩ (.int .i64 ((rd_T53 l0_1 x8_1).f0))).setCell ⟨gb471,1,none⟩ (.int .i64 ((rd_T53 l0_1 x8_1).f1))).setCell ⟨gb471,2,none⟩ (.int .i64 ((rd_T53 l0_1 x8_1).f2.f0))).setCell ⟨gb471,3,none⟩ (.int .i64 ((rd_T53 l0_1 x8_1).f2.f1))).setCell ⟨gb471,4,none⟩ (.int .i64 ((rd_T53 l0_1 x8_1).f2.f2))).setCell ⟨gb471,5,none⟩ (.int .i64 ((rd_T53 l0_1 x8_1).f2.f3))).setCell ⟨gb471,6,none⟩ (.int .i64 ((rd_T53 l0_1 x8_1).f2.f4))).setCell ⟨gb471,7,none⟩ (.int .i64 ((rd_T53 l0_1 x8_1).f2.f5))).setCell ⟨gb471,8,none⟩ (.int .i64 ((rd_T53 l0_1 x8_1).f2.f6))).setCell ⟨gb471,9,none⟩ (.int .i64 ((rd_T53 l0_1 x8_1).f2.f7))).setCell ⟨gb471,10,none⟩ (.int .i64 ((rd_T53 l0_1 x8_1).f2.f8))).setCell ⟨gb471,11,none⟩ (.int .i64 ((rd_T53 l0_1 x8_1).f2.f9))).heap[gb471]?=some (.cells #[.int .i64 ((rd_T53 l0_1 x8_1).f0),.int .i64 ((rd_T53 l0_1 x8_1).f1),.int .i64 ((rd_T53 l0_1 x8_1).f2.f0),.int .i64 ((rd_T53 l0_1 x8_1).f2.f1),.int .i64 ((rd_T53 l0_1 x8_1).f2.f2),.int .i64 ((rd_T53 l0_1 x8_1).f2.f3),.int .i64 ((rd_T53 l0_1 x8_1).f2.f4),.int .i64 ((rd_T53 l0_1 x8_1).f2.f5),.int .i64 ((rd_T53 l0_1 x8_1).f2.f6),.int .i64 ((rd_T53 l0_1 x8_1).f2.f7),.int .i64 ((rd_T53 l0_1 x8_1).f2.f8),.int .i64 ((rd_T53 l0_1 x8_1).f2.f9)] 53 (0,0))):=⟨pP BK471⟩
            have n2_:Aside0 (Below w.heap.size w ((((((((((((w21.setCell ⟨gb471,0,none⟩ (.int .i64 ((rd_T53 l0_1 x8_1).f0))).setCell ⟨gb471,1,none⟩ (.int .i64 ((rd_T53 l0_1 x8_1).f1))).setCell ⟨gb471,2,none⟩ (.int .i64 ((rd_T53 l0_1 x8_1).f2.f0))).setCell ⟨gb471,3,none⟩ (.int .i64 ((rd_T53 l0_1 x8_1).f2.f1))).setCell ⟨gb471,4,none⟩ (.int .i64 ((rd_T53 l0_1 x8_1).f2.f2))).setCell ⟨gb471,5,none⟩ (.int .i64 ((rd_T53 l0_1 x8_1).f2.f3))).setCell ⟨gb471,6,none⟩ (.int .i64 ((rd_T53 l0_1 x8_1).f2.f4))).setCell ⟨gb471,7,none⟩ (.int .i64 ((rd_T53 l0_1 x8_1).f2.f5))).setCell ⟨gb471,8,none⟩ (.int .i64 ((rd_T53 l0_1 x8_1).f2.f6))).setCell ⟨gb471,9,none⟩ (.int .i64 ((rd_T53 l0_1 x8_1).f2.f7))).setCell ⟨gb471,10,none⟩ (.int .i64 ((rd_T53 l0_1 x8_1).f2.f8))).setCell ⟨gb471,11,none⟩ (.int .i64 ((rd_T53 l0_1 x8_1).f2.f9)))):=⟨pS HB.out⟩
            (try clear BK469);(try clear BK471);(try clear HB)
            generalize ((((((((((((w21.setCell ⟨gb471,0,none⟩ (.int .i64 ((rd_T53 l0_1 x8_1).f0))).setCell ⟨gb471,1,none⟩ (.int .i64 ((rd_T53 l0_1 x8_1).f1))).setCell ⟨gb471,2,none⟩ (.int .i64 ((rd_T53 l0_1 x8_1).f2.f0))).setCell ⟨gb471,3,none⟩ (.int .i64 ((rd_T53 l0_1 x8_1).f2.f1))).setCell ⟨gb471,4,none⟩ (.int .i64 ((rd_T53 l0_1 x8_1).f2.f2))).setCell ⟨gb471,5,none⟩ (.int .i64 ((rd_T53 l0_1 x8_1).f2.f3))).setCell ⟨gb471,6,none⟩ (.int .i64 ((rd_T53 l0_1 x8_1).f2.f4))).setCell ⟨gb471,7,none⟩ (.int .i64 ((rd_T53 l0_1 x8_1).f2.f5))).setCell ⟨gb471,8,none⟩ (.int .i64 ((rd_T53 l0_1 x8_1).f2.f6))).setCell ⟨gb471,9,none⟩ (.int .i64 ((rd_T53 l0_1 x8_1).f2.f7))).setCell ⟨gb471,10,none⟩ (.int .i64 ((rd_T53 l0_1 x8_1).f2.f8))).setCell ⟨gb471,11,none⟩ (.int .i64 ((rd_T53 l0_1 x8_1).f2.f9)))=w24 at n0_ n1_ n2_ ⊢
            have BK469:=n0_;have BK471:=n1_;have HB:=n2_;clear n0_ n1_ n2_;replace BK469:=mA (blk_drew BK469.out);replace BK471:=mA (blk_drew BK471.out);replace HB:=mA (below_drew1 HB.out);have p473:0≤((ji17):Int):=of_decide_eq_true bA;have q473:(ji17)<(l0_1.length:Int):=of_decide_eq_true bA;obtain ⟨ad473,e473,hs473⟩:=at_R53 HR0_1.out (ji17) p473 q473
            obtain rfl:ad470=ad473:=(by injection e473)
            replace p473:=eq_true p473;replace q473:=eq_true q473
            refine start_ (n:=26) (S:=fun w'=>w'.cell? ⟨gb471,0,none⟩=some (.int .i64 ((rd_T53 l0_1 x8_1).f0))∧w'.cell? ⟨gb471,1,none⟩=some (.int .i64 ((rd_T53 l0_1 x8_1).f1))∧w'.cell? ⟨gb471,2,none⟩=some (.int .i64 ((rd_T53 l0_1 x8_1).f2.f0))∧w'.cell? ⟨gb471,3,none⟩=some (.int .i64 ((rd_T53 l0_1 x8_1).f2.f1))∧w'.cell? ⟨gb471,4,none⟩=some (.int .i64 ((rd_T53 l0_1 x8_1).f2.f2))∧w'.cell? ⟨gb471,5,none⟩=some (.int .i64 ((rd_T53 l0_1 x8_1).f2.f3))∧w'.cell? ⟨gb471,6,none⟩=some (.int .i64 ((rd_T53 l0_1 x8_1).f2.f4))∧w'.cell? ⟨gb471,7,none⟩=some (.int .i64 ((rd_T53 l0_1 x8_1).f2.f5))∧w'.cell? ⟨gb471,8,none⟩=some (.int .i64 ((rd_T53 l0_1 x8_1).f2.f6))∧w'.cell? ⟨gb471,9,none⟩=some (.int .i64 ((rd_T53 l0_1 x8_1).f2.f7))∧w'.cell? ⟨gb471,10,none⟩=some (.int .i64 ((rd_T53 l0_1 x8_1).f2.f8))∧w'.cell? ⟨gb471,11,none⟩=some (.int .i64 ((rd_T53 l0_1 x8_1).f2.f9))∧w'.cell? ⟨gb469,0,none⟩=some (.int .i64 a0_0)∧w'.cell? ⟨gb469,1,none⟩=some (.slice (some ad470) l0_1.length c0_1)∧RS w' (ad470.add (((ji17)).toNat * 12)) (d53 (rd_T53 l0_1 (ji17)))) (ds:=[]) _ aK rfl rfl ⟨eC BK471 0,eC BK471 1,eC BK471 2,eC BK471 3,eC BK471 4,eC BK471 5,eC BK471 6,eC BK471 7,eC BK471 8,eC BK471 9,eC BK471 10,eC BK471 11,eC BK469 0,eC BK469 1,rS HB hs473⟩ (fun hHeld=>?_);refine with_tabW impl_SynVoterOk.tab4 impl_SynVoterOk.bits4 (fun HT_ HW_=>?_)
            generalize w24.drew=w25 at BK469 BK471 HB hHeld ⊢
            refine qt 0 ?_
            refine qo 1 ?_;intro K hK
            refine gD Try.func68 (impl_paperOk.calls A7.out) ?_
            rintro e w26 ⟨rfl,hb⟩;refine ⟨_,rfl,?_⟩;replace BK469:=bK BK469 hb;replace BK471:=bK BK471 hb;replace HB:=spS HB hb
            (try clear hb)
            refine hK.out _ _ ⟨eC BK471 0,eC BK471 1,eC BK471 2,eC BK471 3,eC BK471 4,eC BK471 5,eC BK471 6,eC BK471 7,eC BK471 8,eC BK471 9,eC BK471 10,eC BK471 11,eC BK469 0,eC BK469 1,rS HB hs473⟩ (fun hHeld=>?_);clear hK K;refine no_ (some 14) ?_;refine qu 2 ?_;refine qu 3 ?_;refine qu 4 ?_;refine qu 6 ?_;refine qt 5 ?_;refine qt 7 ?_;refine qu 8 ?_;refine qu 9 ?_;refine qu 10 ?_;refine qu 11 ?_;refine qu 12 ?_;refine qu 13 ?_;refine qu 14 ?_;refine qu 16 ?_;refine qu 17 ?_;refine qu 21 ?_;refine qt 15 ?_;refine qu 18 ?_;refine qu 19 ?_;refine qt 20 ?_;refine qt 22 ?_;refine qu 23 ?_;refine qu 24 ?_;refine qu 25 ?_;refine qe ?_
            try go_wp2_with (first|((with_reducible refine gLg rfl (by assumption) ?_);first|refine ldW ?_|refine ldX ?_)|((with_reducible refine gLg rfl (by assumption) ?_);refine ldV ?_)|((with_reducible refine gSt rfl (by assumption) ?_);refine stV ?_))
            go_ret
            exact ⟨by first|rfl|(simp [errW_none,errW_some]<;>rfl)|(simp only [← hji17];first|rfl|(simp [errW_none,errW_some]<;>rfl))|(simp [*,errW_none,errW_some]<;>rfl),pS HB.out⟩
           ·rw [if_neg c20] at H;have c20b0:decide (((rd_T53 l0_1 x8_1).f0)≤((rd_T53 l0_1 (ji17)).f0))=false:=decide_eq_false c20;clear c20;have H':=mA H;clear H;have p470:0≤(x8_1:Int):=of_decide_eq_true bA;have q470:x8_1<(l0_1.length:Int):=of_decide_eq_true bA;obtain ⟨ad470,e470,hs470⟩:=at_R53 HR0_1.out x8_1 p470 q470;have hx470_0:=RS.hd hs470 rfl;cases e470;replace hx470_0:=hC HB hx470_0;replace hs470:=rS HB hs470;replace p470:=eq_true p470;replace q470:=eq_true q470
            try go_wp2_with (first|((with_reducible refine gLg rfl (by assumption) ?_);first|refine ldW ?_|refine ldX ?_)|((with_reducible refine gLg rfl (by assumption) ?_);refine ldV ?_)|((with_reducible refine gSt rfl (by assumption) ?_);refine stV ?_)|((with_reducible refine gT 4 rfl ?_);(try (refine gate_guard (by rfl) ?_;dsimp only));refine bJ 4 y53 ?_;intro gb471 hg w27 hbox hb;have BK471:=mA hbox;have GW471:=gbpS HB hg;have GE471:=gbpS HB hg;replace HB:=spS HB hb;have NB469_471:=mA (lN (blk_lt (pK BK469.out)) hg);have hN469_471:=NB469_471.out;have NB471_469:=nS NB469_471;have hN471_469:=NB471_469.out;replace BK469:=bK BK469 hb;clear hb hbox hg;have hcz29_0:=fun i_=>blk_cell BK471.out i_;have hfz29_0:=fun i_=>blk_frozen BK471.out i_))
            have n0_:Aside0 (((((((((((((w27.setCell ⟨gb471,0,none⟩ (.int .i64 ((rd_T53 l0_1 x8_1).f0))).setCell ⟨gb471,1,none⟩ (.int .i64 ((rd_T53 l0_1 x8_1).f1))).setCell ⟨gb471,2,none⟩ (.int .i64 ((rd_T53 l0_1 x8_1).f2.f0))).setCell ⟨gb471,3,none⟩ (.int .i64 ((rd_T53 l0_1 x8_1).f2.f1))).setCell ⟨gb471,4,none⟩ (.int .i64 ((rd_T53 l0_1 x8_1).f2.f2))).setCell ⟨gb471,5,none⟩ (.int .i64 ((rd_T53 l0_1 x8_1).f2.f3))).setCell ⟨gb471,6,none⟩ (.int .i64 ((rd_T53 l0_1 x8_1).f2.f4))).setCell ⟨gb471,7,none⟩ (.int .i64 ((rd_T53 l0_1 x8_1).f2.f5))).setCell ⟨gb471,8,none⟩ (.int .i64 ((rd_T53 l0_1 x8_1).f2.f6))).setCell ⟨gb471,9,none⟩ (.int .i64 ((rd_T53 l0_1 x8_1).f2.f7))).setCell ⟨gb471,10,none⟩ (.int .i64 ((rd_T53 l0_1 x8_1).f2.f8))).setCell ⟨gb471,11,none⟩ (.int .i64 ((rd_T53 l0_1 x8_1).f2.f9))).heap[gb469]?=some (.cells #[.int .i64 a0_0,.slice (some ad470) l0_1.length c0_1] 84 (0,0))):=⟨pF BK469.out⟩
            have n1_:Aside0 (((((((((((((w27.setCell ⟨gb471,0,none⟩ (.int .i64 ((rd_T53 l0_1 x8_1).f0))).setCell ⟨gb471,1,none⟩ (.int .i64 ((rd_T53 l0_1 x8_1).f1))).setCell ⟨gb471,2,none⟩ (.int .i64 ((rd_T53 l0_1 x8_1).f2.f0))).setCell ⟨gb471,3,none⟩ (.int .i64 ((rd_T53 l0_1 x8_1).f2.f1))).setCell ⟨gb471,4,none⟩ (.int .i64 ((rd_T53 l0_1 x8_1).f2.f2))).setCell ⟨gb471,5,none⟩ (.int .i64 ((rd_T53 l0_1 x8_1).f2.f3))).setCell ⟨gb471,6,none⟩ (.int .i64 ((rd_T53 l0_1 x8_1).f2.f4))).setCell ⟨gb471,7,none⟩ (.int .i64 ((rd_T53 l0_1 x8_1).f2.f5))).setCell ⟨gb471,8,none⟩ (.int .i64 ((rd_T53 l0_1 x8_1).f2.f6))).setCell ⟨gb471,9,none⟩ (.int .i64 ((rd_T53 l0_1 x8_1).f2.f7))).setCell ⟨gb471,10,none⟩ (.int .i64 ((rd_T53 l0_1 x8_1).f2.f8))).setCell ⟨gb471,11,none⟩ (.int .i64 ((rd_T53 l0_1 x8_1).f2.f9))).heap[gb471]?=some (.cells #[.int .i64 ((rd_T53 l0_1 x8_1).f0),.int .i64 ((rd_T53 l0_1 x8_1).f1),.int .i64 ((rd_T53 l0_1 x8_1).f2.f0),.int .i64 ((rd_T53 l0_1 x8_1).f2.f1),.int .i64 ((rd_T53 l0_1 x8_1).f2.f2),.int .i64 ((rd_T53 l0_1 x8_1).f2.f3),.int .i64 ((rd_T53 l0_1 x8_1).f2.f4),.int .i64 ((rd_T53 l0_1 x8_1).f2.f5),.int .i64 ((rd_T53 l0_1 x8_1).f2.f6),.int .i64 ((rd_T53 l0_1 x8_1).f2.f7),.int .i64 ((rd_T53 l0_1 x8_1).f2.f8),.int .i64 ((rd_T53 l0_1 x8_1).f2.f9)] 53 (0,0))):=⟨pP BK471⟩
            have n2_:Aside0 (Below w.heap.size w ((((((((((((w27.setCell ⟨gb471,0,none⟩ (.int .i64 ((rd_T53 l0_1 x8_1).f0))).setCell ⟨gb471,1,none⟩ (.int .i64 ((rd_T53 l0_1 x8_1).f1))).setCell ⟨gb471,2,none⟩ (.int .i64 ((rd_T53 l0_1 x8_1).f2.f0))).setCell ⟨gb471,3,none⟩ (.int .i64 ((rd_T53 l0_1 x8_1).f2.f1))).setCell ⟨gb471,4,none⟩ (.int .i64 ((rd_T53 l0_1 x8_1).f2.f2))).setCell ⟨gb471,5,none⟩ (.int .i64 ((rd_T53 l0_1 x8_1).f2.f3))).setCell ⟨gb471,6,none⟩ (.int .i64 ((rd_T53 l0_1 x8_1).f2.f4))).setCell ⟨gb471,7,none⟩ (.int .i64 ((rd_T53 l0_1 x8_1).f2.f5))).setCell ⟨gb471,8,none⟩ (.int .i64 ((rd_T53 l0_1 x8_1).f2.f6))).setCell ⟨gb471,9,none⟩ (.int .i64 ((rd_T53 l0_1 x8_1).f2.f7))).setCell ⟨gb471,10,none⟩ (.int .i64 ((rd_T53 l0_1 x8_1).f2.f8))).setCell ⟨gb471,11,none⟩ (.int .i64 ((rd_T53 l0_1 x8_1).f2.f9)))):=⟨pS HB.out⟩
            (try clear BK469);(try clear BK471);(try clear HB)
            generalize ((((((((((((w27.setCell ⟨gb471,0,none⟩ (.int .i64 ((rd_T53 l0_1 x8_1).f0))).setCell ⟨gb471,1,none⟩ (.int .i64 ((rd_T53 l0_1 x8_1).f1))).setCell ⟨gb471,2,none⟩ (.int .i64 ((rd_T53 l0_1 x8_1).f2.f0))).setCell ⟨gb471,3,none⟩ (.int .i64 ((rd_T53 l0_1 x8_1).f2.f1))).setCell ⟨gb471,4,none⟩ (.int .i64 ((rd_T53 l0_1 x8_1).f2.f2))).setCell ⟨gb471,5,none⟩ (.int .i64 ((rd_T53 l0_1 x8_1).f2.f3))).setCell ⟨gb471,6,none⟩ (.int .i64 ((rd_T53 l0_1 x8_1).f2.f4))).setCell ⟨gb471,7,none⟩ (.int .i64 ((rd_T53 l0_1 x8_1).f2.f5))).setCell ⟨gb471,8,none⟩ (.int .i64 ((rd_T53 l0_1 x8_1).f2.f6))).setCell ⟨gb471,9,none⟩ (.int .i64 ((rd_T53 l0_1 x8_1).f2.f7))).setCell ⟨gb471,10,none⟩ (.int .i64 ((rd_T53 l0_1 x8_1).f2.f8))).setCell ⟨gb471,11,none⟩ (.int .i64 ((rd_T53 l0_1 x8_1).f2.f9)))=w30 at n0_ n1_ n2_ ⊢
            have BK469:=n0_;have BK471:=n1_;have HB:=n2_;clear n0_ n1_ n2_;replace BK469:=mA (blk_drew BK469.out);replace BK471:=mA (blk_drew BK471.out);replace HB:=mA (below_drew1 HB.out);have p473:0≤((ji17):Int):=of_decide_eq_true bA;have q473:(ji17)<(l0_1.length:Int):=of_decide_eq_true bA;obtain ⟨ad473,e473,hs473⟩:=at_R53 HR0_1.out (ji17) p473 q473
            obtain rfl:ad470=ad473:=(by injection e473)
            replace p473:=eq_true p473;replace q473:=eq_true q473
            refine start_ (n:=26) (S:=fun w'=>w'.cell? ⟨gb471,0,none⟩=some (.int .i64 ((rd_T53 l0_1 x8_1).f0))∧w'.cell? ⟨gb471,1,none⟩=some (.int .i64 ((rd_T53 l0_1 x8_1).f1))∧w'.cell? ⟨gb471,2,none⟩=some (.int .i64 ((rd_T53 l0_1 x8_1).f2.f0))∧w'.cell? ⟨gb471,3,none⟩=some (.int .i64 ((rd_T53 l0_1 x8_1).f2.f1))∧w'.cell? ⟨gb471,4,none⟩=some (.int .i64 ((rd_T53 l0_1 x8_1).f2.f2))∧w'.cell? ⟨gb471,5,none⟩=some (.int .i64 ((rd_T53 l0_1 x8_1).f2.f3))∧w'.cell? ⟨gb471,6,none⟩=some (.int .i64 ((rd_T53 l0_1 x8_1).f2.f4))∧w'.cell? ⟨gb471,7,none⟩=some (.int .i64 ((rd_T53 l0_1 x8_1).f2.f5))∧w'.cell? ⟨gb471,8,none⟩=some (.int .i64 ((rd_T53 l0_1 x8_1).f2.f6))∧w'.cell? ⟨gb471,9,none⟩=some (.int .i64 ((rd_T53 l0_1 x8_1).f2.f7))∧w'.cell? ⟨gb471,10,none⟩=some (.int .i64 ((rd_T53 l0_1 x8_1).f2.f8))∧w'.cell? ⟨gb471,11,none⟩=some (.int .i64 ((rd_T53 l0_1 x8_1).f2.f9))∧w'.cell? ⟨gb469,0,none⟩=some (.int .i64 a0_0)∧w'.cell? ⟨gb469,1,none⟩=some (.slice (some ad470) l0_1.length c0_1)∧RS w' (ad470.add (((ji17)).toNat * 12)) (d53 (rd_T53 l0_1 (ji17)))) (ds:=[]) _ aK rfl rfl ⟨eC BK471 0,eC BK471 1,eC BK471 2,eC BK471 3,eC BK471 4,eC BK471 5,eC BK471 6,eC BK471 7,eC BK471 8,eC BK471 9,eC BK471 10,eC BK471 11,eC BK469 0,eC BK469 1,rS HB hs473⟩ (fun hHeld=>?_);refine with_tabW impl_SynVoterOk.tab4 impl_SynVoterOk.bits4 (fun HT_ HW_=>?_)
            generalize w30.drew=w31 at BK469 BK471 HB hHeld ⊢
            refine qt 0 ?_
            refine qo 1 ?_;intro K hK
            refine gD Try.func68 (impl_paperOk.calls A7.out) ?_
            rintro e w32 ⟨rfl,hb⟩;refine ⟨_,rfl,?_⟩;replace BK469:=bK BK469 hb;replace BK471:=bK BK471 hb;replace HB:=spS HB hb
            (try clear hb)
            refine hK.out _ _ ⟨eC BK471 0,eC BK471 1,eC BK471 2,eC BK471 3,eC BK471 4,eC BK471 5,eC BK471 6,eC BK471 7,eC BK471 8,eC BK471 9,eC BK471 10,eC BK471 11,eC BK469 0,eC BK469 1,rS HB hs473⟩ (fun hHeld=>?_);clear hK K;refine no_ (some 14) ?_;refine qu 2 ?_;refine qu 3 ?_;refine qu 4 ?_;refine qu 6 ?_;refine qt 5 ?_;refine qt 7 ?_;refine qu 8 ?_;refine qu 9 ?_;refine qu 10 ?_;refine qu 11 ?_;refine qu 12 ?_;refine qu 13 ?_;refine qu 14 ?_;refine qu 16 ?_;refine qu 17 ?_;refine qu 21 ?_;refine qt 15 ?_;refine qu 18 ?_;refine qu 19 ?_;refine qt 20 ?_;refine qt 22 ?_;refine qu 23 ?_;refine qu 24 ?_;refine qu 25 ?_;refine qe ?_
            try go_wp2_with (first|((with_reducible refine gLg rfl (by assumption) ?_);first|refine ldW ?_|refine ldX ?_)|((with_reducible refine gLg rfl (by assumption) ?_);refine ldV ?_)|((with_reducible refine gSt rfl (by assumption) ?_);refine stV ?_))
            go_roundg k1
            case measure=>have:=HK1.out;omega
            case rel=>exact ⟨(wrap64 (x8_1+1)),bZ,H',⟨by have:=HK1.out;omega⟩,⟨pK BK469.out⟩,⟨pS HB.out⟩⟩
          ·rw [if_neg c19] at H
           exact absurd H (by simp)
         ·rw [if_neg c18] at H
          exact absurd H (by simp)
        ·rw [if_neg c16] at H;have c16b0:decide (0<x8_1)=false:=decide_eq_false c16;clear c16;have H':=mA H;clear H;have p470:0≤(x8_1:Int):=of_decide_eq_true bA;have q470:x8_1<(l0_1.length:Int):=of_decide_eq_true bA;obtain ⟨ad470,e470,hs470⟩:=at_R53 HR0_1.out x8_1 p470 q470;have hx470_0:=RS.hd hs470 rfl;cases e470;replace hx470_0:=hC HB hx470_0;replace hs470:=rS HB hs470;replace p470:=eq_true p470;replace q470:=eq_true q470
         try go_wp2_with (first|((with_reducible refine gLg rfl (by assumption) ?_);first|refine ldW ?_|refine ldX ?_)|((with_reducible refine gLg rfl (by assumption) ?_);refine ldV ?_)|((with_reducible refine gSt rfl (by assumption) ?_);refine stV ?_)|((with_reducible refine gT 4 rfl ?_);(try (refine gate_guard (by rfl) ?_;dsimp only));refine bJ 4 y53 ?_;intro gb471 hg w33 hbox hb;have BK471:=mA hbox;have GW471:=gbpS HB hg;have GE471:=gbpS HB hg;replace HB:=spS HB hb;have NB469_471:=mA (lN (blk_lt (pK BK469.out)) hg);have hN469_471:=NB469_471.out;have NB471_469:=nS NB469_471;have hN471_469:=NB471_469.out;replace BK469:=bK BK469 hb;clear hb hbox hg;have hcz35_0:=fun i_=>blk_cell BK471.out i_;have hfz35_0:=fun i_=>blk_frozen BK471.out i_))
         have n0_:Aside0 (((((((((((((w33.setCell ⟨gb471,0,none⟩ (.int .i64 ((rd_T53 l0_1 x8_1).f0))).setCell ⟨gb471,1,none⟩ (.int .i64 ((rd_T53 l0_1 x8_1).f1))).setCell ⟨gb471,2,none⟩ (.int .i64 ((rd_T53 l0_1 x8_1).f2.f0))).setCell ⟨gb471,3,none⟩ (.int .i64 ((rd_T53 l0_1 x8_1).f2.f1))).setCell ⟨gb471,4,none⟩ (.int .i64 ((rd_T53 l0_1 x8_1).f2.f2))).setCell ⟨gb471,5,none⟩ (.int .i64 ((rd_T53 l0_1 x8_1).f2.f3))).setCell ⟨gb471,6,none⟩ (.int .i64 ((rd_T53 l0_1 x8_1).f2.f4))).setCell ⟨gb471,7,none⟩ (.int .i64 ((rd_T53 l0_1 x8_1).f2.f5))).setCell ⟨gb471,8,none⟩ (.int .i64 ((rd_T53 l0_1 x8_1).f2.f6))).setCell ⟨gb471,9,none⟩ (.int .i64 ((rd_T53 l0_1 x8_1).f2.f7))).setCell ⟨gb471,10,none⟩ (.int .i64 ((rd_T53 l0_1 x8_1).f2.f8))).setCell ⟨gb471,11,none⟩ (.int .i64 ((rd_T53 l0_1 x8_1).f2.f9))).heap[gb469]?=some (.cells #[.int .i64 a0_0,.slice (some ad470) l0_1.length c0_1] 84 (0,0))):=⟨pF BK469.out⟩
         have n1_:Aside0 (((((((((((((w33.setCell ⟨gb471,0,none⟩ (.int .i64 ((rd_T53 l0_1 x8_1).f0))).setCell ⟨gb471,1,none⟩ (.int .i64 ((rd_T53 l0_1 x8_1).f1))).setCell ⟨gb471,2,none⟩ (.int .i64 ((rd_T53 l0_1 x8_1).f2.f0))).setCell ⟨gb471,3,none⟩ (.int .i64 ((rd_T53 l0_1 x8_1).f2.f1))).setCell ⟨gb471,4,none⟩ (.int .i64 ((rd_T53 l0_1 x8_1).f2.f2))).setCell ⟨gb471,5,none⟩ (.int .i64 ((rd_T53 l0_1 x8_1).f2.f3))).setCell ⟨gb471,6,none⟩ (.int .i64 ((rd_T53 l0_1 x8_1).f2.f4))).setCell ⟨gb471,7,none⟩ (.int .i64 ((rd_T53 l0_1 x8_1).f2.f5))).setCell ⟨gb471,8,none⟩ (.int .i64 ((rd_T53 l0_1 x8_1).f2.f6))).setCell ⟨gb471,9,none⟩ (.int .i64 ((rd_T53 l0_1 x8_1).f2.f7))).setCell ⟨gb471,10,none⟩ (.int .i64 ((rd_T53 l0_1 x8_1).f2.f8))).setCell ⟨gb471,11,none⟩ (.int .i64 ((rd_T53 l0_1 x8_1).f2.f9))).heap[gb471]?=some (.cells #[.int .i64 ((rd_T53 l0_1 x8_1).f0),.int .i64 ((rd_T53 l0_1 x8_1).f1),.int .i64 ((rd_T53 l0_1 x8_1).f2.f0),.int .i64 ((rd_T53 l0_1 x8_1).f2.f1),.int .i64 ((rd_T53 l0_1 x8_1).f2.f2),.int .i64 ((rd_T53 l0_1 x8_1).f2.f3),.int .i64 ((rd_T53 l0_1 x8_1).f2.f4),.int .i64 ((rd_T53 l0_1 x8_1).f2.f5),.int .i64 ((rd_T53 l0_1 x8_1).f2.f6),.int .i64 ((rd_T53 l0_1 x8_1).f2.f7),.int .i64 ((rd_T53 l0_1 x8_1).f2.f8),.int .i64 ((rd_T53 l0_1 x8_1).f2.f9)] 53 (0,0))):=⟨pP BK471⟩
         have n2_:Aside0 (Below w.heap.size w ((((((((((((w33.setCell ⟨gb471,0,none⟩ (.int .i64 ((rd_T53 l0_1 x8_1).f0))).setCell ⟨gb471,1,none⟩ (.int .i64 ((rd_T53 l0_1 x8_1).f1))).setCell ⟨gb471,2,none⟩ (.int .i64 ((rd_T53 l0_1 x8_1).f2.f0))).setCell ⟨gb471,3,none⟩ (.int .i64 ((rd_T53 l0_1 x8_1).f2.f1))).setCell ⟨gb471,4,none⟩ (.int .i64 ((rd_T53 l0_1 x8_1).f2.f2))).setCell ⟨gb471,5,none⟩ (.int .i64 ((rd_T53 l0_1 x8_1).f2.f3))).setCell ⟨gb471,6,none⟩ (.int .i64 ((rd_T53 l0_1 x8_1).f2.f4))).setCell ⟨gb471,7,none⟩ (.int .i64 ((rd_T53 l0_1 x8_1).f2.f5))).setCell ⟨gb471,8,none⟩ (.int .i64 ((rd_T53 l0_1 x8_1).f2.f6))).setCell ⟨gb471,9,none⟩ (.int .i64 ((rd_T53 l0_1 x8_1).f2.f7))).setCell ⟨gb471,10,none⟩ (.int .i64 ((rd_T53 l0_1 x8_1).f2.f8))).setCell ⟨gb471,11,none⟩ (.int .i64 ((rd_T53 l0_1 x8_1).f2.f9)))):=⟨pS HB.out⟩
         (try clear BK469);(try clear BK471);(try clear HB)
         generalize ((((((((((((w33.setCell ⟨gb471,0,none⟩ (.int .i64 ((rd_T53 l0_1 x8_1).f0))).setCell ⟨gb471,1,none⟩ (.int .i64 ((rd_T53 l0_1 x8_1).f1))).setCell ⟨gb471,2,none⟩ (.int .i64 ((rd_T53 l0_1 x8_1).f2.f0))).setCell ⟨gb471,3,none⟩ (.int .i64 ((rd_T53 l0_1 x8_1).f2.f1))).setCell ⟨gb471,4,none⟩ (.int .i64 ((rd_T53 l0_1 x8_1).f2.f2))).setCell ⟨gb471,5,none⟩ (.int .i64 ((rd_T53 l0_1 x8_1).f2.f3))).setCell ⟨gb471,6,none⟩ (.int .i64 ((rd_T53 l0_1 x8_1).f2.f4))).setCell ⟨gb471,7,none⟩ (.int .i64 ((rd_T53 l0_1 x8_1).f2.f5))).setCell ⟨gb471,8,none⟩ (.int .i64 ((rd_T53 l0_1 x8_1).f2.f6))).setCell ⟨gb471,9,none⟩ (.int .i64 ((rd_T53 l0_1 x8_1).f2.f7))).setCell ⟨gb471,10,none⟩ (.int .i64 ((rd_T53 l0_1 x8_1).f2.f8))).setCell ⟨gb471,11,none⟩ (.int .i64 ((rd_T53 l0_1 x8_1).f2.f9)))=w36 at n0_ n1_ n2_ ⊢
         have BK469:=n0_;have BK471:=n1_;have HB:=n2_;clear n0_ n1_ n2_;replace BK469:=mA (blk_drew BK469.out);replace BK471:=mA (blk_drew BK471.out);replace HB:=mA (below_drew1 HB.out)
         refine start_ (n:=26) (S:=fun w'=>w'.heap[gb471]?=some (.cells #[.int .i64 ((rd_T53 l0_1 x8_1).f0),.int .i64 ((rd_T53 l0_1 x8_1).f1),.int .i64 ((rd_T53 l0_1 x8_1).f2.f0),.int .i64 ((rd_T53 l0_1 x8_1).f2.f1),.int .i64 ((rd_T53 l0_1 x8_1).f2.f2),.int .i64 ((rd_T53 l0_1 x8_1).f2.f3),.int .i64 ((rd_T53 l0_1 x8_1).f2.f4),.int .i64 ((rd_T53 l0_1 x8_1).f2.f5),.int .i64 ((rd_T53 l0_1 x8_1).f2.f6),.int .i64 ((rd_T53 l0_1 x8_1).f2.f7),.int .i64 ((rd_T53 l0_1 x8_1).f2.f8),.int .i64 ((rd_T53 l0_1 x8_1).f2.f9)] 53 (0,0))∧w'.heap[gb469]?=some (.cells #[.int .i64 a0_0,.slice (some ad470) l0_1.length c0_1] 84 (0,0))) (ds:=[]) _ aK rfl rfl ⟨BK471.out,BK469.out⟩ (fun hHeld=>?_);refine with_tabW impl_SynVoterOk.tab4 impl_SynVoterOk.bits4 (fun HT_ HW_=>?_)
         generalize w36.drew=w37 at BK469 BK471 HB hHeld ⊢
         refine qt 0 ?_
         refine qo 1 ?_;intro K hK
         refine gD Try.func68 (impl_paperOk.calls A7.out) ?_
         rintro e w38 ⟨rfl,hb⟩;refine ⟨_,rfl,?_⟩;replace BK469:=bK BK469 hb;replace BK471:=bK BK471 hb;replace HB:=spS HB hb
         (try clear hb)
         refine hK.out _ _ ⟨BK471.out,BK469.out⟩ (fun hHeld=>?_);clear hK K;refine no_ (some 14) ?_;refine qu 2 ?_;refine qu 3 ?_;refine qu 4 ?_;refine qu 6 ?_;refine qt 5 ?_;refine qt 7 ?_;refine qu 8 ?_;refine qu 9 ?_;refine qu 10 ?_;refine qu 11 ?_;refine qu 12 ?_;refine qu 13 ?_;refine qd 14 ?_;refine qd 15 ?_;refine qd 16 ?_;refine qd 17 ?_;refine qd 18 ?_;refine qd 19 ?_;refine qd 20 ?_;refine qd 21 ?_;refine qd 22 ?_;refine qd 23 ?_;refine qu 24 ?_;refine qu 25 ?_;refine qe ?_
         try go_wp2_with (first|((with_reducible refine gLg rfl (by assumption) ?_);first|refine ldW ?_|refine ldX ?_)|((with_reducible refine gLg rfl (by assumption) ?_);refine ldV ?_)|((with_reducible refine gSt rfl (by assumption) ?_);refine stV ?_))
         go_roundg k1
         case measure=>have:=HK1.out;omega
         case rel=>exact ⟨(wrap64 (x8_1+1)),bZ,H',⟨by have:=HK1.out;omega⟩,⟨pK BK469.out⟩,⟨pS HB.out⟩⟩
      ·replace c8:=Bool.eq_false_iff.mpr c8;subst c8
       rw [if_neg nFT] at H
       obtain rfl:=Option.some.inj H;have p470:0≤(x8_1:Int):=of_decide_eq_true bA;have q470:x8_1<(l0_1.length:Int):=of_decide_eq_true bA;obtain ⟨ad470,e470,hs470⟩:=at_R53 HR0_1.out x8_1 p470 q470;have hx470_0:=RS.hd hs470 rfl;cases e470;replace hx470_0:=hC HB hx470_0;replace hs470:=rS HB hs470;replace p470:=eq_true p470;replace q470:=eq_true q470
       try go_wp2_with (first|((with_reducible refine gLg rfl (by assumption) ?_);first|refine ldW ?_|refine ldX ?_)|((with_reducible refine gLg rfl (by assumption) ?_);refine ldV ?_)|((with_reducible refine gSt rfl (by assumption) ?_);refine stV ?_)|((with_reducible refine gT 4 rfl ?_);(try (refine gate_guard (by rfl) ?_;dsimp only));refine bJ 4 y53 ?_;intro gb471 hg w39 hbox hb;have BK471:=mA hbox;have GW471:=gbpS HB hg;have GE471:=gbpS HB hg;replace HB:=spS HB hb;have NB469_471:=mA (lN (blk_lt (pK BK469.out)) hg);have hN469_471:=NB469_471.out;have NB471_469:=nS NB469_471;have hN471_469:=NB471_469.out;replace BK469:=bK BK469 hb;clear hb hbox hg;have hcz41_0:=fun i_=>blk_cell BK471.out i_;have hfz41_0:=fun i_=>blk_frozen BK471.out i_))
       have n0_:Aside0 (((((((((((((w39.setCell ⟨gb471,0,none⟩ (.int .i64 ((rd_T53 l0_1 x8_1).f0))).setCell ⟨gb471,1,none⟩ (.int .i64 ((rd_T53 l0_1 x8_1).f1))).setCell ⟨gb471,2,none⟩ (.int .i64 ((rd_T53 l0_1 x8_1).f2.f0))).setCell ⟨gb471,3,none⟩ (.int .i64 ((rd_T53 l0_1 x8_1).f2.f1))).setCell ⟨gb471,4,none⟩ (.int .i64 ((rd_T53 l0_1 x8_1).f2.f2))).setCell ⟨gb471,5,none⟩ (.int .i64 ((rd_T53 l0_1 x8_1).f2.f3))).setCell ⟨gb471,6,none⟩ (.int .i64 ((rd_T53 l0_1 x8_1).f2.f4))).setCell ⟨gb471,7,none⟩ (.int .i64 ((rd_T53 l0_1 x8_1).f2.f5))).setCell ⟨gb471,8,none⟩ (.int .i64 ((rd_T53 l0_1 x8_1).f2.f6))).setCell ⟨gb471,9,none⟩ (.int .i64 ((rd_T53 l0_1 x8_1).f2.f7))).setCell ⟨gb471,10,none⟩ (.int .i64 ((rd_T53 l0_1 x8_1).f2.f8))).setCell ⟨gb471,11,none⟩ (.int .i64 ((rd_T53 l0_1 x8_1).f2.f9))).heap[gb469]?=some (.cells #[.int .i64 a0_0,.slice (some ad470) l0_1.length c0_1] 84 (0,0))):=⟨pF BK469.out⟩
       have n1_:Aside0 (((((((((((((w39.setCell ⟨gb471,0,none⟩ (.int .i64 ((rd_T53 l0_1 x8_1).f0))).setCell ⟨gb471,1,none⟩ (.int .i64 ((rd_T53 l0_1 x8_1).f1))).setCell ⟨gb471,2,none⟩ (.int .i64 ((rd_T53 l0_1 x8_1).f2.f0))).setCell ⟨gb471,3,none⟩ (.int .i64 ((rd_T53 l0_1 x8_1).f2.f1))).setCell ⟨gb471,4,none⟩ (.int .i64 ((rd_T53 l0_1 x8_1).f2.f2))).setCell ⟨gb471,5,none⟩ (.int .i64 ((rd_T53 l0_1 x8_1).f2.f3))).setCell ⟨gb471,6,none⟩ (.int .i64 ((rd_T53 l0_1 x8_1).f2.f4))).setCell ⟨gb471,7,none⟩ (.int .i64 ((rd_T53 l0_1 x8_1).f2.f5))).setCell ⟨gb471,8,none⟩ (.int .i64 ((rd_T53 l0_1 x8_1).f2.f6))).setCell ⟨gb471,9,none⟩ (.int .i64 ((rd_T53 l0_1 x8_1).f2.f7))).setCell ⟨gb471,10,none⟩ (.int .i64 ((rd_T53 l0_1 x8_1).f2.f8))).setCell ⟨gb471,11,none⟩ (.int .i64 ((rd_T53 l0_1 x8_1).f2.f9))).heap[gb471]?=some (.cells #[.int .i64 ((rd_T53 l0_1 x8_1).f0),.int .i64 ((rd_T53 l0_1 x8_1).f1),.int .i64 ((rd_T53 l0_1 x8_1).f2.f0),.int .i64 ((rd_T53 l0_1 x8_1).f2.f1),.int .i64 ((rd_T53 l0_1 x8_1).f2.f2),.int .i64 ((rd_T53 l0_1 x8_1).f2.f3),.int .i64 ((rd_T53 l0_1 x8_1).f2.f4),.int .i64 ((rd_T53 l0_1 x8_1).f2.f5),.int .i64 ((rd_T53 l0_1 x8_1).f2.f6),.int .i64 ((rd_T53 l0_1 x8_1).f2.f7),.int .i64 ((rd_T53 l0_1 x8_1).f2.f8),.int .i64 ((rd_T53 l0_1 x8_1).f2.f9)] 53 (0,0))):=⟨pP BK471⟩
       have n2_:Aside0 (Below w.heap.size w ((((((((((((w39.setCell ⟨gb471,0,none⟩ (.int .i64 ((rd_T53 l0_1 x8_1).f0))).setCell ⟨gb471,1,none⟩ (.int .i64 ((rd_T53 l0_1 x8_1).f1))).setCell ⟨gb471,2,none⟩ (.int .i64 ((rd_T53 l0_1 x8_1).f2.f0))).setCell ⟨gb471,3,none⟩ (.int .i64 ((rd_T53 l0_1 x8_1).f2.f1))).setCell ⟨gb471,4,none⟩ (.int .i64 ((rd_T53 l0_1 x8_1).f2.f2))).setCell ⟨gb471,5,none⟩ (.int .i64 ((rd_T53 l0_1 x8_1).f2.f3))).setCell ⟨gb471,6,none⟩ (.int .i64 ((rd_T53 l0_1 x8_1).f2.f4))).setCell ⟨gb471,7,none⟩ (.int .i64 ((rd_T53 l0_1 x8_1).f2.f5))).setCell ⟨gb471,8,none⟩ (.int .i64 ((rd_T53 l0_1 x8_1).f2.f6))).setCell ⟨gb471,9,none⟩ (.int .i64 ((rd_T53 l0_1 x8_1).f2.f7))).setCell ⟨gb471,10,none⟩ (.int .i64 ((rd_T53 l0_1 x8_1).f2.f8))).setCell ⟨gb471,11,none⟩ (.int .i64 ((rd_T53 l0_1 x8_1).f2.f9)))):=⟨pS HB.out⟩
       (try clear BK469);(try clear BK471);(try clear HB)
       generalize ((((((((((((w39.setCell ⟨gb471,0,none⟩ (.int .i64 ((rd_T53 l0_1 x8_1).f0))).setCell ⟨gb471,1,none⟩ (.int .i64 ((rd_T53 l0_1 x8_1).f1))).setCell ⟨gb471,2,none⟩ (.int .i64 ((rd_T53 l0_1 x8_1).f2.f0))).setCell ⟨gb471,3,none⟩ (.int .i64 ((rd_T53 l0_1 x8_1).f2.f1))).setCell ⟨gb471,4,none⟩ (.int .i64 ((rd_T53 l0_1 x8_1).f2.f2))).setCell ⟨gb471,5,none⟩ (.int .i64 ((rd_T53 l0_1 x8_1).f2.f3))).setCell ⟨gb471,6,none⟩ (.int .i64 ((rd_T53 l0_1 x8_1).f2.f4))).setCell ⟨gb471,7,none⟩ (.int .i64 ((rd_T53 l0_1 x8_1).f2.f5))).setCell ⟨gb471,8,none⟩ (.int .i64 ((rd_T53 l0_1 x8_1).f2.f6))).setCell ⟨gb471,9,none⟩ (.int .i64 ((rd_T53 l0_1 x8_1).f2.f7))).setCell ⟨gb471,10,none⟩ (.int .i64 ((rd_T53 l0_1 x8_1).f2.f8))).setCell ⟨gb471,11,none⟩ (.int .i64 ((rd_T53 l0_1 x8_1).f2.f9)))=w42 at n0_ n1_ n2_ ⊢
       have BK469:=n0_;have BK471:=n1_;have HB:=n2_;clear n0_ n1_ n2_;replace BK469:=mA (blk_drew BK469.out);replace BK471:=mA (blk_drew BK471.out);replace HB:=mA (below_drew1 HB.out)
       refine start_ (n:=26) (S:=fun w'=>w'.heap[gb471]?=some (.cells #[.int .i64 ((rd_T53 l0_1 x8_1).f0),.int .i64 ((rd_T53 l0_1 x8_1).f1),.int .i64 ((rd_T53 l0_1 x8_1).f2.f0),.int .i64 ((rd_T53 l0_1 x8_1).f2.f1),.int .i64 ((rd_T53 l0_1 x8_1).f2.f2),.int .i64 ((rd_T53 l0_1 x8_1).f2.f3),.int .i64 ((rd_T53 l0_1 x8_1).f2.f4),.int .i64 ((rd_T53 l0_1 x8_1).f2.f5),.int .i64 ((rd_T53 l0_1 x8_1).f2.f6),.int .i64 ((rd_T53 l0_1 x8_1).f2.f7),.int .i64 ((rd_T53 l0_1 x8_1).f2.f8),.int .i64 ((rd_T53 l0_1 x8_1).f2.f9)] 53 (0,0))) (ds:=[]) _ aK rfl rfl BK471.out (fun hHeld=>?_);refine with_tabW impl_SynVoterOk.tab4 impl_SynVoterOk.bits4 (fun HT_ HW_=>?_)
       generalize w42.drew=w43 at BK469 BK471 HB hHeld ⊢
       refine qt 0 ?_
       refine qo 1 ?_;intro K hK
       refine gD Try.func68 (impl_paperOk.calls A7.out) ?_
       rintro e w44 ⟨rfl,hb⟩;refine ⟨_,rfl,?_⟩;replace BK469:=bK BK469 hb;replace BK471:=bK BK471 hb;replace HB:=spS HB hb
       (try clear hb)
       refine hK.out _ _ BK471.out (fun hHeld=>?_);clear hK K;refine no_ (some 14) ?_;refine qu 2 ?_;refine qu 3 ?_;refine qd 4 ?_;refine qd 5 ?_;refine qd 6 ?_;refine qd 7 ?_;refine qd 8 ?_;refine qu 9 ?_;refine qu 10 ?_;refine qd 11 ?_;refine qd 12 ?_;refine qd 13 ?_;refine qd 14 ?_;refine qd 15 ?_;refine qd 16 ?_;refine qd 17 ?_;refine qd 18 ?_;refine qd 19 ?_;refine qd 20 ?_;refine qd 21 ?_;refine qd 22 ?_;refine qd 23 ?_;refine qd 24 ?_;refine qu 25 ?_;refine qe ?_
       try go_wp2_with (first|((with_reducible refine gLg rfl (by assumption) ?_);first|refine ldW ?_|refine ldX ?_)|((with_reducible refine gLg rfl (by assumption) ?_);refine ldV ?_)|((with_reducible refine gSt rfl (by assumption) ?_);refine stV ?_))
       go_ret
       exact rZ (pS HB.out)
     ·rw [if_neg c6] at H
      exact absurd H (by simp)
    ·rw [if_neg c5] at H
     exact absurd H (by simp)
   ·rw [if_neg c4] at H;have c4b0:decide (x8_1<(l0_1.length:Int))=false:=decide_eq_false c4;clear c4;obtain ⟨t474,A45,H⟩:=bI H;(try dsimp only at H)
    by_cases c46:t474=true
    ·subst c46;rw [if_pos rfl] at H;obtain rfl:=Option.some.inj H;obtain ⟨hcz47_0,hcz47_1,hfz47_0,hfz47_1⟩:=box2 BK469.out
     go_wp2_with (first|((with_reducible refine gLg rfl (by assumption) ?_);first|refine ldW ?_|refine ldX ?_)|((with_reducible refine gLg rfl (by assumption) ?_);refine ldV ?_)|((with_reducible refine gSt rfl (by assumption) ?_);refine stV ?_)|((with_reducible refine gT 42 rfl ?_);refine gC (some 42) Try.func65 (impl_in.calls A45.out) ?_;rintro e w' ⟨rfl,⟨nd,rfl⟩⟩;refine ⟨_,rfl,?_⟩))
     go_ret
     exact rZ (pS HB.out)
    ·replace c46:=Bool.eq_false_iff.mpr c46;subst c46
     rw [if_neg nFT] at H
     obtain rfl:=Option.some.inj H;obtain ⟨hcz48_0,hcz48_1,hfz48_0,hfz48_1⟩:=box2 BK469.out
     go_wp2_with (first|((with_reducible refine gLg rfl (by assumption) ?_);first|refine ldW ?_|refine ldX ?_)|((with_reducible refine gLg rfl (by assumption) ?_);refine ldV ?_)|((with_reducible refine gSt rfl (by assumption) ?_);refine stV ?_)|((with_reducible refine gT 42 rfl ?_);refine gC (some 42) Try.func65 (impl_in.calls A45.out) ?_;rintro e w' ⟨rfl,⟨nd,rfl⟩⟩;refine ⟨_,rfl,?_⟩))
     go_ret
     exact rZ (pS HB.out)

/-! ### impl_seekerNone: function 106 -/
def impl_seekerNone.f (a0_0 a0_1 a0_2 a0_3 a0_4 a0_5 a0_6 a0_7 a0_8 a0_9 a0_10 a0_11 a0_12 a0_13 a0_14 a0_15 a0_16 a0_17 a0_18 a0_19 a0_20 a0_21 a0_22 a0_23 a0_24 : Int) (l0_25 : List Int) : Option (Bool) := if a0_0 = 0 then (if a0_1 = 0 then (if a0_2 = 0 then (if (a0_3 == 0 && (a0_4 == 0 && (a0_5 == 0 && (a0_6 == 0 && (a0_7 == 0 && (a0_8 == 0 && (a0_9 == 0 && (a0_10 == 0 && (a0_11 == 0 && (a0_12 == 0)))))))))) = true then (if (a0_13 == 0 && (a0_14 == 0 && ((a0_15 == 0 && (a0_16 == 0 && (a0_17 == 0 && (a0_18 == 0 && (a0_19 == 0 && (a0_20 == 0 && (a0_21 == 0 && (a0_22 == 0 && (a0_23 == 0 && (a0_24 == 0))))))))))))) = true then (some ((l0_25.length : Int) == 0)) else (some false)) else (some false)) else (some false)) else (some false)) else (some false)
set_option maxHeartbeats 8000000 in
set_option maxRecDepth 100000 in
theorem impl_seekerNone.calls {a0_0 a0_1 a0_2 a0_3 a0_4 a0_5 a0_6 a0_7 a0_8 a0_9 a0_10 a0_11 a0_12 a0_13 a0_14 a0_15 a0_16 a0_17 a0_18 a0_19 a0_20 a0_21 a0_22 a0_23 a0_24 : Int} {A0_25 : Option Addr} {c0_25 : Nat} {l0_25 : List Int} {r : Bool} {w : World} (hr0_25 : Kd.C (Kd.int .i64) w A0_25 l0_25.length l0_25) (hc0_25 : l0_25.length ≤ c0_25) (h : impl_seekerNone.f a0_0 a0_1 a0_2 a0_3 a0_4 a0_5 a0_6 a0_7 a0_8 a0_9 a0_10 a0_11 a0_12 a0_13 a0_14 a0_15 a0_16 a0_17 a0_18 a0_19 a0_20 a0_21 a0_22 a0_23 a0_24 l0_25 = some r) :
  Calls Try.prog 106 #[.agg #[.int .i64 a0_0,.int .i64 a0_1,.int .i64 a0_2,.int .i64 a0_3,.int .i64 a0_4,.int .i64 a0_5,.int .i64 a0_6,.int .i64 a0_7,.int .i64 a0_8,.int .i64 a0_9,.int .i64 a0_10,.int .i64 a0_11,.int .i64 a0_12,.int .i64 a0_13,.int .i64 a0_14,.int .i64 a0_15,.int .i64 a0_16,.int .i64 a0_17,.int .i64 a0_18,.int .i64 a0_19,.int .i64 a0_20,.int .i64 a0_21,.int .i64 a0_22,.int .i64 a0_23,.int .i64 a0_24,.slice A0_25 l0_25.length c0_25]] w fun e w'=>e=.returned (.bool r)∧Below w.heap.size w w':=by
 have hu88:=Try.underlying88;have hu44:=Try.underlying44;have hu53:=Try.underlying53;have HR0_25:=mA hr0_25;have HC0_25:=mA hc0_25;clear hr0_25 hc0_25;have HB:=mA (Below.refl w.heap.size w);have H:(if a0_0=0 then (if a0_1=0 then (if a0_2=0 then (if (a0_3 == 0 && (a0_4 == 0 && (a0_5 == 0 && (a0_6 == 0 && (a0_7 == 0 && (a0_8 == 0 && (a0_9 == 0 && (a0_10 == 0 && (a0_11 == 0 && (a0_12 == 0))))))))))=true then (if (a0_13 == 0 && (a0_14 == 0 && ((a0_15 == 0 && (a0_16 == 0 && (a0_17 == 0 && (a0_18 == 0 && (a0_19 == 0 && (a0_20 == 0 && (a0_21 == 0 && (a0_22 == 0 && (a0_23 == 0 && (a0_24 == 0)))))))))))))=true then (some ((l0_25.length:Int) == 0)) else (some false)) else (some false)) else (some false)) else (some false)) else (some false))=some r:=h;clear h
 by_cases c2:a0_0=0
 ·rw [if_pos c2] at H;obtain ⟨c2b0,c2b1⟩:=eqB c2;clear c2
  by_cases c3:a0_1=0
  ·rw [if_pos c3] at H;obtain ⟨c3b0,c3b1⟩:=eqB c3;clear c3
   by_cases c4:a0_2=0
   ·rw [if_pos c4] at H;obtain ⟨c4b0,c4b1⟩:=eqB c4;clear c4
    by_cases c5:(a0_3 == 0 && (a0_4 == 0 && (a0_5 == 0 && (a0_6 == 0 && (a0_7 == 0 && (a0_8 == 0 && (a0_9 == 0 && (a0_10 == 0 && (a0_11 == 0 && (a0_12 == 0))))))))))=true
    ·rw [if_pos c5] at H;have c5b0:(a0_3 == 0 && (a0_4 == 0 && (a0_5 == 0 && (a0_6 == 0 && (a0_7 == 0 && (a0_8 == 0 && (a0_9 == 0 && (a0_10 == 0 && (a0_11 == 0 && (a0_12 == 0))))))))))=true:=c5
     (try (have c5b1:decide (a0_3=0 && (a0_4 == 0 && (a0_5 == 0 && (a0_6 == 0 && (a0_7 == 0 && (a0_8 == 0 && (a0_9 == 0 && (a0_10 == 0 && (a0_11 == 0 && (a0_12 == 0))))))))))=true:=by simpa using c5))
     (try (have c5b2:(a0_3 == 0 && (a0_4 == 0 && (a0_5 == 0 && (a0_6 == 0 && (a0_7 == 0 && (a0_8 == 0 && (a0_9 == 0 && (a0_10 == 0 && (a0_11 == 0 && (a0_12 == 0))))))))))=true:=by simpa using c5))
     clear c5
     by_cases c6:(a0_13 == 0 && (a0_14 == 0 && ((a0_15 == 0 && (a0_16 == 0 && (a0_17 == 0 && (a0_18 == 0 && (a0_19 == 0 && (a0_20 == 0 && (a0_21 == 0 && (a0_22 == 0 && (a0_23 == 0 && (a0_24 == 0)))))))))))))=true
     ·rw [if_pos c6] at H;have c6b0:(a0_13 == 0 && (a0_14 == 0 && ((a0_15 == 0 && (a0_16 == 0 && (a0_17 == 0 && (a0_18 == 0 && (a0_19 == 0 && (a0_20 == 0 && (a0_21 == 0 && (a0_22 == 0 && (a0_23 == 0 && (a0_24 == 0)))))))))))))=true:=c6
      (try (have c6b1:decide (a0_13=0 && (a0_14 == 0 && ((a0_15 == 0 && (a0_16 == 0 && (a0_17 == 0 && (a0_18 == 0 && (a0_19 == 0 && (a0_20 == 0 && (a0_21 == 0 && (a0_22 == 0 && (a0_23 == 0 && (a0_24 == 0)))))))))))))=true:=by simpa using c6))
      (try (have c6b2:(a0_13 == 0 && (a0_14 == 0 && ((a0_15 == 0 && (a0_16 == 0 && (a0_17 == 0 && (a0_18 == 0 && (a0_19 == 0 && (a0_20 == 0 && (a0_21 == 0 && (a0_22 == 0 && (a0_23 == 0 && (a0_24 == 0)))))))))))))=true:=by simpa using c6))
      clear c6;obtain rfl:=Option.some.inj H
      go_enter Try.func106,Try.ntmps106
      go_wp2_with (first|((with_reducible refine gLd rfl rfl (by assumption) ?_);refine ldV ?_)|((with_reducible refine gSt rfl (by assumption) ?_);refine stV ?_)|((with_reducible refine gT 1 rfl ?_);(try (refine gate_guard (by rfl) ?_;dsimp only));refine bX 1 ?_;intro gb475 hg w7 hbox hb;have BK475:=mA hbox;have GW475:=gbpB HB hg;have GE475:=gbpB HB hg;replace HB:=spB HB hb;clear hb hbox hg;have hcz8_0:=fun i_=>blk_cell BK475.out i_;have hfz8_0:=fun i_=>blk_frozen BK475.out i_))
      go_ret
      exact rZ (pS HB.out)
     ·rw [if_neg c6] at H
      have c6b0:(a0_13 == 0 && (a0_14 == 0 && ((a0_15 == 0 && (a0_16 == 0 && (a0_17 == 0 && (a0_18 == 0 && (a0_19 == 0 && (a0_20 == 0 && (a0_21 == 0 && (a0_22 == 0 && (a0_23 == 0 && (a0_24 == 0)))))))))))))=false:=by simpa using c6
      (try (have c6b1:decide (a0_13=0 && (a0_14 == 0 && ((a0_15 == 0 && (a0_16 == 0 && (a0_17 == 0 && (a0_18 == 0 && (a0_19 == 0 && (a0_20 == 0 && (a0_21 == 0 && (a0_22 == 0 && (a0_23 == 0 && (a0_24 == 0)))))))))))))=false:=by simpa using c6))
      (try (have c6b2:(a0_13 == 0 && (a0_14 == 0 && ((a0_15 == 0 && (a0_16 == 0 && (a0_17 == 0 && (a0_18 == 0 && (a0_19 == 0 && (a0_20 == 0 && (a0_21 == 0 && (a0_22 == 0 && (a0_23 == 0 && (a0_24 == 0)))))))))))))=false:=by simpa using c6))
      (try (have c6b3:¬ (a0_13=0 && (a0_14 == 0 && ((a0_15 == 0 && (a0_16 == 0 && (a0_17 == 0 && (a0_18 == 0 && (a0_19 == 0 && (a0_20 == 0 && (a0_21 == 0 && (a0_22 == 0 && (a0_23 == 0 && (a0_24 == 0))))))))))))):=by simpa using c6))
      clear c6;obtain rfl:=Option.some.inj H
      go_enter Try.func106,Try.ntmps106
      go_wp2_with (first|((with_reducible refine gLd rfl rfl (by assumption) ?_);refine ldV ?_)|((with_reducible refine gSt rfl (by assumption) ?_);refine stV ?_)|((with_reducible refine gT 1 rfl ?_);(try (refine gate_guard (by rfl) ?_;dsimp only));refine bX 1 ?_;intro gb475 hg w9 hbox hb;have BK475:=mA hbox;have GW475:=gbpB HB hg;have GE475:=gbpB HB hg;replace HB:=spB HB hb;clear hb hbox hg;have hcz10_0:=fun i_=>blk_cell BK475.out i_;have hfz10_0:=fun i_=>blk_frozen BK475.out i_))
      go_ret
      exact rZ (pS HB.out)
    ·rw [if_neg c5] at H
     have c5b0:(a0_3 == 0 && (a0_4 == 0 && (a0_5 == 0 && (a0_6 == 0 && (a0_7 == 0 && (a0_8 == 0 && (a0_9 == 0 && (a0_10 == 0 && (a0_11 == 0 && (a0_12 == 0))))))))))=false:=by simpa using c5
     (try (have c5b1:decide (a0_3=0 && (a0_4 == 0 && (a0_5 == 0 && (a0_6 == 0 && (a0_7 == 0 && (a0_8 == 0 && (a0_9 == 0 && (a0_10 == 0 && (a0_11 == 0 && (a0_12 == 0))))))))))=false:=by simpa using c5))
     (try (have c5b2:(a0_3 == 0 && (a0_4 == 0 && (a0_5 == 0 && (a0_6 == 0 && (a0_7 == 0 && (a0_8 == 0 && (a0_9 == 0 && (a0_10 == 0 && (a0_11 == 0 && (a0_12 == 0))))))))))=false:=by simpa using c5))
     (try (have c5b3:¬ (a0_3=0 && (a0_4 == 0 && (a0_5 == 0 && (a0_6 == 0 && (a0_7 == 0 && (a0_8 == 0 && (a0_9 == 0 && (a0_10 == 0 && (a0_11 == 0 && (a0_12 == 0)))))))))):=by simpa using c5))
     clear c5;obtain rfl:=Option.some.inj H
     go_enter Try.func106,Try.ntmps106
     go_wp2_with (first|((with_reducible refine gLd rfl rfl (by assumption) ?_);refine ldV ?_)|((with_reducible refine gSt rfl (by assumption) ?_);refine stV ?_)|((with_reducible refine gT 1 rfl ?_);(try (refine gate_guard (by rfl) ?_;dsimp only));refine bX 1 ?_;intro gb475 hg w11 hbox hb;have BK475:=mA hbox;have GW475:=gbpB HB hg;have GE475:=gbpB HB hg;replace HB:=spB HB hb;clear hb hbox hg;have hcz12_0:=fun i_=>blk_cell BK475.out i_;have hfz12_0:=fun i_=>blk_frozen BK475.out i_))
     go_ret
     exact rZ (pS HB.out)
   ·rw [if_neg c4] at H;have c4b0:(a0_2 == 0)=false:=beq_eq_false_iff_ne.mpr c4;have c4b1:(a0_2 != 0)=true:=bne_iff_ne.mpr c4;obtain rfl:=Option.some.inj H
    go_enter Try.func106,Try.ntmps106
    go_wp2_with (first|((with_reducible refine gLd rfl rfl (by assumption) ?_);refine ldV ?_)|((with_reducible refine gSt rfl (by assumption) ?_);refine stV ?_)|((with_reducible refine gT 1 rfl ?_);(try (refine gate_guard (by rfl) ?_;dsimp only));refine bX 1 ?_;intro gb475 hg w13 hbox hb;have BK475:=mA hbox;have GW475:=gbpB HB hg;have GE475:=gbpB HB hg;replace HB:=spB HB hb;clear hb hbox hg;have hcz14_0:=fun i_=>blk_cell BK475.out i_;have hfz14_0:=fun i_=>blk_frozen BK475.out i_))
    go_ret
    exact rZ (pS HB.out)
  ·rw [if_neg c3] at H;have c3b0:(a0_1 == 0)=false:=beq_eq_false_iff_ne.mpr c3;have c3b1:(a0_1 != 0)=true:=bne_iff_ne.mpr c3;obtain rfl:=Option.some.inj H
   go_enter Try.func106,Try.ntmps106
   go_wp2_with (first|((with_reducible refine gLd rfl rfl (by assumption) ?_);refine ldV ?_)|((with_reducible refine gSt rfl (by assumption) ?_);refine stV ?_)|((with_reducible refine gT 1 rfl ?_);(try (refine gate_guard (by rfl) ?_;dsimp only));refine bX 1 ?_;intro gb475 hg w15 hbox hb;have BK475:=mA hbox;have GW475:=gbpB HB hg;have GE475:=gbpB HB hg;replace HB:=spB HB hb;clear hb hbox hg;have hcz16_0:=fun i_=>blk_cell BK475.out i_;have hfz16_0:=fun i_=>blk_frozen BK475.out i_))
   go_ret
   exact rZ (pS HB.out)
 ·rw [if_neg c2] at H;have c2b0:(a0_0 == 0)=false:=beq_eq_false_iff_ne.mpr c2;have c2b1:(a0_0 != 0)=true:=bne_iff_ne.mpr c2;obtain rfl:=Option.some.inj H
  go_enter Try.func106,Try.ntmps106
  go_wp2_with (first|((with_reducible refine gLd rfl rfl (by assumption) ?_);refine ldV ?_)|((with_reducible refine gSt rfl (by assumption) ?_);refine stV ?_)|((with_reducible refine gT 1 rfl ?_);(try (refine gate_guard (by rfl) ?_;dsimp only));refine bX 1 ?_;intro gb475 hg w17 hbox hb;have BK475:=mA hbox;have GW475:=gbpB HB hg;have GE475:=gbpB HB hg;replace HB:=spB HB hb;clear hb hbox hg;have hcz18_0:=fun i_=>blk_cell BK475.out i_;have hfz18_0:=fun i_=>blk_frozen BK475.out i_))
  go_ret
  exact rZ (pS HB.out)

/-! ### impl_isVoter: function 108 -/
def impl_isVoter.f (a0 : Int) : Option (Bool) := (impl_in.f a0 0 2).bind fun t476 => (some t476)
set_option maxHeartbeats 8000000 in
set_option maxRecDepth 100000 in
theorem impl_isVoter.calls {a0 : Int} {r : Bool} {w : World} (h : impl_isVoter.f a0 = some r) :
  Calls Try.prog 108 #[.int .i64 a0] w fun e w'=>e=.returned (.bool r)∧Drawn0 w w':=by
 have H:((impl_in.f a0 0 2).bind fun t476=>(some t476))=some r:=h;clear h;obtain ⟨t476,A2,H⟩:=bI H;(try dsimp only at H);obtain rfl:=Option.some.inj H
 go_enter Try.func108,Try.ntmps108
 go_wp2_with (first|((with_reducible refine gT 4 rfl ?_);refine gC (some 4) Try.func65 (impl_in.calls A2.out) ?_;rintro e w' ⟨rfl,⟨nd,rfl⟩⟩;refine ⟨_,rfl,?_⟩))
 go_ret
 exact ⟨by first|rfl|(simp;done)|(simp [*];done),by repeat (first|exact Drawn0.refl _|apply Drawn0.step)⟩

/-! ### impl_SynSeekerOk: function 66 -/
mutual
def impl_SynSeekerOk.j0 : Nat → Int → Int → Int → Int → Int → Int → Int → Int → Int → Int → Int → Int → Int → Int → Int → Int → Int → Int → Int → Int → Int → Int → Int → Int → Int → List Int → Option (Bool)
 | 0,_,_,_,_,_,_,_,_,_,_,_,_,_,_,_,_,_,_,_,_,_,_,_,_,_,_=>none
 | k+1,x478000,x478001,x478002,x478003,x478004,x478005,x478006,x478007,x478008,x478009,x478010,x478011,x478012,x478013,x478014,x478015,x478016,x478017,x478018,x478019,x478020,x478021,x478022,x478023,x478024,x478025=>(impl_in.f x478000 1 60).bind fun t479=>(if t479=true then ((impl_in.f x478001 1 99999).bind fun t480=>(if t480=true then ((impl_in.f x478002 1 2).bind fun t481=>(if t481=true then ((impl_cmdOk.f k x478003 x478004 x478005 x478006 x478007 x478008 x478009 x478010 x478011 x478012).bind fun t482=>(if t482=true then (if (x478025.length:Int) > 1 then (impl_SynSeekerOk.j1 k true x478000 x478001 x478002 x478003 x478004 x478005 x478006 x478007 x478008 x478009 x478010 x478011 x478012 x478013 x478014 x478015 x478016 x478017 x478018 x478019 x478020 x478021 x478022 x478023 x478024 x478025) else (if (x478025.length:Int)=1 then (if 0<(x478025.length:Int) then ((impl_isVoter.f (rd x478025 0)).bind fun t484=>(impl_SynSeekerOk.j1 k (!t484) x478000 x478001 x478002 x478003 x478004 x478005 x478006 x478007 x478008 x478009 x478010 x478011 x478012 x478013 x478014 x478015 x478016 x478017 x478018 x478019 x478020 x478021 x478022 x478023 x478024 x478025)) else (none)) else (impl_SynSeekerOk.j1 k false x478000 x478001 x478002 x478003 x478004 x478005 x478006 x478007 x478008 x478009 x478010 x478011 x478012 x478013 x478014 x478015 x478016 x478017 x478018 x478019 x478020 x478021 x478022 x478023 x478024 x478025))) else (impl_SynSeekerOk.j1 k true x478000 x478001 x478002 x478003 x478004 x478005 x478006 x478007 x478008 x478009 x478010 x478011 x478012 x478013 x478014 x478015 x478016 x478017 x478018 x478019 x478020 x478021 x478022 x478023 x478024 x478025))) else (impl_SynSeekerOk.j1 k true x478000 x478001 x478002 x478003 x478004 x478005 x478006 x478007 x478008 x478009 x478010 x478011 x478012 x478013 x478014 x478015 x478016 x478017 x478018 x478019 x478020 x478021 x478022 x478023 x478024 x478025))) else (impl_SynSeekerOk.j1 k true x478000 x478001 x478002 x478003 x478004 x478005 x478006 x478007 x478008 x478009 x478010 x478011 x478012 x478013 x478014 x478015 x478016 x478017 x478018 x478019 x478020 x478021 x478022 x478023 x478024 x478025))) else (impl_SynSeekerOk.j1 k true x478000 x478001 x478002 x478003 x478004 x478005 x478006 x478007 x478008 x478009 x478010 x478011 x478012 x478013 x478014 x478015 x478016 x478017 x478018 x478019 x478020 x478021 x478022 x478023 x478024 x478025))
def impl_SynSeekerOk.j1 : Nat → Bool → Int → Int → Int → Int → Int → Int → Int → Int → Int → Int → Int → Int → Int → Int → Int → Int → Int → Int → Int → Int → Int → Int → Int → Int → Int → List Int → Option (Bool)
 | 0,_,_,_,_,_,_,_,_,_,_,_,_,_,_,_,_,_,_,_,_,_,_,_,_,_,_,_=>none
 | k+1,x46,x478000,x478001,x478002,x478003,x478004,x478005,x478006,x478007,x478008,x478009,x478010,x478011,x478012,x478013,x478014,x478015,x478016,x478017,x478018,x478019,x478020,x478021,x478022,x478023,x478024,x478025=>if x46=true then (some false) else (if (x478013 == 0 && (x478014 == 0 && ((x478015 == 0 && (x478016 == 0 && (x478017 == 0 && (x478018 == 0 && (x478019 == 0 && (x478020 == 0 && (x478021 == 0 && (x478022 == 0 && (x478023 == 0 && (x478024 == 0)))))))))))))=true then (some true) else ((impl_paperOk.f k x478013 x478014 x478015 x478016 x478017 x478018 x478019 x478020 x478021 x478022 x478023 x478024).bind fun t485=>(if t485=true then (if x478013=x478000 then (some (decide (x478014<x478001))) else (some false)) else (some false))))
end
def impl_SynSeekerOk.f (k : Nat) (a0_0 a0_1 a0_2 a0_3 a0_4 a0_5 a0_6 a0_7 a0_8 a0_9 a0_10 a0_11 a0_12 a0_13 a0_14 a0_15 a0_16 a0_17 a0_18 a0_19 a0_20 a0_21 a0_22 a0_23 a0_24 : Int) (l0_25 : List Int) : Option (Bool) := (impl_seekerNone.f a0_0 a0_1 a0_2 a0_3 a0_4 a0_5 a0_6 a0_7 a0_8 a0_9 a0_10 a0_11 a0_12 a0_13 a0_14 a0_15 a0_16 a0_17 a0_18 a0_19 a0_20 a0_21 a0_22 a0_23 a0_24 l0_25).bind fun t478 => (if t478 = true then (some true) else (impl_SynSeekerOk.j0 k a0_0 a0_1 a0_2 a0_3 a0_4 a0_5 a0_6 a0_7 a0_8 a0_9 a0_10 a0_11 a0_12 a0_13 a0_14 a0_15 a0_16 a0_17 a0_18 a0_19 a0_20 a0_21 a0_22 a0_23 a0_24 l0_25))
theorem impl_SynSeekerOk.mono_l : ∀ k, (∀ y0 y1 y2 y3 y4 y5 y6 y7 y8 y9 y10 y11 y12 y13 y14 y15 y16 y17 y18 y19 y20 y21 y22 y23 y24 y25, LeO (impl_SynSeekerOk.j0 k y0 y1 y2 y3 y4 y5 y6 y7 y8 y9 y10 y11 y12 y13 y14 y15 y16 y17 y18 y19 y20 y21 y22 y23 y24 y25) (impl_SynSeekerOk.j0 (k + 1) y0 y1 y2 y3 y4 y5 y6 y7 y8 y9 y10 y11 y12 y13 y14 y15 y16 y17 y18 y19 y20 y21 y22 y23 y24 y25)) ∧ (∀ y0 y1 y2 y3 y4 y5 y6 y7 y8 y9 y10 y11 y12 y13 y14 y15 y16 y17 y18 y19 y20 y21 y22 y23 y24 y25 y26, LeO (impl_SynSeekerOk.j1 k y0 y1 y2 y3 y4 y5 y6 y7 y8 y9 y10 y11 y12 y13 y14 y15 y16 y17 y18 y19 y20 y21 y22 y23 y24 y25 y26) (impl_SynSeekerOk.j1 (k + 1) y0 y1 y2 y3 y4 y5 y6 y7 y8 y9 y10 y11 y12 y13 y14 y15 y16 y17 y18 y19 y20 y21 y22 y23 y24 y25 y26))
 | 0=>⟨fun _ _ _ _ _ _ _ _ _ _ _ _ _ _ _ _ _ _ _ _ _ _ _ _ _ _ r h=>by simp [impl_SynSeekerOk.j0] at h,fun _ _ _ _ _ _ _ _ _ _ _ _ _ _ _ _ _ _ _ _ _ _ _ _ _ _ _ r h=>by simp [impl_SynSeekerOk.j1] at h⟩
 | k+1=>by
  obtain ⟨ih0,ih1⟩:=impl_SynSeekerOk.mono_l k;refine ⟨?_,?_⟩
  ·intros
   unfold impl_SynSeekerOk.j0
   repeat' first
   | (with_reducible first|apply ih0|apply ih1|apply impl_cmdOk.mono|apply impl_paperOk.mono|exact LeO.refl _|exact LeO.none _|refine LeO.ite ?_ ?_|refine LeO.bind ?_ (fun _=>?_))|exact LeO.none _|refine LeO.ite ?_ ?_|refine LeO.bind ?_ (fun _=>?_)
  ·intros
   unfold impl_SynSeekerOk.j1
   repeat' first
   | (with_reducible first|apply ih0|apply ih1|apply impl_cmdOk.mono|apply impl_paperOk.mono|exact LeO.refl _|exact LeO.none _|refine LeO.ite ?_ ?_|refine LeO.bind ?_ (fun _=>?_))|exact LeO.none _|refine LeO.ite ?_ ?_|refine LeO.bind ?_ (fun _=>?_)
theorem impl_SynSeekerOk.mono : ∀ a0 a1 a2 a3 a4 a5 a6 a7 a8 a9 a10 a11 a12 a13 a14 a15 a16 a17 a18 a19 a20 a21 a22 a23 a24 a25 k, LeO (impl_SynSeekerOk.f k a0 a1 a2 a3 a4 a5 a6 a7 a8 a9 a10 a11 a12 a13 a14 a15 a16 a17 a18 a19 a20 a21 a22 a23 a24 a25) (impl_SynSeekerOk.f (k + 1) a0 a1 a2 a3 a4 a5 a6 a7 a8 a9 a10 a11 a12 a13 a14 a15 a16 a17 a18 a19 a20 a21 a22 a23 a24 a25) := by
 intro a0 a1 a2 a3 a4 a5 a6 a7 a8 a9 a10 a11 a12 a13 a14 a15 a16 a17 a18 a19 a20 a21 a22 a23 a24 a25 k;obtain ⟨ih0,ih1⟩:=impl_SynSeekerOk.mono_l k
 unfold impl_SynSeekerOk.f
 repeat' first
   | (with_reducible first|apply ih0|apply ih1|apply impl_cmdOk.mono|apply impl_paperOk.mono|exact LeO.refl _|exact LeO.none _|refine LeO.ite ?_ ?_|refine LeO.bind ?_ (fun _=>?_))|exact LeO.none _|refine LeO.ite ?_ ?_|refine LeO.bind ?_ (fun _=>?_)
set_option maxHeartbeats 8000000 in
set_option maxRecDepth 100000 in
theorem impl_SynSeekerOk.calls {k : Nat} {a0_0 a0_1 a0_2 a0_3 a0_4 a0_5 a0_6 a0_7 a0_8 a0_9 a0_10 a0_11 a0_12 a0_13 a0_14 a0_15 a0_16 a0_17 a0_18 a0_19 a0_20 a0_21 a0_22 a0_23 a0_24 : Int} {A0_25 : Option Addr} {c0_25 : Nat} {l0_25 : List Int} {r : Bool} {w : World} (hr0_25 : Kd.C (Kd.int .i64) w A0_25 l0_25.length l0_25) (hc0_25 : l0_25.length ≤ c0_25) (h : impl_SynSeekerOk.f k a0_0 a0_1 a0_2 a0_3 a0_4 a0_5 a0_6 a0_7 a0_8 a0_9 a0_10 a0_11 a0_12 a0_13 a0_14 a0_15 a0_16 a0_17 a0_18 a0_19 a0_20 a0_21 a0_22 a0_23 a0_24 l0_25 = some r) :
  Calls Try.prog 66 #[.agg #[.int .i64 a0_0,.int .i64 a0_1,.int .i64 a0_2,.int .i64 a0_3,.int .i64 a0_4,.int .i64 a0_5,.int .i64 a0_6,.int .i64 a0_7,.int .i64 a0_8,.int .i64 a0_9,.int .i64 a0_10,.int .i64 a0_11,.int .i64 a0_12,.int .i64 a0_13,.int .i64 a0_14,.int .i64 a0_15,.int .i64 a0_16,.int .i64 a0_17,.int .i64 a0_18,.int .i64 a0_19,.int .i64 a0_20,.int .i64 a0_21,.int .i64 a0_22,.int .i64 a0_23,.int .i64 a0_24,.slice A0_25 l0_25.length c0_25]] w fun e w'=>e=.returned (.bool r)∧Below w.heap.size w w':=by
 have hu88:=Try.underlying88;have hu44:=Try.underlying44;have hu53:=Try.underlying53;have HR0_25:=mA hr0_25;have HC0_25:=mA hc0_25;clear hr0_25 hc0_25;have HB:=mA (Below.refl w.heap.size w);have H:((impl_seekerNone.f a0_0 a0_1 a0_2 a0_3 a0_4 a0_5 a0_6 a0_7 a0_8 a0_9 a0_10 a0_11 a0_12 a0_13 a0_14 a0_15 a0_16 a0_17 a0_18 a0_19 a0_20 a0_21 a0_22 a0_23 a0_24 l0_25).bind fun t478=>(if t478=true then (some true) else (impl_SynSeekerOk.j0 k a0_0 a0_1 a0_2 a0_3 a0_4 a0_5 a0_6 a0_7 a0_8 a0_9 a0_10 a0_11 a0_12 a0_13 a0_14 a0_15 a0_16 a0_17 a0_18 a0_19 a0_20 a0_21 a0_22 a0_23 a0_24 l0_25)))=some r:=h;clear h;obtain ⟨t478,A2,H⟩:=bI H;(try dsimp only at H);have HC3:=mA H;clear H
 go_enter Try.func66,Try.ntmps66
 go_upto_if 4 with (first|((with_reducible refine gLd rfl rfl (by assumption) ?_);refine ldV ?_)|((with_reducible refine gSt rfl (by assumption) ?_);refine stV ?_)|((with_reducible refine gT 1 rfl ?_);(try (refine gate_guard (by rfl) ?_;dsimp only));refine bX 1 ?_;intro gb477 hg w4 hbox hb;have BK477:=mA hbox;have GW477:=gbpB HB hg;have GE477:=gbpB HB hg;replace HB:=spB HB hb;clear hb hbox hg;have hcz5_0:=fun i_=>blk_cell BK477.out i_;have hfz5_0:=fun i_=>blk_frozen BK477.out i_)|((with_reducible refine gT 4 rfl ?_);refine gC (some 4) Try.func106 (impl_seekerNone.calls (cB HR0_25 HB) HC0_25.out A2.out) ?_;rintro e w6 ⟨rfl,hb⟩;refine ⟨_,rfl,?_⟩;replace BK477:=bK BK477 hb;replace HB:=spS HB hb;(try clear hb)))
 (try simp only [Act.put,List.setIfInBounds_toArray,List.set_cons_zero,List.set_cons_succ])
 go_cut [] (fun wc=>∃ (kq:Nat),Aside0 (impl_SynSeekerOk.j0 kq a0_0 a0_1 a0_2 a0_3 a0_4 a0_5 a0_6 a0_7 a0_8 a0_9 a0_10 a0_11 a0_12 a0_13 a0_14 a0_15 a0_16 a0_17 a0_18 a0_19 a0_20 a0_21 a0_22 a0_23 a0_24 l0_25=some r)∧Aside0 (kq≤k)∧Aside0 (wc.heap[gb477]?=some (.cells #[.int .i64 a0_0,.int .i64 a0_1,.int .i64 a0_2,.int .i64 a0_3,.int .i64 a0_4,.int .i64 a0_5,.int .i64 a0_6,.int .i64 a0_7,.int .i64 a0_8,.int .i64 a0_9,.int .i64 a0_10,.int .i64 a0_11,.int .i64 a0_12,.int .i64 a0_13,.int .i64 a0_14,.int .i64 a0_15,.int .i64 a0_16,.int .i64 a0_17,.int .i64 a0_18,.int .i64 a0_19,.int .i64 a0_20,.int .i64 a0_21,.int .i64 a0_22,.int .i64 a0_23,.int .i64 a0_24,(.slice A0_25 l0_25.length c0_25)] 88 (0,0)))∧Aside0 (Below w.heap.size w wc))
 case first =>
  have H:=HC3.out;clear HC3
  by_cases c7:t478=true
  ·subst c7;rw [if_pos rfl] at H;obtain rfl:=Option.some.inj H
   go_wp2_with (first|((with_reducible refine gLd rfl rfl (by assumption) ?_);refine ldV ?_)|((with_reducible refine gSt rfl (by assumption) ?_);refine stV ?_))
   go_ret
   exact rZ (pS HB.out)
  ·replace c7:=Bool.eq_false_iff.mpr c7;subst c7
   rw [if_neg nFT] at H
   have H':=mA H;clear H
   go_wp2_with (first|((with_reducible refine gLd rfl rfl (by assumption) ?_);refine ldV ?_)|((with_reducible refine gSt rfl (by assumption) ?_);refine stV ?_))
   go_meet
   case rel=>exact ⟨_,H',⟨by first|omega|exact Nat.le_refl _⟩,⟨pK BK477.out⟩,⟨pS HB.out⟩⟩
 case rest =>
  clear HC3
  (try clear hcz5_0);(try clear hfz5_0)
  obtain ⟨kq,HA,HJ2,BK477,HB⟩:=hcut
  cases kq with
  | zero=>exact absurd HA.out (by simp [impl_SynSeekerOk.j0])
  | succ kj2 =>
   have H:=HA.out;clear HA;simp only [impl_SynSeekerOk.j0] at H;have HC8:=mA H;clear H
   go_upto_region 3 with (fail)
   go_cut [46] (fun v46 wc=>∃ (kq:Nat) (x46_7:Bool),v46=.bool x46_7∧Aside0 (impl_SynSeekerOk.j1 kq x46_7 a0_0 a0_1 a0_2 a0_3 a0_4 a0_5 a0_6 a0_7 a0_8 a0_9 a0_10 a0_11 a0_12 a0_13 a0_14 a0_15 a0_16 a0_17 a0_18 a0_19 a0_20 a0_21 a0_22 a0_23 a0_24 l0_25=some r)∧Aside0 (kq≤kj2)∧Aside0 (wc.heap[gb477]?=some (.cells #[.int .i64 a0_0,.int .i64 a0_1,.int .i64 a0_2,.int .i64 a0_3,.int .i64 a0_4,.int .i64 a0_5,.int .i64 a0_6,.int .i64 a0_7,.int .i64 a0_8,.int .i64 a0_9,.int .i64 a0_10,.int .i64 a0_11,.int .i64 a0_12,.int .i64 a0_13,.int .i64 a0_14,.int .i64 a0_15,.int .i64 a0_16,.int .i64 a0_17,.int .i64 a0_18,.int .i64 a0_19,.int .i64 a0_20,.int .i64 a0_21,.int .i64 a0_22,.int .i64 a0_23,.int .i64 a0_24,(.slice A0_25 l0_25.length c0_25)] 88 (0,0)))∧Aside0 (Below w.heap.size w wc))
   case first =>
    have H:=HC8.out;clear HC8;obtain ⟨t479,A9,H⟩:=bI H;(try dsimp only at H)
    by_cases c10:t479=true
    ·subst c10;rw [if_pos rfl] at H;obtain ⟨t480,A11,H⟩:=bI H;(try dsimp only at H)
     by_cases c12:t480=true
     ·subst c12;rw [if_pos rfl] at H;obtain ⟨t481,A13,H⟩:=bI H;(try dsimp only at H)
      by_cases c14:t481=true
      ·subst c14;rw [if_pos rfl] at H;obtain ⟨t482,A15,H⟩:=bI H;(try dsimp only at H)
       by_cases c16:t482=true
       ·subst c16;rw [if_pos rfl] at H
        by_cases c17:(l0_25.length:Int) > 1
        ·rw [if_pos c17] at H;have c17b0:decide (1<(l0_25.length:Int))=true:=decide_eq_true c17
         have c17b1:decide (1<l0_25.length)=true:=decide_eq_true (by omega)
         clear c17
         (first|rw [c17b0]|(simp only [i64_w,i32_w];rw [c17b0])|skip)
         have H':=mA H;clear H;have hcz18_0:=fun i_=>blk_cell BK477.out i_;have hfz18_0:=fun i_=>blk_frozen BK477.out i_
         go_wp2_with (first|((with_reducible refine gLd rfl rfl (by assumption) ?_);refine ldV ?_)|((with_reducible refine gSt rfl (by assumption) ?_);refine stV ?_)|((with_reducible refine gT 7 rfl ?_);refine gC (some 7) Try.func65 (impl_in.calls A9.out) ?_;rintro e w' ⟨rfl,⟨nd,rfl⟩⟩;refine ⟨_,rfl,?_⟩)|(go_at_call 65;(with_reducible refine (impl_in.calls A11.out).mono ?_);rintro e w' ⟨rfl,⟨nd,rfl⟩⟩)|(go_at_call 65;(with_reducible refine (impl_in.calls A13.out).mono ?_);rintro e w' ⟨rfl,⟨nd,rfl⟩⟩)|(go_at_call 107;(with_reducible refine (impl_cmdOk.calls A15.out).mono ?_);rintro e w19 ⟨rfl,hb⟩;replace BK477:=bK BK477 hb;replace HB:=spS HB hb;(try clear hb);have hcz20_0:=fun i_=>blk_cell BK477.out i_;have hfz20_0:=fun i_=>blk_frozen BK477.out i_))
         go_meet
         case rel=>exact ⟨_,(true),bZ,H',⟨by have:=HJ2.out;first|omega|exact Nat.le_refl _⟩,⟨pK BK477.out⟩,⟨pS HB.out⟩⟩
        ·rw [if_neg c17] at H;have c17b0:decide (1<(l0_25.length:Int))=false:=decide_eq_false c17
         have c17b1:decide (1<l0_25.length)=false:=decide_eq_false (by omega)
         clear c17
         (first|rw [c17b0]|(simp only [i64_w,i32_w];rw [c17b0])|skip)
         by_cases c21:(l0_25.length:Int)=1
         ·rw [if_pos c21] at H;obtain ⟨c21b0,c21b1⟩:=eqB c21;clear c21
          by_cases c22:0<(l0_25.length:Int)
          ·rw [if_pos c22] at H;have c22b0:decide (0<(l0_25.length:Int))=true:=decide_eq_true c22
           have c22b1:decide (0<l0_25.length)=true:=decide_eq_true (by omega)
           clear c22;obtain ⟨t484,A23,H⟩:=bI H;(try dsimp only at H);have H':=mA H;clear H;have hcz24_0:=fun i_=>blk_cell BK477.out i_;have hfz24_0:=fun i_=>blk_frozen BK477.out i_
           go_wp2_with (first|((with_reducible refine gLd rfl rfl (by assumption) ?_);refine ldV ?_)|((with_reducible refine gSt rfl (by assumption) ?_);refine stV ?_)|((with_reducible refine gT 7 rfl ?_);refine gC (some 7) Try.func65 (impl_in.calls A9.out) ?_;rintro e w' ⟨rfl,⟨nd,rfl⟩⟩;refine ⟨_,rfl,?_⟩)|(go_at_call 65;(with_reducible refine (impl_in.calls A11.out).mono ?_);rintro e w' ⟨rfl,⟨nd,rfl⟩⟩)|(go_at_call 65;(with_reducible refine (impl_in.calls A13.out).mono ?_);rintro e w' ⟨rfl,⟨nd,rfl⟩⟩)|(go_at_call 107;(with_reducible refine (impl_cmdOk.calls A15.out).mono ?_);rintro e w25 ⟨rfl,hb⟩;replace BK477:=bK BK477 hb;replace HB:=spS HB hb;(try clear hb);have hcz26_0:=fun i_=>blk_cell BK477.out i_;have hfz26_0:=fun i_=>blk_frozen BK477.out i_;have p483:0≤(0:Int):=(by omega);have q483:0<(l0_25.length:Int):=of_decide_eq_true bA;obtain ⟨ad483,e483,hx483_0⟩:=Kd.at_int HR0_25.out 0 p483 q483;cases e483;have qi483:(0<l0_25.length)=True:=eq_true (by omega);(try rw [show ((0:Int)).toNat=0 from rfl] at hx483_0);(try rw [Addr.add_zero'] at hx483_0);replace hx483_0:=hC HB hx483_0;replace p483:=eq_true p483;replace q483:=eq_true q483)|(go_at_call 108;(with_reducible refine (impl_isVoter.calls A23.out).mono ?_);rintro e w' ⟨rfl,⟨nd,rfl⟩⟩))
           go_meet
           case rel=>exact ⟨_,(!t484),bZ,H',⟨by have:=HJ2.out;first|omega|exact Nat.le_refl _⟩,⟨pK BK477.out⟩,⟨pS HB.out⟩⟩
          ·rw [if_neg c22] at H
           exact absurd H (by simp)
         ·rw [if_neg c21] at H;have c21b0:((l0_25.length:Int) == 1)=false:=beq_eq_false_iff_ne.mpr c21;have c21b1:((l0_25.length:Int) != 1)=true:=bne_iff_ne.mpr c21;have H':=mA H;clear H;have hcz27_0:=fun i_=>blk_cell BK477.out i_;have hfz27_0:=fun i_=>blk_frozen BK477.out i_
          go_wp2_with (first|((with_reducible refine gLd rfl rfl (by assumption) ?_);refine ldV ?_)|((with_reducible refine gSt rfl (by assumption) ?_);refine stV ?_)|((with_reducible refine gT 7 rfl ?_);refine gC (some 7) Try.func65 (impl_in.calls A9.out) ?_;rintro e w' ⟨rfl,⟨nd,rfl⟩⟩;refine ⟨_,rfl,?_⟩)|(go_at_call 65;(with_reducible refine (impl_in.calls A11.out).mono ?_);rintro e w' ⟨rfl,⟨nd,rfl⟩⟩)|(go_at_call 65;(with_reducible refine (impl_in.calls A13.out).mono ?_);rintro e w' ⟨rfl,⟨nd,rfl⟩⟩)|(go_at_call 107;(with_reducible refine (impl_cmdOk.calls A15.out).mono ?_);rintro e w28 ⟨rfl,hb⟩;replace BK477:=bK BK477 hb;replace HB:=spS HB hb;(try clear hb);have hcz29_0:=fun i_=>blk_cell BK477.out i_;have hfz29_0:=fun i_=>blk_frozen BK477.out i_))
          go_meet
          case rel=>exact ⟨_,(false),bZ,H',⟨by have:=HJ2.out;first|omega|exact Nat.le_refl _⟩,⟨pK BK477.out⟩,⟨pS HB.out⟩⟩
       ·replace c16:=Bool.eq_false_iff.mpr c16;subst c16
        rw [if_neg nFT] at H
        have H':=mA H;clear H;have hcz30_0:=fun i_=>blk_cell BK477.out i_;have hfz30_0:=fun i_=>blk_frozen BK477.out i_
        go_wp2_with (first|((with_reducible refine gLd rfl rfl (by assumption) ?_);refine ldV ?_)|((with_reducible refine gSt rfl (by assumption) ?_);refine stV ?_)|((with_reducible refine gT 7 rfl ?_);refine gC (some 7) Try.func65 (impl_in.calls A9.out) ?_;rintro e w' ⟨rfl,⟨nd,rfl⟩⟩;refine ⟨_,rfl,?_⟩)|(go_at_call 65;(with_reducible refine (impl_in.calls A11.out).mono ?_);rintro e w' ⟨rfl,⟨nd,rfl⟩⟩)|(go_at_call 65;(with_reducible refine (impl_in.calls A13.out).mono ?_);rintro e w' ⟨rfl,⟨nd,rfl⟩⟩)|(go_at_call 107;(with_reducible refine (impl_cmdOk.calls A15.out).mono ?_);rintro e w31 ⟨rfl,hb⟩;replace BK477:=bK BK477 hb;replace HB:=spS HB hb;(try clear hb)))
        go_meet
        case rel=>exact ⟨_,(true),bZ,H',⟨by have:=HJ2.out;first|omega|exact Nat.le_refl _⟩,⟨pK BK477.out⟩,⟨pS HB.out⟩⟩
      ·replace c14:=Bool.eq_false_iff.mpr c14;subst c14
       rw [if_neg nFT] at H
       have H':=mA H;clear H;have hcz32_0:=fun i_=>blk_cell BK477.out i_;have hfz32_0:=fun i_=>blk_frozen BK477.out i_
       go_wp2_with (first|((with_reducible refine gLd rfl rfl (by assumption) ?_);refine ldV ?_)|((with_reducible refine gSt rfl (by assumption) ?_);refine stV ?_)|((with_reducible refine gT 7 rfl ?_);refine gC (some 7) Try.func65 (impl_in.calls A9.out) ?_;rintro e w' ⟨rfl,⟨nd,rfl⟩⟩;refine ⟨_,rfl,?_⟩)|(go_at_call 65;(with_reducible refine (impl_in.calls A11.out).mono ?_);rintro e w' ⟨rfl,⟨nd,rfl⟩⟩)|(go_at_call 65;(with_reducible refine (impl_in.calls A13.out).mono ?_);rintro e w' ⟨rfl,⟨nd,rfl⟩⟩))
       go_meet
       case rel=>exact ⟨_,(true),bZ,H',⟨by have:=HJ2.out;first|omega|exact Nat.le_refl _⟩,⟨pK BK477.out⟩,⟨pS HB.out⟩⟩
     ·replace c12:=Bool.eq_false_iff.mpr c12;subst c12
      rw [if_neg nFT] at H
      have H':=mA H;clear H;have hcz33_0:=fun i_=>blk_cell BK477.out i_;have hfz33_0:=fun i_=>blk_frozen BK477.out i_
      go_wp2_with (first|((with_reducible refine gLd rfl rfl (by assumption) ?_);refine ldV ?_)|((with_reducible refine gSt rfl (by assumption) ?_);refine stV ?_)|((with_reducible refine gT 7 rfl ?_);refine gC (some 7) Try.func65 (impl_in.calls A9.out) ?_;rintro e w' ⟨rfl,⟨nd,rfl⟩⟩;refine ⟨_,rfl,?_⟩)|(go_at_call 65;(with_reducible refine (impl_in.calls A11.out).mono ?_);rintro e w' ⟨rfl,⟨nd,rfl⟩⟩))
      go_meet
      case rel=>exact ⟨_,(true),bZ,H',⟨by have:=HJ2.out;first|omega|exact Nat.le_refl _⟩,⟨pK BK477.out⟩,⟨pS HB.out⟩⟩
    ·replace c10:=Bool.eq_false_iff.mpr c10;subst c10
     rw [if_neg nFT] at H
     have H':=mA H;clear H;have hcz34_0:=fun i_=>blk_cell BK477.out i_;have hfz34_0:=fun i_=>blk_frozen BK477.out i_
     go_wp2_with (first|((with_reducible refine gLd rfl rfl (by assumption) ?_);refine ldV ?_)|((with_reducible refine gSt rfl (by assumption) ?_);refine stV ?_)|((with_reducible refine gT 7 rfl ?_);refine gC (some 7) Try.func65 (impl_in.calls A9.out) ?_;rintro e w' ⟨rfl,⟨nd,rfl⟩⟩;refine ⟨_,rfl,?_⟩))
     go_meet
     case rel=>exact ⟨_,(true),bZ,H',⟨by have:=HJ2.out;first|omega|exact Nat.le_refl _⟩,⟨pK BK477.out⟩,⟨pS HB.out⟩⟩
   case rest =>
    clear HC8
    (try clear hcz5_0);(try clear hfz5_0)
    obtain ⟨kq,x46_7,rfl,HA,HJ7,BK477,HB⟩:=hcut
    cases kq with
    | zero=>exact absurd HA.out (by simp [impl_SynSeekerOk.j1])
    | succ kj7 =>
     have H:=HA.out;clear HA;simp only [impl_SynSeekerOk.j1] at H
     by_cases c35:x46_7=true
     ·subst c35;rw [if_pos rfl] at H;obtain rfl:=Option.some.inj H
      go_wp2_with (first|((with_reducible refine gLd rfl rfl (by assumption) ?_);refine ldV ?_)|((with_reducible refine gSt rfl (by assumption) ?_);refine stV ?_))
      go_ret
      exact rZ (pS HB.out)
     ·replace c35:=Bool.eq_false_iff.mpr c35;subst c35
      rw [if_neg nFT] at H
      by_cases c36:(a0_13 == 0 && (a0_14 == 0 && ((a0_15 == 0 && (a0_16 == 0 && (a0_17 == 0 && (a0_18 == 0 && (a0_19 == 0 && (a0_20 == 0 && (a0_21 == 0 && (a0_22 == 0 && (a0_23 == 0 && (a0_24 == 0)))))))))))))=true
      ·rw [if_pos c36] at H;have c36b0:(a0_13 == 0 && (a0_14 == 0 && ((a0_15 == 0 && (a0_16 == 0 && (a0_17 == 0 && (a0_18 == 0 && (a0_19 == 0 && (a0_20 == 0 && (a0_21 == 0 && (a0_22 == 0 && (a0_23 == 0 && (a0_24 == 0)))))))))))))=true:=c36
       (try (have c36b1:decide (a0_13=0 && (a0_14 == 0 && ((a0_15 == 0 && (a0_16 == 0 && (a0_17 == 0 && (a0_18 == 0 && (a0_19 == 0 && (a0_20 == 0 && (a0_21 == 0 && (a0_22 == 0 && (a0_23 == 0 && (a0_24 == 0)))))))))))))=true:=by simpa using c36))
       (try (have c36b2:(a0_13 == 0 && (a0_14 == 0 && ((a0_15 == 0 && (a0_16 == 0 && (a0_17 == 0 && (a0_18 == 0 && (a0_19 == 0 && (a0_20 == 0 && (a0_21 == 0 && (a0_22 == 0 && (a0_23 == 0 && (a0_24 == 0)))))))))))))=true:=by simpa using c36))
       clear c36;obtain rfl:=Option.some.inj H;have hcz37_0:=fun i_=>blk_cell BK477.out i_;have hfz37_0:=fun i_=>blk_frozen BK477.out i_
       go_wp2_with (first|((with_reducible refine gLd rfl rfl (by assumption) ?_);refine ldV ?_)|((with_reducible refine gSt rfl (by assumption) ?_);refine stV ?_))
       go_ret
       exact rZ (pS HB.out)
      ·rw [if_neg c36] at H
       have c36b0:(a0_13 == 0 && (a0_14 == 0 && ((a0_15 == 0 && (a0_16 == 0 && (a0_17 == 0 && (a0_18 == 0 && (a0_19 == 0 && (a0_20 == 0 && (a0_21 == 0 && (a0_22 == 0 && (a0_23 == 0 && (a0_24 == 0)))))))))))))=false:=by simpa using c36
       (try (have c36b1:decide (a0_13=0 && (a0_14 == 0 && ((a0_15 == 0 && (a0_16 == 0 && (a0_17 == 0 && (a0_18 == 0 && (a0_19 == 0 && (a0_20 == 0 && (a0_21 == 0 && (a0_22 == 0 && (a0_23 == 0 && (a0_24 == 0)))))))))))))=false:=by simpa using c36))
       (try (have c36b2:(a0_13 == 0 && (a0_14 == 0 && ((a0_15 == 0 && (a0_16 == 0 && (a0_17 == 0 && (a0_18 == 0 && (a0_19 == 0 && (a0_20 == 0 && (a0_21 == 0 && (a0_22 == 0 && (a0_23 == 0 && (a0_24 == 0)))))))))))))=false:=by simpa using c36))
       (try (have c36b3:¬ (a0_13=0 && (a0_14 == 0 && ((a0_15 == 0 && (a0_16 == 0 && (a0_17 == 0 && (a0_18 == 0 && (a0_19 == 0 && (a0_20 == 0 && (a0_21 == 0 && (a0_22 == 0 && (a0_23 == 0 && (a0_24 == 0))))))))))))):=by simpa using c36))
       clear c36;obtain ⟨t485,A38,H⟩:=bI H;(try dsimp only at H)
       by_cases c39:t485=true
       ·subst c39;rw [if_pos rfl] at H
        by_cases c40:a0_13=a0_0
        ·rw [if_pos c40] at H;obtain ⟨c40b0,c40b1⟩:=eqB c40;clear c40;obtain rfl:=Option.some.inj H;have hcz41_0:=fun i_=>blk_cell BK477.out i_;have hfz41_0:=fun i_=>blk_frozen BK477.out i_
         go_wp2_with (first|((with_reducible refine gLd rfl rfl (by assumption) ?_);refine ldV ?_)|((with_reducible refine gSt rfl (by assumption) ?_);refine stV ?_)|(go_at_call 68;(with_reducible refine (impl_paperOk.calls A38.out).mono ?_);rintro e w42 ⟨rfl,hb⟩;replace BK477:=bK BK477 hb;replace HB:=spS HB hb;(try clear hb);have hcz43_0:=fun i_=>blk_cell BK477.out i_;have hfz43_0:=fun i_=>blk_frozen BK477.out i_))
         go_ret
         exact rZ (pS HB.out)
        ·rw [if_neg c40] at H;have c40b0:(a0_13 == a0_0)=false:=beq_eq_false_iff_ne.mpr c40;have c40b1:(a0_13 != a0_0)=true:=bne_iff_ne.mpr c40;obtain rfl:=Option.some.inj H;have hcz44_0:=fun i_=>blk_cell BK477.out i_;have hfz44_0:=fun i_=>blk_frozen BK477.out i_
         go_wp2_with (first|((with_reducible refine gLd rfl rfl (by assumption) ?_);refine ldV ?_)|((with_reducible refine gSt rfl (by assumption) ?_);refine stV ?_)|(go_at_call 68;(with_reducible refine (impl_paperOk.calls A38.out).mono ?_);rintro e w45 ⟨rfl,hb⟩;replace BK477:=bK BK477 hb;replace HB:=spS HB hb;(try clear hb);have hcz46_0:=fun i_=>blk_cell BK477.out i_;have hfz46_0:=fun i_=>blk_frozen BK477.out i_))
         go_ret
         exact rZ (pS HB.out)
       ·replace c39:=Bool.eq_false_iff.mpr c39;subst c39
        rw [if_neg nFT] at H
        obtain rfl:=Option.some.inj H;have hcz47_0:=fun i_=>blk_cell BK477.out i_;have hfz47_0:=fun i_=>blk_frozen BK477.out i_
        go_wp2_with (first|((with_reducible refine gLd rfl rfl (by assumption) ?_);refine ldV ?_)|((with_reducible refine gSt rfl (by assumption) ?_);refine stV ?_)|(go_at_call 68;(with_reducible refine (impl_paperOk.calls A38.out).mono ?_);rintro e w48 ⟨rfl,hb⟩;replace BK477:=bK BK477 hb;replace HB:=spS HB hb;(try clear hb)))
        go_ret
        exact rZ (pS HB.out)

/-! ### impl_isServer: function 141 -/
def impl_isServer.f (a0 : Int) : Option (Bool) := (impl_in.f a0 0 4).bind fun t486 => (some t486)
set_option maxHeartbeats 8000000 in
set_option maxRecDepth 100000 in
theorem impl_isServer.calls {a0 : Int} {r : Bool} {w : World} (h : impl_isServer.f a0 = some r) :
  Calls Try.prog 141 #[.int .i64 a0] w fun e w'=>e=.returned (.bool r)∧Drawn0 w w':=by
 have H:((impl_in.f a0 0 4).bind fun t486=>(some t486))=some r:=h;clear h;obtain ⟨t486,A2,H⟩:=bI H;(try dsimp only at H);obtain rfl:=Option.some.inj H
 go_enter Try.func141,Try.ntmps141
 go_wp2_with (first|((with_reducible refine gT 4 rfl ?_);refine gC (some 4) Try.func65 (impl_in.calls A2.out) ?_;rintro e w' ⟨rfl,⟨nd,rfl⟩⟩;refine ⟨_,rfl,?_⟩))
 go_ret
 exact ⟨by first|rfl|(simp;done)|(simp [*];done),by repeat (first|exact Drawn0.refl _|apply Drawn0.step)⟩

/-! ### impl_isClient: function 142 -/
def impl_isClient.f (a0 : Int) : Option (Bool) := (impl_in.f a0 0 3).bind fun t487 => (some t487)
set_option maxHeartbeats 8000000 in
set_option maxRecDepth 100000 in
theorem impl_isClient.calls {a0 : Int} {r : Bool} {w : World} (h : impl_isClient.f a0 = some r) :
  Calls Try.prog 142 #[.int .i64 a0] w fun e w'=>e=.returned (.bool r)∧Drawn0 w w':=by
 have H:((impl_in.f a0 0 3).bind fun t487=>(some t487))=some r:=h;clear h;obtain ⟨t487,A2,H⟩:=bI H;(try dsimp only at H);obtain rfl:=Option.some.inj H
 go_enter Try.func142,Try.ntmps142
 go_wp2_with (first|((with_reducible refine gT 4 rfl ?_);refine gC (some 4) Try.func65 (impl_in.calls A2.out) ?_;rintro e w' ⟨rfl,⟨nd,rfl⟩⟩;refine ⟨_,rfl,?_⟩))
 go_ret
 exact ⟨by first|rfl|(simp;done)|(simp [*];done),by repeat (first|exact Drawn0.refl _|apply Drawn0.step)⟩

/-! ### impl_isPlace: function 109 -/
def impl_isPlace.f (a0 : Int) : Option (Bool) := (impl_isServer.f a0).bind fun t488 => (if t488 = true then (some true) else ((impl_isClient.f (wrap64 (a0 - 100))).bind fun t489 => (some t489)))
set_option maxHeartbeats 8000000 in
set_option maxRecDepth 100000 in
theorem impl_isPlace.calls {a0 : Int} {r : Bool} {w : World} (h : impl_isPlace.f a0 = some r) :
  Calls Try.prog 109 #[.int .i64 a0] w fun e w'=>e=.returned (.bool r)∧Drawn0 w w':=by
 have H:((impl_isServer.f a0).bind fun t488=>(if t488=true then (some true) else ((impl_isClient.f (wrap64 (a0 - 100))).bind fun t489=>(some t489))))=some r:=h;clear h;obtain ⟨t488,A2,H⟩:=bI H;(try dsimp only at H)
 by_cases c3:t488=true
 ·subst c3;rw [if_pos rfl] at H;obtain rfl:=Option.some.inj H
  go_enter Try.func109,Try.ntmps109
  go_wp2_with (first|((with_reducible refine gT 4 rfl ?_);refine gC (some 4) Try.func141 (impl_isServer.calls A2.out) ?_;rintro e w' ⟨rfl,⟨nd,rfl⟩⟩;refine ⟨_,rfl,?_⟩))
  go_ret
  exact ⟨by first|rfl|(simp;done)|(simp [*];done),by repeat (first|exact Drawn0.refl _|apply Drawn0.step)⟩
 ·replace c3:=Bool.eq_false_iff.mpr c3;subst c3
  rw [if_neg nFT] at H
  obtain ⟨t489,A4,H⟩:=bI H;(try dsimp only at H);obtain rfl:=Option.some.inj H
  go_enter Try.func109,Try.ntmps109
  go_wp2_with (first|((with_reducible refine gT 4 rfl ?_);refine gC (some 4) Try.func141 (impl_isServer.calls A2.out) ?_;rintro e w' ⟨rfl,⟨nd,rfl⟩⟩;refine ⟨_,rfl,?_⟩)|(go_at_call 142;(with_reducible refine (impl_isClient.calls A4.out).mono ?_);rintro e w' ⟨rfl,⟨nd,rfl⟩⟩))
  go_ret
  exact ⟨by first|rfl|(simp;done)|(simp [*];done),by repeat (first|exact Drawn0.refl _|apply Drawn0.step)⟩

/-! ### impl_pieceWay: function 143 -/
def impl_pieceWay.l0 : Nat → List (S100) → Int → Int → Option (Int)
 | 0,_,_,_=>none
 | k+1,x22,x23,x24=>if x24<x23 then (if 0≤x24 then (if x24<(x22.length:Int) then (if ((rd_T100 x22 x24).f0)<((rd_T100 x22 x24).f1) then (some (-1)) else (if ((rd_T100 x22 x24).f0) > ((rd_T100 x22 x24).f1) then (some 1) else (impl_pieceWay.l0 k x22 x23 (wrap64 (x24+1))))) else (none)) else (none)) else (some 0)
def impl_pieceWay.f (k : Nat) (a0_0 a0_1 a0_2 a0_3 a1_0 a1_1 a1_2 a1_3 : Int) : Option (Int) := (some (([(⟨a0_0, a1_0⟩ : S100), (⟨a0_1, a1_1⟩ : S100), (⟨a0_2, a1_2⟩ : S100)] : List (S100)) : List (S100))).bind fun y492 => (impl_pieceWay.l0 k y492 (y492.length : Int) 0)
theorem impl_pieceWay.mono_l : ∀ k, (∀ y0 y1 y2, LeO (impl_pieceWay.l0 k y0 y1 y2) (impl_pieceWay.l0 (k + 1) y0 y1 y2))
 | 0=>fun _ _ _ r h=>by simp [impl_pieceWay.l0] at h
 | k+1=>by
  have ih0:=impl_pieceWay.mono_l k
  ·intros
   unfold impl_pieceWay.l0
   repeat' first
   | (with_reducible first|apply ih0|exact LeO.refl _|exact LeO.none _|refine LeO.ite ?_ ?_|refine LeO.bind ?_ (fun _=>?_))|exact LeO.none _|refine LeO.ite ?_ ?_|refine LeO.bind ?_ (fun _=>?_)
theorem impl_pieceWay.mono : ∀ a0 a1 a2 a3 a4 a5 a6 a7 k, LeO (impl_pieceWay.f k a0 a1 a2 a3 a4 a5 a6 a7) (impl_pieceWay.f (k + 1) a0 a1 a2 a3 a4 a5 a6 a7) := by
 intro a0 a1 a2 a3 a4 a5 a6 a7 k;have ih0:=impl_pieceWay.mono_l k
 unfold impl_pieceWay.f
 repeat' first
   | (with_reducible first|apply ih0|exact LeO.refl _|exact LeO.none _|refine LeO.ite ?_ ?_|refine LeO.bind ?_ (fun _=>?_))|exact LeO.none _|refine LeO.ite ?_ ?_|refine LeO.bind ?_ (fun _=>?_)
set_option maxHeartbeats 8000000 in
set_option maxRecDepth 100000 in
theorem impl_pieceWay.calls {k : Nat} {a0_0 a0_1 a0_2 a0_3 a1_0 a1_1 a1_2 a1_3 r : Int} {w : World} (h : impl_pieceWay.f k a0_0 a0_1 a0_2 a0_3 a1_0 a1_1 a1_2 a1_3 = some r) :
  Calls Try.prog 143 #[.agg #[.int .i64 a0_0,.int .i64 a0_1,.int .i64 a0_2,.int .i64 a0_3],.agg #[.int .i64 a1_0,.int .i64 a1_1,.int .i64 a1_2,.int .i64 a1_3]] w fun e w'=>e=.returned (.int .i64 r)∧Below w.heap.size w w':=by
 have hu164:=Try.underlying164;have hu100:=Try.underlying100;have HB:=mA (Below.refl w.heap.size w);have H:((some (([(⟨a0_0,a1_0⟩:S100),(⟨a0_1,a1_1⟩:S100),(⟨a0_2,a1_2⟩:S100)]:List (S100)):List (S100))).bind fun y492=>(impl_pieceWay.l0 k y492 (y492.length:Int) 0))=some r:=h;clear h;obtain ⟨y492,hy492⟩:∃ y_:List (S100),y_=(([(⟨a0_0,a1_0⟩:S100),(⟨a0_1,a1_1⟩:S100),(⟨a0_2,a1_2⟩:S100)]:List (S100))):=⟨_,rfl⟩
 replace H:(impl_pieceWay.l0 k y492 (y492.length:Int) 0)=some r:=qH hy492 H
 have Ny492:=mA hy492;clear hy492;have H':=mA H;clear H
 go_enter Try.func143,Try.ntmps143
 go_wp2_with (first|((with_reducible refine gT 2 rfl ?_);refine bX 2 ?_;intro gb490 hg w3 hbox hb;have BK490:=mA hbox;have GW490:=gbpB HB hg;have GE490:=gbpB HB hg;replace HB:=spB HB hb;clear hb hbox hg)|((with_reducible refine gT 3 rfl ?_);refine bX 3 ?_;intro gb491 hg w4 hbox hb;have BK491:=mA hbox;have GW491:=gbpS HB hg;have GE491:=gbpS HB hg;replace HB:=spS HB hb;have NB490_491:=mA (lN (blk_lt (pK BK490.out)) hg);have hN490_491:=NB490_491.out;have NB491_490:=nS NB490_491;have hN491_490:=NB491_490.out;replace BK490:=bK BK490 hb;clear hb hbox hg;obtain ⟨hcz6_0,hcz6_1,hcz6_2,hcz6_3,hfz6_0,hfz6_1,hfz6_2,hfz6_3⟩:=box4 BK490.out;obtain ⟨hcz7_0,hcz7_1,hcz7_2,hcz7_3,hfz7_0,hfz7_1,hfz7_2,hfz7_3⟩:=box4 BK491.out)|((with_reducible refine gT 22 rfl ?_);refine Kd.R_lit k100 _ 100 ?hg (N:=22) ?hd (xs:=([(⟨a0_0,a1_0⟩:S100),(⟨a0_1,a1_1⟩:S100),(⟨a0_2,a1_2⟩:S100)]:List (S100))) (inner:=[.int .i64 a0_0,.int .i64 a1_0,.int .i64 a0_1,.int .i64 a1_1,.int .i64 a0_2,.int .i64 a1_2]) (ok:=fun _=>True) (okp:=fun _=>True) ?hr ?hp (fun _ hk=>hk) trivial (Below.refl _ _) (Nat.le_refl _) (by simp) ?_;(case hd=>rfl);(case hg=>rfl);(case hr=>first|(go_simp;done)|(go_simp;rfl));(case hp=>exact (Reps.c2 (show Kd.M k100 _ _ _ (⟨a0_0,a1_0⟩:S100) [.int .i64 a0_0,.int .i64 a1_0] from (k100_mkM _ _ _ (⟨a0_0,a1_0⟩:S100) )) (Reps.c2 (show Kd.M k100 _ _ _ (⟨a0_1,a1_1⟩:S100) [.int .i64 a0_1,.int .i64 a1_1] from (k100_mkM _ _ _ (⟨a0_1,a1_1⟩:S100) )) (Reps.c2 (show Kd.M k100 _ _ _ (⟨a0_2,a1_2⟩:S100) [.int .i64 a0_2,.int .i64 a1_2] from (k100_mkM _ _ _ (⟨a0_2,a1_2⟩:S100) )) (Reps.none _ _)))));intro v493 w8 ho9 hb hg_ hnew_;clear hg_ hnew_;(first|rw [← Ny492.out] at ho9|(simp only [Int.reduceToNat] at ho9;rw [← Ny492.out] at ho9));have HO494:=mA (Kd.R_lower ho9 (bpS HB));replace BK490:=bK BK490 hb;replace BK491:=bK BK491 hb;replace HB:=spS HB hb;clear hb ho9;obtain ⟨Ao10,co10,rfl⟩:=Kd.R_slice HO494.out))
 go_loopg [24] k (fun kq v24 w'=>∃ (x24_1:Int),v24=.int .i64 x24_1∧Aside0 (impl_pieceWay.l0 kq y492 (y492.length:Int) x24_1=some r)∧Aside0 (kq≤k)∧Aside0 (Kd.R k100 100 w' w.heap.size (fun _=>True) (.slice Ao10 y492.length co10) y492)∧Aside0 (w'.heap[gb490]?=some (.cells #[.int .i64 a0_0,.int .i64 a0_1,.int .i64 a0_2,.int .i64 a0_3] 164 (0,0)))∧Aside0 (w'.heap[gb491]?=some (.cells #[.int .i64 a1_0,.int .i64 a1_1,.int .i64 a1_2,.int .i64 a1_3] 164 (0,0)))∧Aside0 (Below w.heap.size w w'))
 case atStart=>exact ⟨(0),bZ,H',⟨Nat.le_refl _⟩,⟨pR HO494.out⟩,⟨pK BK490.out⟩,⟨pK BK491.out⟩,⟨pS HB.out⟩⟩
 case round =>
  clear H'
  (try clear hcz6_0);(try clear hcz6_1);(try clear hcz6_2);(try clear hcz6_3);(try clear hcz7_0);(try clear hcz7_1);(try clear hcz7_2);(try clear hcz7_3);(try clear hfz6_0);(try clear hfz6_1);(try clear hfz6_2);(try clear hfz6_3);(try clear hfz7_0);(try clear hfz7_1);(try clear hfz7_2);(try clear hfz7_3)
  obtain ⟨x24_1,rfl,HA,HK1,HO_22,BK490,BK491,HB⟩:=hrel
  cases gk with
  | zero=>exact absurd HA.out (by simp [impl_pieceWay.l0])
  | succ k1 =>
   have H:=HA.out;clear HA;simp only [impl_pieceWay.l0] at H
   by_cases c11:x24_1<(y492.length:Int)
   ·rw [if_pos c11] at H;have c11b0:decide (x24_1<(y492.length:Int))=true:=decide_eq_true c11;clear c11
    by_cases c12:0≤x24_1
    ·rw [if_pos c12] at H;have c12b0:decide (0≤x24_1)=true:=decide_eq_true c12;clear c12
     by_cases c13:x24_1<(y492.length:Int)
     ·rw [if_pos c13] at H;have c13b0:decide (x24_1<(y492.length:Int))=true:=decide_eq_true c13;clear c13
      by_cases c14:((rd_T100 y492 x24_1).f0)<((rd_T100 y492 x24_1).f1)
      ·rw [if_pos c14] at H;have c14b0:decide (((rd_T100 y492 x24_1).f0)<((rd_T100 y492 x24_1).f1))=true:=decide_eq_true c14;clear c14;obtain rfl:=Option.some.inj H;have p495:0≤(x24_1:Int):=of_decide_eq_true bA;have q495:x24_1<(y492.length:Int):=of_decide_eq_true bA;obtain ⟨ad495,e495,hx495_0,hx495_1⟩:=at_T100 (Kd.R_reads' HO_22.out).2.2 x24_1 p495 q495;cases e495;replace p495:=eq_true p495;replace q495:=eq_true q495
       go_wp2_with (first|((with_reducible refine gT 6 rfl ?_);refine bE 6 #[.int .i64 0,.int .i64 0] 100 ?_;intro gb496 hg w15 hbox hb;replace HO_22:=mA (Kd.R_below (Kd.R_elderB (pR HO_22.out) gb496 (Nat.le_of_eq hg.symm)) hb);have BK496:=mA hbox;have GW496:=gbpS HB hg;have GE496:=gbpS HB hg;replace HB:=spS HB hb;have NB490_496:=mA (lN (blk_lt (pK BK490.out)) hg);have hN490_496:=NB490_496.out;have NB496_490:=nS NB490_496;have hN496_490:=NB496_490.out;replace BK490:=bK BK490 hb;have NB491_496:=mA (lN (blk_lt (pK BK491.out)) hg);have hN491_496:=NB491_496.out;have NB496_491:=nS NB491_496;have hN496_491:=NB496_491.out;replace BK491:=bK BK491 hb;clear hb hbox hg;obtain ⟨hcz18_0,hcz18_1,hfz18_0,hfz18_1⟩:=box2 BK496.out))
       go_ret
       exact rZ (pS HB.out)
      ·rw [if_neg c14] at H;have c14b0:decide (((rd_T100 y492 x24_1).f0)<((rd_T100 y492 x24_1).f1))=false:=decide_eq_false c14;clear c14
       by_cases c19:((rd_T100 y492 x24_1).f0) > ((rd_T100 y492 x24_1).f1)
       ·rw [if_pos c19] at H;have c19b0:decide (((rd_T100 y492 x24_1).f1)<((rd_T100 y492 x24_1).f0))=true:=decide_eq_true c19;clear c19;obtain rfl:=Option.some.inj H;have p495:0≤(x24_1:Int):=of_decide_eq_true bA;have q495:x24_1<(y492.length:Int):=of_decide_eq_true bA;obtain ⟨ad495,e495,hx495_0,hx495_1⟩:=at_T100 (Kd.R_reads' HO_22.out).2.2 x24_1 p495 q495;cases e495;replace p495:=eq_true p495;replace q495:=eq_true q495
        go_wp2_with (first|((with_reducible refine gT 6 rfl ?_);refine bE 6 #[.int .i64 0,.int .i64 0] 100 ?_;intro gb496 hg w20 hbox hb;replace HO_22:=mA (Kd.R_below (Kd.R_elderB (pR HO_22.out) gb496 (Nat.le_of_eq hg.symm)) hb);have BK496:=mA hbox;have GW496:=gbpS HB hg;have GE496:=gbpS HB hg;replace HB:=spS HB hb;have NB490_496:=mA (lN (blk_lt (pK BK490.out)) hg);have hN490_496:=NB490_496.out;have NB496_490:=nS NB490_496;have hN496_490:=NB496_490.out;replace BK490:=bK BK490 hb;have NB491_496:=mA (lN (blk_lt (pK BK491.out)) hg);have hN491_496:=NB491_496.out;have NB496_491:=nS NB491_496;have hN496_491:=NB496_491.out;replace BK491:=bK BK491 hb;clear hb hbox hg;obtain ⟨hcz23_0,hcz23_1,hfz23_0,hfz23_1⟩:=box2 BK496.out))
        go_ret
        exact rZ (pS HB.out)
       ·rw [if_neg c19] at H;have c19b0:decide (((rd_T100 y492 x24_1).f1)<((rd_T100 y492 x24_1).f0))=false:=decide_eq_false c19;clear c19;have H':=mA H;clear H;have p495:0≤(x24_1:Int):=of_decide_eq_true bA;have q495:x24_1<(y492.length:Int):=of_decide_eq_true bA;obtain ⟨ad495,e495,hx495_0,hx495_1⟩:=at_T100 (Kd.R_reads' HO_22.out).2.2 x24_1 p495 q495;cases e495;replace p495:=eq_true p495;replace q495:=eq_true q495
        go_wp2_with (first|((with_reducible refine gT 6 rfl ?_);refine bE 6 #[.int .i64 0,.int .i64 0] 100 ?_;intro gb496 hg w24 hbox hb;replace HO_22:=mA (Kd.R_below (Kd.R_elderB (pR HO_22.out) gb496 (Nat.le_of_eq hg.symm)) hb);have BK496:=mA hbox;have GW496:=gbpS HB hg;have GE496:=gbpS HB hg;replace HB:=spS HB hb;have NB490_496:=mA (lN (blk_lt (pK BK490.out)) hg);have hN490_496:=NB490_496.out;have NB496_490:=nS NB490_496;have hN496_490:=NB496_490.out;replace BK490:=bK BK490 hb;have NB491_496:=mA (lN (blk_lt (pK BK491.out)) hg);have hN491_496:=NB491_496.out;have NB496_491:=nS NB491_496;have hN496_491:=NB496_491.out;replace BK491:=bK BK491 hb;clear hb hbox hg;obtain ⟨hcz27_0,hcz27_1,hfz27_0,hfz27_1⟩:=box2 BK496.out))
        go_roundg k1
        case measure=>have:=HK1.out;omega
        case rel=>exact ⟨(wrap64 (x24_1+1)),bZ,H',⟨by have:=HK1.out;omega⟩,⟨pR (Kd.R_mono (Kd.R_far (p:=⟨gb496,1,none⟩) (Kd.R_far (p:=⟨gb496,0,none⟩) (Kd.R_mono HO_22.out (fun k_ hk=>(⟨hk,hk.2⟩:_∧k_≠gb496))) (fun _ hk=>hk.2) (.int .i64 ((rd_T100 y492 x24_1).f0))) (fun _ hk=>hk.2) (.int .i64 ((rd_T100 y492 x24_1).f1))) (fun _ hk=>trivial))⟩,⟨pF BK490.out⟩,⟨pF BK491.out⟩,⟨pS HB.out⟩⟩
     ·rw [if_neg c13] at H
      exact absurd H (by simp)
    ·rw [if_neg c12] at H
     exact absurd H (by simp)
   ·rw [if_neg c11] at H;have c11b0:decide (x24_1<(y492.length:Int))=false:=decide_eq_false c11;clear c11;obtain rfl:=Option.some.inj H
    go_wp2
    go_ret
    exact rZ (pS HB.out)

end Go.Proofs.Ytncohokalilnbaa.P
