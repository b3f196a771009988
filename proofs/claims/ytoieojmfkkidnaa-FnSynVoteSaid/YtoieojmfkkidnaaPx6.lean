-- printed by pprint.py (this session's program over the kit's printer) out of the translation. Lean checks it.
import Derived.Test.YtoieojmfkkidnaaPx0
import Derived.Test.YtoieojmfkkidnaaPx5
namespace Go.Proofs.Ytoieojmfkkidnaa.P
open Go.RowKit Go.Proofs.YtoieojmfkkidnaaX Go.Proofs.YtoieojmfkkidnaaW.PrintWords Go.Proofs.YtoieojmfkkidnaaW.PrintLast Go.Proofs.YtoieojmfkkidnaaW.PrintMore
attribute [local go_sem] max2_int min2_int max_two min_two max_three min_three max_four min_four   -- for this text's walks alone
set_option linter.unusedVariables false
set_option linter.unusedSimpArgs false
/-! ### impl_SynVoterOk: function 28 -/
def impl_SynVoterOk.l0 : Nat → List (S64) → Int → Int → Int → List (S64) → Option (Bool)
 | 0,_,_,_,_,_=>none
 | k+1,x6,x7,x8,x141000,x141001=>if x8<x7 then (if 0≤x8 then (if x8<(x6.length:Int) then ((impl_paperOk.f k ((rd_T64 x6 x8).f0) ((rd_T64 x6 x8).f1) ((rd_T64 x6 x8).f2.f0) ((rd_T64 x6 x8).f2.f1) ((rd_T64 x6 x8).f2.f2) ((rd_T64 x6 x8).f2.f3) ((rd_T64 x6 x8).f2.f4) ((rd_T64 x6 x8).f2.f5) ((rd_T64 x6 x8).f2.f6) ((rd_T64 x6 x8).f2.f7) ((rd_T64 x6 x8).f2.f8) ((rd_T64 x6 x8).f2.f9)).bind fun t143=>(if t143=true then (if ((rd_T64 x6 x8).f1) > x141000 then (some false) else (if x8 > 0 then (if 0≤(wrap64 (x8 - 1)) then (if (wrap64 (x8 - 1))<(x141001.length:Int) then (if ((rd_T64 x141001 (wrap64 (x8 - 1))).f0) ≥ ((rd_T64 x6 x8).f0) then (some false) else (impl_SynVoterOk.l0 k x6 x7 (wrap64 (x8+1)) x141000 x141001)) else (none)) else (none)) else (impl_SynVoterOk.l0 k x6 x7 (wrap64 (x8+1)) x141000 x141001))) else (some false))) else (none)) else (none)) else ((impl_in.f x141000 0 99999).bind fun t145=>(if t145=true then (some (decide ((x141001.length:Int)≤60))) else (some false)))
def impl_SynVoterOk.f (k : Nat) (a0_0 : Int) (l0_1 : List (S64)) : Option (Bool) := impl_SynVoterOk.l0 k l0_1 (l0_1.length : Int) 0 a0_0 l0_1
def impl_SynVoterOk.T4 : Bool × List (List Nat × List Nat) := (true, [([], []), ([0], [0]), ([1], [1]), ([2, 1], [2]), ([3], [3]), ([4, 3], [3, 4]), ([3], [3]), ([6, 3], [3, 6]), ([5, 7, 3], [3, 5, 7]), ([3, 8], [3, 8]), ([9, 3], [9]), ([10], [10]), ([11, 10], [10, 11]), ([12, 10, 10], [10, 12]), ([13], [13]), ([14, 13], [13, 14]), ([13], [13]), ([16, 13], [13, 16]), ([15, 17, 13], [13, 15, 17]), ([18, 13], [13, 18]), ([19, 13], [13, 19]), ([13], [13]), ([21, 13], [13, 21]), ([20, 22, 13], [13, 20, 22]), ([13, 23, 10], [10, 13, 23]), ([10, 24], [10, 24])])
def impl_SynVoterOk.B4 : List Nat := [0, 1, 3, 7, 15, 31, 15, 79, 255, 511, 1023, 2047, 4095, 8191, 16383, 32767, 16383, 81919, 262143, 524287, 1048575, 16383, 2113535, 8388607, 16777215, 33554431]
theorem impl_SynVoterOk.tab4 : rtab .any (opsOf Try.f28 4) = impl_SynVoterOk.T4 := by kernel_rfl
theorem impl_SynVoterOk.bits4 : waitsOk impl_SynVoterOk.T4.2 impl_SynVoterOk.B4 = true := by kernel_rfl
set_option maxHeartbeats 8000000 in
set_option maxRecDepth 100000 in
theorem impl_SynVoterOk.calls {k : Nat} {a0_0 : Int} {A0_1 : Option Addr} {c0_1 : Nat} {l0_1 : List (S64)} {r : Bool} {w : World} (hr0_1 : Kd.C k64 w A0_1 l0_1.length l0_1) (hc0_1 : l0_1.length ≤ c0_1) (h : impl_SynVoterOk.f k a0_0 l0_1 = some r) :
  Calls Try.prog 28 #[.agg #[.int .i64 a0_0,.slice A0_1 l0_1.length c0_1]] w fun e w'=>e=.returned (.bool r)∧Below w.heap.size w w':=by
 have hu52:=Try.underlying52;have hu64:=Try.underlying64;have HR0_1:=mA hr0_1;have HC0_1:=mA hc0_1;clear hr0_1 hc0_1;have HB:=mA (Below.refl w.heap.size w);have H:(impl_SynVoterOk.l0 k l0_1 (l0_1.length:Int) 0 a0_0 l0_1)=some r:=h;clear h;have H':=mA H;clear H
 go_enter Try.func28,Try.ntmps28
 go_wp2_with (first|((with_reducible refine gLg rfl (by assumption) ?_);first|refine ldW ?_|refine ldX ?_)|((with_reducible refine gLg rfl (by assumption) ?_);refine ldV ?_)|((with_reducible refine gSt rfl (by assumption) ?_);refine stV ?_)|((with_reducible refine gT 1 rfl ?_);(try (refine gate_guard (by rfl) ?_;dsimp only));refine bE 1 #[.int .i64 a0_0,.slice A0_1 l0_1.length c0_1] 52 ?_;intro gb140 hg w2 hbox hb;have BK140:=mA hbox;have GW140:=gbpB HB hg;have GE140:=gbpB HB hg;replace HB:=spB HB hb;clear hb hbox hg;obtain ⟨hcz3_0,hcz3_1,hfz3_0,hfz3_1⟩:=box2 BK140.out))
 go_loopg [8] k (fun kq v8 w'=>∃ (x8_1:Int),v8=.int .i64 x8_1∧Aside0 (impl_SynVoterOk.l0 kq l0_1 (l0_1.length:Int) x8_1 a0_0 l0_1=some r)∧Aside0 (kq≤k)∧Aside0 (w'.heap[gb140]?=some (.cells #[.int .i64 a0_0,(.slice A0_1 l0_1.length c0_1)] 52 (0,0)))∧Aside0 (Below w.heap.size w w'))
 case atStart=>exact ⟨(0),bZ,H',⟨Nat.le_refl _⟩,⟨pK BK140.out⟩,⟨pS HB.out⟩⟩
 case round =>
  clear H'
  (try clear hcz3_0);(try clear hcz3_1);(try clear hfz3_0);(try clear hfz3_1)
  obtain ⟨x8_1,rfl,HA,HK1,BK140,HB⟩:=hrel
  cases gk with
  | zero=>exact absurd HA.out (by simp [impl_SynVoterOk.l0])
  | succ k1 =>
   have H:=HA.out;clear HA;simp only [impl_SynVoterOk.l0] at H
   by_cases c4:x8_1<(l0_1.length:Int)
   ·rw [if_pos c4] at H;have c4b0:decide (x8_1<(l0_1.length:Int))=true:=decide_eq_true c4;clear c4
    by_cases c5:0≤x8_1
    ·rw [if_pos c5] at H;have c5b0:decide (0≤x8_1)=true:=decide_eq_true c5;clear c5
     by_cases c6:x8_1<(l0_1.length:Int)
     ·rw [if_pos c6] at H;have c6b0:decide (x8_1<(l0_1.length:Int))=true:=decide_eq_true c6;clear c6;obtain ⟨t143,A7,H⟩:=bI H;(try dsimp only at H)
      by_cases c8:t143=true
      ·subst c8;rw [if_pos rfl] at H
       by_cases c9:((rd_T64 l0_1 x8_1).f1) > a0_0
       ·rw [if_pos c9] at H;have c9b0:decide (a0_0<((rd_T64 l0_1 x8_1).f1))=true:=decide_eq_true c9;clear c9;obtain rfl:=Option.some.inj H;have p141:0≤(x8_1:Int):=of_decide_eq_true bA;have q141:x8_1<(l0_1.length:Int):=of_decide_eq_true bA;obtain ⟨ad141,e141,hs141⟩:=at_R64 HR0_1.out x8_1 p141 q141;have hx141_0:=RS.hd hs141 rfl;cases e141;replace hx141_0:=hC HB hx141_0;replace hs141:=rS HB hs141;obtain ⟨hx141_1,hx141_2,hx141_3,hx141_4,hx141_5,hx141_6,hx141_7,hx141_8,hx141_9,hx141_10,hx141_11,_⟩:=RS.cs hs141;replace p141:=eq_true p141;replace q141:=eq_true q141
        try go_wp2_with (first|((with_reducible refine gLg rfl (by assumption) ?_);first|refine ldW ?_|refine ldX ?_)|((with_reducible refine gLg rfl (by assumption) ?_);refine ldV ?_)|((with_reducible refine gSt rfl (by assumption) ?_);refine stV ?_)|((with_reducible refine gT 4 rfl ?_);(try (refine gate_guard (by rfl) ?_;dsimp only));refine bJ 4 y64 ?_;intro gb142 hg w10 hbox hb;have BK142:=mA hbox;have GW142:=gbpS HB hg;have GE142:=gbpS HB hg;replace HB:=spS HB hb;have NB140_142:=mA (lN (blk_lt (pK BK140.out)) hg);have hN140_142:=NB140_142.out;have NB142_140:=nS NB140_142;have hN142_140:=NB142_140.out;replace BK140:=bK BK140 hb;clear hb hbox hg;have hcz12_0:=fun i_=>blk_cell BK142.out i_;have hfz12_0:=fun i_=>blk_frozen BK142.out i_))
        generalize hW_:((((((((((((w10.setCell ⟨gb142,0,none⟩ (.int .i64 ((rd_T64 l0_1 x8_1).f0))).setCell ⟨gb142,1,none⟩ (.int .i64 ((rd_T64 l0_1 x8_1).f1))).setCell ⟨gb142,2,none⟩ (.int .i64 ((rd_T64 l0_1 x8_1).f2.f0))).setCell ⟨gb142,3,none⟩ (.int .i64 ((rd_T64 l0_1 x8_1).f2.f1))).setCell ⟨gb142,4,none⟩ (.int .i64 ((rd_T64 l0_1 x8_1).f2.f2))).setCell ⟨gb142,5,none⟩ (.int .i64 ((rd_T64 l0_1 x8_1).f2.f3))).setCell ⟨gb142,6,none⟩ (.int .i64 ((rd_T64 l0_1 x8_1).f2.f4))).setCell ⟨gb142,7,none⟩ (.int .i64 ((rd_T64 l0_1 x8_1).f2.f5))).setCell ⟨gb142,8,none⟩ (.int .i64 ((rd_T64 l0_1 x8_1).f2.f6))).setCell ⟨gb142,9,none⟩ (.int .i64 ((rd_T64 l0_1 x8_1).f2.f7))).setCell ⟨gb142,10,none⟩ (.int .i64 ((rd_T64 l0_1 x8_1).f2.f8))).setCell ⟨gb142,11,none⟩ (.int .i64 ((rd_T64 l0_1 x8_1).f2.f9)))=w13
        have n0_:Aside0 (w13.heap[gb140]?=some (.cells #[.int .i64 a0_0,.slice (some ad141) l0_1.length c0_1] 52 (0,0))):=⟨by rw [← hW_];exact pF BK140.out⟩;have n1_:Aside0 (w13.heap[gb142]?=some (.cells #[.int .i64 ((rd_T64 l0_1 x8_1).f0),.int .i64 ((rd_T64 l0_1 x8_1).f1),.int .i64 ((rd_T64 l0_1 x8_1).f2.f0),.int .i64 ((rd_T64 l0_1 x8_1).f2.f1),.int .i64 ((rd_T64 l0_1 x8_1).f2.f2),.int .i64 ((rd_T64 l0_1 x8_1).f2.f3),.int .i64 ((rd_T64 l0_1 x8_1).f2.f4),.int .i64 ((rd_T64 l0_1 x8_1).f2.f5),.int .i64 ((rd_T64 l0_1 x8_1).f2.f6),.int .i64 ((rd_T64 l0_1 x8_1).f2.f7),.int .i64 ((rd_T64 l0_1 x8_1).f2.f8),.int .i64 ((rd_T64 l0_1 x8_1).f2.f9)] 64 (0,0))):=⟨by rw [← hW_];exact pP BK142⟩;have n2_:Aside0 (Below w.heap.size w w13):=⟨by rw [← hW_];exact pS HB.out⟩
        (try clear BK140);(try clear BK142);(try clear HB);clear hW_
        have BK140:=n0_;have BK142:=n1_;have HB:=n2_;clear n0_ n1_ n2_;replace BK140:=mA (blk_drew BK140.out);replace BK142:=mA (blk_drew BK142.out);replace HB:=mA (below_drew1 HB.out)
        refine start_ (n:=26) (S:=fun w'=>w'.heap[gb142]?=some (.cells #[.int .i64 ((rd_T64 l0_1 x8_1).f0),.int .i64 ((rd_T64 l0_1 x8_1).f1),.int .i64 ((rd_T64 l0_1 x8_1).f2.f0),.int .i64 ((rd_T64 l0_1 x8_1).f2.f1),.int .i64 ((rd_T64 l0_1 x8_1).f2.f2),.int .i64 ((rd_T64 l0_1 x8_1).f2.f3),.int .i64 ((rd_T64 l0_1 x8_1).f2.f4),.int .i64 ((rd_T64 l0_1 x8_1).f2.f5),.int .i64 ((rd_T64 l0_1 x8_1).f2.f6),.int .i64 ((rd_T64 l0_1 x8_1).f2.f7),.int .i64 ((rd_T64 l0_1 x8_1).f2.f8),.int .i64 ((rd_T64 l0_1 x8_1).f2.f9)] 64 (0,0))∧w'.heap[gb140]?=some (.cells #[.int .i64 a0_0,.slice (some ad141) l0_1.length c0_1] 52 (0,0))) (ds:=[]) _ aK rfl rfl ⟨BK142.out,BK140.out⟩ (fun hHeld=>?_);refine with_tabW impl_SynVoterOk.tab4 impl_SynVoterOk.bits4 (fun HT_ HW_=>?_)
        generalize w13.drew=w14 at BK140 BK142 HB hHeld ⊢
        refine qt 0 ?_
        refine qo 1 ?_;intro K hK
        refine gD Try.func88 (impl_paperOk.calls A7.out) ?_
        rintro e w15 ⟨rfl,hb⟩;refine ⟨_,rfl,?_⟩;replace BK140:=bK BK140 hb;replace BK142:=bK BK142 hb;replace HB:=spS HB hb
        (try clear hb)
        refine hK.out _ _ ⟨BK142.out,BK140.out⟩ (fun hHeld=>?_);clear hK K;refine no_ (some 14) ?_;refine qu 2 ?_;refine qu 3 ?_;refine qu 4 ?_;refine qu 6 ?_;refine qt 5 ?_;refine qt 7 ?_;refine qu 8 ?_;refine qu 9 ?_;refine qu 10 ?_;refine qd 11 ?_;refine qd 12 ?_;refine qd 13 ?_;refine qd 14 ?_;refine qd 15 ?_;refine qd 16 ?_;refine qd 17 ?_;refine qd 18 ?_;refine qd 19 ?_;refine qd 20 ?_;refine qd 21 ?_;refine qd 22 ?_;refine qd 23 ?_;refine qd 24 ?_;refine qu 25 ?_;refine qe ?_
        try go_wp2_with (first|((with_reducible refine gLg rfl (by assumption) ?_);first|refine ldW ?_|refine ldX ?_)|((with_reducible refine gLg rfl (by assumption) ?_);refine ldV ?_)|((with_reducible refine gSt rfl (by assumption) ?_);refine stV ?_))
        go_ret
        exact rZ (pS HB.out)
       ·rw [if_neg c9] at H;have c9b0:decide (a0_0<((rd_T64 l0_1 x8_1).f1))=false:=decide_eq_false c9;clear c9
        by_cases c16:x8_1 > 0
        ·rw [if_pos c16] at H;have c16b0:decide (0<x8_1)=true:=decide_eq_true c16;clear c16;obtain ⟨ji17,hji17⟩:∃ j_:Int,(wrap64 (x8_1 - 1))=j_:=⟨_,rfl⟩
         replace H:(if 0≤(ji17) then (if (ji17)<(l0_1.length:Int) then (if ((rd_T64 l0_1 (ji17)).f0) ≥ ((rd_T64 l0_1 x8_1).f0) then (some false) else (impl_SynVoterOk.l0 k1 l0_1 (l0_1.length:Int) (wrap64 (x8_1+1)) a0_0 l0_1)) else (none)) else (none))=some r:=by first|(rw [hji17] at H;exact H)|(simp only [hji17] at H ⊢;exact H)
         (try rw [hji17] at A7)
         have hji17w:(IntKind.i64.wrap (x8_1 - 1))=ji17:=(i64_w _).trans hji17
         by_cases c18:0≤(ji17)
         ·rw [if_pos c18] at H;have c18b0:decide (0≤(ji17))=true:=decide_eq_true c18;clear c18
          by_cases c19:(ji17)<(l0_1.length:Int)
          ·rw [if_pos c19] at H;have c19b0:decide ((ji17)<(l0_1.length:Int))=true:=decide_eq_true c19;clear c19
           by_cases c20:((rd_T64 l0_1 (ji17)).f0) ≥ ((rd_T64 l0_1 x8_1).f0)
           ·rw [if_pos c20] at H;have c20b0:decide (((rd_T64 l0_1 x8_1).f0)≤((rd_T64 l0_1 (ji17)).f0))=true:=decide_eq_true c20;clear c20;obtain rfl:=Option.some.inj H;have p141:0≤(x8_1:Int):=of_decide_eq_true bA;have q141:x8_1<(l0_1.length:Int):=of_decide_eq_true bA;obtain ⟨ad141,e141,hs141⟩:=at_R64 HR0_1.out x8_1 p141 q141;have hx141_0:=RS.hd hs141 rfl;cases e141;replace hx141_0:=hC HB hx141_0;replace hs141:=rS HB hs141;obtain ⟨hx141_1,hx141_2,hx141_3,hx141_4,hx141_5,hx141_6,hx141_7,hx141_8,hx141_9,hx141_10,hx141_11,_⟩:=RS.cs hs141;replace p141:=eq_true p141;replace q141:=eq_true q141
            try go_wp2_with (first|((with_reducible refine gLg rfl (by assumption) ?_);first|refine ldW ?_|refine ldX ?_)|((with_reducible refine gLg rfl (by assumption) ?_);refine ldV ?_)|((with_reducible refine gSt rfl (by assumption) ?_);refine stV ?_)|((with_reducible refine gT 4 rfl ?_);(try (refine gate_guard (by rfl) ?_;dsimp only));refine bJ 4 y64 ?_;intro gb142 hg w21 hbox hb;have BK142:=mA hbox;have GW142:=gbpS HB hg;have GE142:=gbpS HB hg;replace HB:=spS HB hb;have NB140_142:=mA (lN (blk_lt (pK BK140.out)) hg);have hN140_142:=NB140_142.out;have NB142_140:=nS NB140_142;have hN142_140:=NB142_140.out;replace BK140:=bK BK140 hb;clear hb hbox hg;have hcz23_0:=fun i_=>blk_cell BK142.out i_;have hfz23_0:=fun i_=>blk_frozen BK142.out i_))
            generalize hW_:((((((((((((w21.setCell ⟨gb142,0,none⟩ (.int .i64 ((rd_T64 l0_1 x8_1).f0))).setCell ⟨gb142,1,none⟩ (.int .i64 ((rd_T64 l0_1 x8_1).f1))).setCell ⟨gb142,2,none⟩ (.int .i64 ((rd_T64 l0_1 x8_1).f2.f0))).setCell ⟨gb142,3,none⟩ (.int .i64 ((rd_T64 l0_1 x8_1).f2.f1))).setCell ⟨gb142,4,none⟩ (.int .i64 ((rd_T64 l0_1 x8_1).f2.f2))).setCell ⟨gb142,5,none⟩ (.int .i64 ((rd_T64 l0_1 x8_1).f2.f3))).setCell ⟨gb142,6,none⟩ (.int .i64 ((rd_T64 l0_1 x8_1).f2.f4))).setCell ⟨gb142,7,none⟩ (.int .i64 ((rd_T64 l0_1 x8_1).f2.f5))).setCell ⟨gb142,8,none⟩ (.int .i64 ((rd_T64 l0_1 x8_1).f2.f6))).setCell ⟨gb142,9,none⟩ (.int .i64 ((rd_T64 l0_1 x8_1).f2.f7))).setCell ⟨gb142,10,none⟩ (.int .i64 ((rd_T64 l0_1 x8_1).f2.f8))).setCell ⟨gb142,11,none⟩ (.int .i64 ((rd_T64 l0_1 x8_1).f2.f9)))=w24
            have n0_:Aside0 (w24.heap[gb140]?=some (.cells #[.int .i64 a0_0,.slice (some ad141) l0_1.length c0_1] 52 (0,0))):=⟨by rw [← hW_];exact pF BK140.out⟩;have n1_:Aside0 (w24.heap[gb142]?=some (.cells #[.int .i64 ((rd_T64 l0_1 x8_1).f0),.int .i64 ((rd_T64 l0_1 x8_1).f1),.int .i64 ((rd_T64 l0_1 x8_1).f2.f0),.int .i64 ((rd_T64 l0_1 x8_1).f2.f1),.int .i64 ((rd_T64 l0_1 x8_1).f2.f2),.int .i64 ((rd_T64 l0_1 x8_1).f2.f3),.int .i64 ((rd_T64 l0_1 x8_1).f2.f4),.int .i64 ((rd_T64 l0_1 x8_1).f2.f5),.int .i64 ((rd_T64 l0_1 x8_1).f2.f6),.int .i64 ((rd_T64 l0_1 x8_1).f2.f7),.int .i64 ((rd_T64 l0_1 x8_1).f2.f8),.int .i64 ((rd_T64 l0_1 x8_1).f2.f9)] 64 (0,0))):=⟨by rw [← hW_];exact pP BK142⟩;have n2_:Aside0 (Below w.heap.size w w24):=⟨by rw [← hW_];exact pS HB.out⟩
            (try clear BK140);(try clear BK142);(try clear HB);clear hW_
            have BK140:=n0_;have BK142:=n1_;have HB:=n2_;clear n0_ n1_ n2_;replace BK140:=mA (blk_drew BK140.out);replace BK142:=mA (blk_drew BK142.out);replace HB:=mA (below_drew1 HB.out);have p144:0≤((ji17):Int):=of_decide_eq_true bA;have q144:(ji17)<(l0_1.length:Int):=of_decide_eq_true bA;obtain ⟨ad144,e144,hs144⟩:=at_R64 HR0_1.out (ji17) p144 q144
            obtain rfl:ad141=ad144:=(by injection e144)
            replace p144:=eq_true p144;replace q144:=eq_true q144
            refine start_ (n:=26) (S:=fun w'=>w'.cell? ⟨gb142,0,none⟩=some (.int .i64 ((rd_T64 l0_1 x8_1).f0))∧w'.cell? ⟨gb142,1,none⟩=some (.int .i64 ((rd_T64 l0_1 x8_1).f1))∧w'.cell? ⟨gb142,2,none⟩=some (.int .i64 ((rd_T64 l0_1 x8_1).f2.f0))∧w'.cell? ⟨gb142,3,none⟩=some (.int .i64 ((rd_T64 l0_1 x8_1).f2.f1))∧w'.cell? ⟨gb142,4,none⟩=some (.int .i64 ((rd_T64 l0_1 x8_1).f2.f2))∧w'.cell? ⟨gb142,5,none⟩=some (.int .i64 ((rd_T64 l0_1 x8_1).f2.f3))∧w'.cell? ⟨gb142,6,none⟩=some (.int .i64 ((rd_T64 l0_1 x8_1).f2.f4))∧w'.cell? ⟨gb142,7,none⟩=some (.int .i64 ((rd_T64 l0_1 x8_1).f2.f5))∧w'.cell? ⟨gb142,8,none⟩=some (.int .i64 ((rd_T64 l0_1 x8_1).f2.f6))∧w'.cell? ⟨gb142,9,none⟩=some (.int .i64 ((rd_T64 l0_1 x8_1).f2.f7))∧w'.cell? ⟨gb142,10,none⟩=some (.int .i64 ((rd_T64 l0_1 x8_1).f2.f8))∧w'.cell? ⟨gb142,11,none⟩=some (.int .i64 ((rd_T64 l0_1 x8_1).f2.f9))∧w'.cell? ⟨gb140,0,none⟩=some (.int .i64 a0_0)∧w'.cell? ⟨gb140,1,none⟩=some (.slice (some ad141) l0_1.length c0_1)∧RS w' (ad141.add (((ji17)).toNat * 12)) (d64 (rd_T64 l0_1 (ji17)))) (ds:=[]) _ aK rfl rfl ⟨eC BK142 0,eC BK142 1,eC BK142 2,eC BK142 3,eC BK142 4,eC BK142 5,eC BK142 6,eC BK142 7,eC BK142 8,eC BK142 9,eC BK142 10,eC BK142 11,eC BK140 0,eC BK140 1,rS HB hs144⟩ (fun hHeld=>?_);refine with_tabW impl_SynVoterOk.tab4 impl_SynVoterOk.bits4 (fun HT_ HW_=>?_)
            generalize w24.drew=w25 at BK140 BK142 HB hHeld ⊢
            refine qt 0 ?_
            refine qo 1 ?_;intro K hK
            refine gD Try.func88 (impl_paperOk.calls A7.out) ?_
            rintro e w26 ⟨rfl,hb⟩;refine ⟨_,rfl,?_⟩;replace BK140:=bK BK140 hb;replace BK142:=bK BK142 hb;replace HB:=spS HB hb
            (try clear hb)
            refine hK.out _ _ ⟨eC BK142 0,eC BK142 1,eC BK142 2,eC BK142 3,eC BK142 4,eC BK142 5,eC BK142 6,eC BK142 7,eC BK142 8,eC BK142 9,eC BK142 10,eC BK142 11,eC BK140 0,eC BK140 1,rS HB hs144⟩ (fun hHeld=>?_);clear hK K;refine no_ (some 14) ?_;refine qu 2 ?_;refine qu 3 ?_;refine qu 4 ?_;refine qu 6 ?_;refine qt 5 ?_;refine qt 7 ?_;refine qu 8 ?_;refine qu 9 ?_;refine qu 10 ?_;refine qu 11 ?_;refine qu 12 ?_;refine qu 13 ?_;refine qu 14 ?_;refine qu 16 ?_;refine qu 17 ?_;refine qu 21 ?_;refine qt 15 ?_;refine qu 18 ?_;refine qu 19 ?_;refine qt 20 ?_;refine qt 22 ?_;refine qu 23 ?_;refine qu 24 ?_;refine qu 25 ?_;refine qe ?_
            try go_wp2_with (first|((with_reducible refine gLg rfl (by assumption) ?_);first|refine ldW ?_|refine ldX ?_)|((with_reducible refine gLg rfl (by assumption) ?_);refine ldV ?_)|((with_reducible refine gSt rfl (by assumption) ?_);refine stV ?_))
            go_ret
            exact ⟨by first|rfl|(simp [errW_none,errW_some]<;>rfl)|(simp only [← hji17];first|rfl|(simp [errW_none,errW_some]<;>rfl))|(simp [*,errW_none,errW_some]<;>rfl),pS HB.out⟩
           ·rw [if_neg c20] at H;have c20b0:decide (((rd_T64 l0_1 x8_1).f0)≤((rd_T64 l0_1 (ji17)).f0))=false:=decide_eq_false c20;clear c20;have H':=mA H;clear H;have p141:0≤(x8_1:Int):=of_decide_eq_true bA;have q141:x8_1<(l0_1.length:Int):=of_decide_eq_true bA;obtain ⟨ad141,e141,hs141⟩:=at_R64 HR0_1.out x8_1 p141 q141;have hx141_0:=RS.hd hs141 rfl;cases e141;replace hx141_0:=hC HB hx141_0;replace hs141:=rS HB hs141;obtain ⟨hx141_1,hx141_2,hx141_3,hx141_4,hx141_5,hx141_6,hx141_7,hx141_8,hx141_9,hx141_10,hx141_11,_⟩:=RS.cs hs141;replace p141:=eq_true p141;replace q141:=eq_true q141
            try go_wp2_with (first|((with_reducible refine gLg rfl (by assumption) ?_);first|refine ldW ?_|refine ldX ?_)|((with_reducible refine gLg rfl (by assumption) ?_);refine ldV ?_)|((with_reducible refine gSt rfl (by assumption) ?_);refine stV ?_)|((with_reducible refine gT 4 rfl ?_);(try (refine gate_guard (by rfl) ?_;dsimp only));refine bJ 4 y64 ?_;intro gb142 hg w27 hbox hb;have BK142:=mA hbox;have GW142:=gbpS HB hg;have GE142:=gbpS HB hg;replace HB:=spS HB hb;have NB140_142:=mA (lN (blk_lt (pK BK140.out)) hg);have hN140_142:=NB140_142.out;have NB142_140:=nS NB140_142;have hN142_140:=NB142_140.out;replace BK140:=bK BK140 hb;clear hb hbox hg;have hcz29_0:=fun i_=>blk_cell BK142.out i_;have hfz29_0:=fun i_=>blk_frozen BK142.out i_))
            generalize hW_:((((((((((((w27.setCell ⟨gb142,0,none⟩ (.int .i64 ((rd_T64 l0_1 x8_1).f0))).setCell ⟨gb142,1,none⟩ (.int .i64 ((rd_T64 l0_1 x8_1).f1))).setCell ⟨gb142,2,none⟩ (.int .i64 ((rd_T64 l0_1 x8_1).f2.f0))).setCell ⟨gb142,3,none⟩ (.int .i64 ((rd_T64 l0_1 x8_1).f2.f1))).setCell ⟨gb142,4,none⟩ (.int .i64 ((rd_T64 l0_1 x8_1).f2.f2))).setCell ⟨gb142,5,none⟩ (.int .i64 ((rd_T64 l0_1 x8_1).f2.f3))).setCell ⟨gb142,6,none⟩ (.int .i64 ((rd_T64 l0_1 x8_1).f2.f4))).setCell ⟨gb142,7,none⟩ (.int .i64 ((rd_T64 l0_1 x8_1).f2.f5))).setCell ⟨gb142,8,none⟩ (.int .i64 ((rd_T64 l0_1 x8_1).f2.f6))).setCell ⟨gb142,9,none⟩ (.int .i64 ((rd_T64 l0_1 x8_1).f2.f7))).setCell ⟨gb142,10,none⟩ (.int .i64 ((rd_T64 l0_1 x8_1).f2.f8))).setCell ⟨gb142,11,none⟩ (.int .i64 ((rd_T64 l0_1 x8_1).f2.f9)))=w30
            have n0_:Aside0 (w30.heap[gb140]?=some (.cells #[.int .i64 a0_0,.slice (some ad141) l0_1.length c0_1] 52 (0,0))):=⟨by rw [← hW_];exact pF BK140.out⟩;have n1_:Aside0 (w30.heap[gb142]?=some (.cells #[.int .i64 ((rd_T64 l0_1 x8_1).f0),.int .i64 ((rd_T64 l0_1 x8_1).f1),.int .i64 ((rd_T64 l0_1 x8_1).f2.f0),.int .i64 ((rd_T64 l0_1 x8_1).f2.f1),.int .i64 ((rd_T64 l0_1 x8_1).f2.f2),.int .i64 ((rd_T64 l0_1 x8_1).f2.f3),.int .i64 ((rd_T64 l0_1 x8_1).f2.f4),.int .i64 ((rd_T64 l0_1 x8_1).f2.f5),.int .i64 ((rd_T64 l0_1 x8_1).f2.f6),.int .i64 ((rd_T64 l0_1 x8_1).f2.f7),.int .i64 ((rd_T64 l0_1 x8_1).f2.f8),.int .i64 ((rd_T64 l0_1 x8_1).f2.f9)] 64 (0,0))):=⟨by rw [← hW_];exact pP BK142⟩;have n2_:Aside0 (Below w.heap.size w w30):=⟨by rw [← hW_];exact pS HB.out⟩
            (try clear BK140);(try clear BK142);(try clear HB);clear hW_
            have BK140:=n0_;have BK142:=n1_;have HB:=n2_;clear n0_ n1_ n2_;replace BK140:=mA (blk_drew BK140.out);replace BK142:=mA (blk_drew BK142.out);replace HB:=mA (below_drew1 HB.out);have p144:0≤((ji17):Int):=of_decide_eq_true bA;have q144:(ji17)<(l0_1.length:Int):=of_decide_eq_true bA;obtain ⟨ad144,e144,hs144⟩:=at_R64 HR0_1.out (ji17) p144 q144
            obtain rfl:ad141=ad144:=(by injection e144)
            replace p144:=eq_true p144;replace q144:=eq_true q144
            refine start_ (n:=26) (S:=fun w'=>w'.cell? ⟨gb142,0,none⟩=some (.int .i64 ((rd_T64 l0_1 x8_1).f0))∧w'.cell? ⟨gb142,1,none⟩=some (.int .i64 ((rd_T64 l0_1 x8_1).f1))∧w'.cell? ⟨gb142,2,none⟩=some (.int .i64 ((rd_T64 l0_1 x8_1).f2.f0))∧w'.cell? ⟨gb142,3,none⟩=some (.int .i64 ((rd_T64 l0_1 x8_1).f2.f1))∧w'.cell? ⟨gb142,4,none⟩=some (.int .i64 ((rd_T64 l0_1 x8_1).f2.f2))∧w'.cell? ⟨gb142,5,none⟩=some (.int .i64 ((rd_T64 l0_1 x8_1).f2.f3))∧w'.cell? ⟨gb142,6,none⟩=some (.int .i64 ((rd_T64 l0_1 x8_1).f2.f4))∧w'.cell? ⟨gb142,7,none⟩=some (.int .i64 ((rd_T64 l0_1 x8_1).f2.f5))∧w'.cell? ⟨gb142,8,none⟩=some (.int .i64 ((rd_T64 l0_1 x8_1).f2.f6))∧w'.cell? ⟨gb142,9,none⟩=some (.int .i64 ((rd_T64 l0_1 x8_1).f2.f7))∧w'.cell? ⟨gb142,10,none⟩=some (.int .i64 ((rd_T64 l0_1 x8_1).f2.f8))∧w'.cell? ⟨gb142,11,none⟩=some (.int .i64 ((rd_T64 l0_1 x8_1).f2.f9))∧w'.cell? ⟨gb140,0,none⟩=some (.int .i64 a0_0)∧w'.cell? ⟨gb140,1,none⟩=some (.slice (some ad141) l0_1.length c0_1)∧RS w' (ad141.add (((ji17)).toNat * 12)) (d64 (rd_T64 l0_1 (ji17)))) (ds:=[]) _ aK rfl rfl ⟨eC BK142 0,eC BK142 1,eC BK142 2,eC BK142 3,eC BK142 4,eC BK142 5,eC BK142 6,eC BK142 7,eC BK142 8,eC BK142 9,eC BK142 10,eC BK142 11,eC BK140 0,eC BK140 1,rS HB hs144⟩ (fun hHeld=>?_);refine with_tabW impl_SynVoterOk.tab4 impl_SynVoterOk.bits4 (fun HT_ HW_=>?_)
            generalize w30.drew=w31 at BK140 BK142 HB hHeld ⊢
            refine qt 0 ?_
            refine qo 1 ?_;intro K hK
            refine gD Try.func88 (impl_paperOk.calls A7.out) ?_
            rintro e w32 ⟨rfl,hb⟩;refine ⟨_,rfl,?_⟩;replace BK140:=bK BK140 hb;replace BK142:=bK BK142 hb;replace HB:=spS HB hb
            (try clear hb)
            refine hK.out _ _ ⟨eC BK142 0,eC BK142 1,eC BK142 2,eC BK142 3,eC BK142 4,eC BK142 5,eC BK142 6,eC BK142 7,eC BK142 8,eC BK142 9,eC BK142 10,eC BK142 11,eC BK140 0,eC BK140 1,rS HB hs144⟩ (fun hHeld=>?_);clear hK K;refine no_ (some 14) ?_;refine qu 2 ?_;refine qu 3 ?_;refine qu 4 ?_;refine qu 6 ?_;refine qt 5 ?_;refine qt 7 ?_;refine qu 8 ?_;refine qu 9 ?_;refine qu 10 ?_;refine qu 11 ?_;refine qu 12 ?_;refine qu 13 ?_;refine qu 14 ?_;refine qu 16 ?_;refine qu 17 ?_;refine qu 21 ?_;refine qt 15 ?_;refine qu 18 ?_;refine qu 19 ?_;refine qt 20 ?_;refine qt 22 ?_;refine qu 23 ?_;refine qu 24 ?_;refine qu 25 ?_;refine qe ?_
            try go_wp2_with (first|((with_reducible refine gLg rfl (by assumption) ?_);first|refine ldW ?_|refine ldX ?_)|((with_reducible refine gLg rfl (by assumption) ?_);refine ldV ?_)|((with_reducible refine gSt rfl (by assumption) ?_);refine stV ?_))
            go_roundg k1
            case measure=>have:=HK1.out;omega
            case rel=>exact ⟨(wrap64 (x8_1+1)),bZ,H',⟨by have:=HK1.out;omega⟩,⟨pK BK140.out⟩,⟨pS HB.out⟩⟩
          ·rw [if_neg c19] at H
           exact absurd H (by simp)
         ·rw [if_neg c18] at H
          exact absurd H (by simp)
        ·rw [if_neg c16] at H;have c16b0:decide (0<x8_1)=false:=decide_eq_false c16;clear c16;have H':=mA H;clear H;have p141:0≤(x8_1:Int):=of_decide_eq_true bA;have q141:x8_1<(l0_1.length:Int):=of_decide_eq_true bA;obtain ⟨ad141,e141,hs141⟩:=at_R64 HR0_1.out x8_1 p141 q141;have hx141_0:=RS.hd hs141 rfl;cases e141;replace hx141_0:=hC HB hx141_0;replace hs141:=rS HB hs141;obtain ⟨hx141_1,hx141_2,hx141_3,hx141_4,hx141_5,hx141_6,hx141_7,hx141_8,hx141_9,hx141_10,hx141_11,_⟩:=RS.cs hs141;replace p141:=eq_true p141;replace q141:=eq_true q141
         try go_wp2_with (first|((with_reducible refine gLg rfl (by assumption) ?_);first|refine ldW ?_|refine ldX ?_)|((with_reducible refine gLg rfl (by assumption) ?_);refine ldV ?_)|((with_reducible refine gSt rfl (by assumption) ?_);refine stV ?_)|((with_reducible refine gT 4 rfl ?_);(try (refine gate_guard (by rfl) ?_;dsimp only));refine bJ 4 y64 ?_;intro gb142 hg w33 hbox hb;have BK142:=mA hbox;have GW142:=gbpS HB hg;have GE142:=gbpS HB hg;replace HB:=spS HB hb;have NB140_142:=mA (lN (blk_lt (pK BK140.out)) hg);have hN140_142:=NB140_142.out;have NB142_140:=nS NB140_142;have hN142_140:=NB142_140.out;replace BK140:=bK BK140 hb;clear hb hbox hg;have hcz35_0:=fun i_=>blk_cell BK142.out i_;have hfz35_0:=fun i_=>blk_frozen BK142.out i_))
         generalize hW_:((((((((((((w33.setCell ⟨gb142,0,none⟩ (.int .i64 ((rd_T64 l0_1 x8_1).f0))).setCell ⟨gb142,1,none⟩ (.int .i64 ((rd_T64 l0_1 x8_1).f1))).setCell ⟨gb142,2,none⟩ (.int .i64 ((rd_T64 l0_1 x8_1).f2.f0))).setCell ⟨gb142,3,none⟩ (.int .i64 ((rd_T64 l0_1 x8_1).f2.f1))).setCell ⟨gb142,4,none⟩ (.int .i64 ((rd_T64 l0_1 x8_1).f2.f2))).setCell ⟨gb142,5,none⟩ (.int .i64 ((rd_T64 l0_1 x8_1).f2.f3))).setCell ⟨gb142,6,none⟩ (.int .i64 ((rd_T64 l0_1 x8_1).f2.f4))).setCell ⟨gb142,7,none⟩ (.int .i64 ((rd_T64 l0_1 x8_1).f2.f5))).setCell ⟨gb142,8,none⟩ (.int .i64 ((rd_T64 l0_1 x8_1).f2.f6))).setCell ⟨gb142,9,none⟩ (.int .i64 ((rd_T64 l0_1 x8_1).f2.f7))).setCell ⟨gb142,10,none⟩ (.int .i64 ((rd_T64 l0_1 x8_1).f2.f8))).setCell ⟨gb142,11,none⟩ (.int .i64 ((rd_T64 l0_1 x8_1).f2.f9)))=w36
         have n0_:Aside0 (w36.heap[gb140]?=some (.cells #[.int .i64 a0_0,.slice (some ad141) l0_1.length c0_1] 52 (0,0))):=⟨by rw [← hW_];exact pF BK140.out⟩;have n1_:Aside0 (w36.heap[gb142]?=some (.cells #[.int .i64 ((rd_T64 l0_1 x8_1).f0),.int .i64 ((rd_T64 l0_1 x8_1).f1),.int .i64 ((rd_T64 l0_1 x8_1).f2.f0),.int .i64 ((rd_T64 l0_1 x8_1).f2.f1),.int .i64 ((rd_T64 l0_1 x8_1).f2.f2),.int .i64 ((rd_T64 l0_1 x8_1).f2.f3),.int .i64 ((rd_T64 l0_1 x8_1).f2.f4),.int .i64 ((rd_T64 l0_1 x8_1).f2.f5),.int .i64 ((rd_T64 l0_1 x8_1).f2.f6),.int .i64 ((rd_T64 l0_1 x8_1).f2.f7),.int .i64 ((rd_T64 l0_1 x8_1).f2.f8),.int .i64 ((rd_T64 l0_1 x8_1).f2.f9)] 64 (0,0))):=⟨by rw [← hW_];exact pP BK142⟩;have n2_:Aside0 (Below w.heap.size w w36):=⟨by rw [← hW_];exact pS HB.out⟩
         (try clear BK140);(try clear BK142);(try clear HB);clear hW_
         have BK140:=n0_;have BK142:=n1_;have HB:=n2_;clear n0_ n1_ n2_;replace BK140:=mA (blk_drew BK140.out);replace BK142:=mA (blk_drew BK142.out);replace HB:=mA (below_drew1 HB.out)
         refine start_ (n:=26) (S:=fun w'=>w'.heap[gb142]?=some (.cells #[.int .i64 ((rd_T64 l0_1 x8_1).f0),.int .i64 ((rd_T64 l0_1 x8_1).f1),.int .i64 ((rd_T64 l0_1 x8_1).f2.f0),.int .i64 ((rd_T64 l0_1 x8_1).f2.f1),.int .i64 ((rd_T64 l0_1 x8_1).f2.f2),.int .i64 ((rd_T64 l0_1 x8_1).f2.f3),.int .i64 ((rd_T64 l0_1 x8_1).f2.f4),.int .i64 ((rd_T64 l0_1 x8_1).f2.f5),.int .i64 ((rd_T64 l0_1 x8_1).f2.f6),.int .i64 ((rd_T64 l0_1 x8_1).f2.f7),.int .i64 ((rd_T64 l0_1 x8_1).f2.f8),.int .i64 ((rd_T64 l0_1 x8_1).f2.f9)] 64 (0,0))∧w'.heap[gb140]?=some (.cells #[.int .i64 a0_0,.slice (some ad141) l0_1.length c0_1] 52 (0,0))) (ds:=[]) _ aK rfl rfl ⟨BK142.out,BK140.out⟩ (fun hHeld=>?_);refine with_tabW impl_SynVoterOk.tab4 impl_SynVoterOk.bits4 (fun HT_ HW_=>?_)
         generalize w36.drew=w37 at BK140 BK142 HB hHeld ⊢
         refine qt 0 ?_
         refine qo 1 ?_;intro K hK
         refine gD Try.func88 (impl_paperOk.calls A7.out) ?_
         rintro e w38 ⟨rfl,hb⟩;refine ⟨_,rfl,?_⟩;replace BK140:=bK BK140 hb;replace BK142:=bK BK142 hb;replace HB:=spS HB hb
         (try clear hb)
         refine hK.out _ _ ⟨BK142.out,BK140.out⟩ (fun hHeld=>?_);clear hK K;refine no_ (some 14) ?_;refine qu 2 ?_;refine qu 3 ?_;refine qu 4 ?_;refine qu 6 ?_;refine qt 5 ?_;refine qt 7 ?_;refine qu 8 ?_;refine qu 9 ?_;refine qu 10 ?_;refine qu 11 ?_;refine qu 12 ?_;refine qu 13 ?_;refine qd 14 ?_;refine qd 15 ?_;refine qd 16 ?_;refine qd 17 ?_;refine qd 18 ?_;refine qd 19 ?_;refine qd 20 ?_;refine qd 21 ?_;refine qd 22 ?_;refine qd 23 ?_;refine qu 24 ?_;refine qu 25 ?_;refine qe ?_
         try go_wp2_with (first|((with_reducible refine gLg rfl (by assumption) ?_);first|refine ldW ?_|refine ldX ?_)|((with_reducible refine gLg rfl (by assumption) ?_);refine ldV ?_)|((with_reducible refine gSt rfl (by assumption) ?_);refine stV ?_))
         go_roundg k1
         case measure=>have:=HK1.out;omega
         case rel=>exact ⟨(wrap64 (x8_1+1)),bZ,H',⟨by have:=HK1.out;omega⟩,⟨pK BK140.out⟩,⟨pS HB.out⟩⟩
      ·replace c8:=Bool.eq_false_iff.mpr c8;subst c8
       rw [if_neg nFT] at H
       obtain rfl:=Option.some.inj H;have p141:0≤(x8_1:Int):=of_decide_eq_true bA;have q141:x8_1<(l0_1.length:Int):=of_decide_eq_true bA;obtain ⟨ad141,e141,hs141⟩:=at_R64 HR0_1.out x8_1 p141 q141;have hx141_0:=RS.hd hs141 rfl;cases e141;replace hx141_0:=hC HB hx141_0;replace hs141:=rS HB hs141;obtain ⟨hx141_1,hx141_2,hx141_3,hx141_4,hx141_5,hx141_6,hx141_7,hx141_8,hx141_9,hx141_10,hx141_11,_⟩:=RS.cs hs141;replace p141:=eq_true p141;replace q141:=eq_true q141
       try go_wp2_with (first|((with_reducible refine gLg rfl (by assumption) ?_);first|refine ldW ?_|refine ldX ?_)|((with_reducible refine gLg rfl (by assumption) ?_);refine ldV ?_)|((with_reducible refine gSt rfl (by assumption) ?_);refine stV ?_)|((with_reducible refine gT 4 rfl ?_);(try (refine gate_guard (by rfl) ?_;dsimp only));refine bJ 4 y64 ?_;intro gb142 hg w39 hbox hb;have BK142:=mA hbox;have GW142:=gbpS HB hg;have GE142:=gbpS HB hg;replace HB:=spS HB hb;have NB140_142:=mA (lN (blk_lt (pK BK140.out)) hg);have hN140_142:=NB140_142.out;have NB142_140:=nS NB140_142;have hN142_140:=NB142_140.out;replace BK140:=bK BK140 hb;clear hb hbox hg;have hcz41_0:=fun i_=>blk_cell BK142.out i_;have hfz41_0:=fun i_=>blk_frozen BK142.out i_))
       generalize hW_:((((((((((((w39.setCell ⟨gb142,0,none⟩ (.int .i64 ((rd_T64 l0_1 x8_1).f0))).setCell ⟨gb142,1,none⟩ (.int .i64 ((rd_T64 l0_1 x8_1).f1))).setCell ⟨gb142,2,none⟩ (.int .i64 ((rd_T64 l0_1 x8_1).f2.f0))).setCell ⟨gb142,3,none⟩ (.int .i64 ((rd_T64 l0_1 x8_1).f2.f1))).setCell ⟨gb142,4,none⟩ (.int .i64 ((rd_T64 l0_1 x8_1).f2.f2))).setCell ⟨gb142,5,none⟩ (.int .i64 ((rd_T64 l0_1 x8_1).f2.f3))).setCell ⟨gb142,6,none⟩ (.int .i64 ((rd_T64 l0_1 x8_1).f2.f4))).setCell ⟨gb142,7,none⟩ (.int .i64 ((rd_T64 l0_1 x8_1).f2.f5))).setCell ⟨gb142,8,none⟩ (.int .i64 ((rd_T64 l0_1 x8_1).f2.f6))).setCell ⟨gb142,9,none⟩ (.int .i64 ((rd_T64 l0_1 x8_1).f2.f7))).setCell ⟨gb142,10,none⟩ (.int .i64 ((rd_T64 l0_1 x8_1).f2.f8))).setCell ⟨gb142,11,none⟩ (.int .i64 ((rd_T64 l0_1 x8_1).f2.f9)))=w42
       have n0_:Aside0 (w42.heap[gb140]?=some (.cells #[.int .i64 a0_0,.slice (some ad141) l0_1.length c0_1] 52 (0,0))):=⟨by rw [← hW_];exact pF BK140.out⟩;have n1_:Aside0 (w42.heap[gb142]?=some (.cells #[.int .i64 ((rd_T64 l0_1 x8_1).f0),.int .i64 ((rd_T64 l0_1 x8_1).f1),.int .i64 ((rd_T64 l0_1 x8_1).f2.f0),.int .i64 ((rd_T64 l0_1 x8_1).f2.f1),.int .i64 ((rd_T64 l0_1 x8_1).f2.f2),.int .i64 ((rd_T64 l0_1 x8_1).f2.f3),.int .i64 ((rd_T64 l0_1 x8_1).f2.f4),.int .i64 ((rd_T64 l0_1 x8_1).f2.f5),.int .i64 ((rd_T64 l0_1 x8_1).f2.f6),.int .i64 ((rd_T64 l0_1 x8_1).f2.f7),.int .i64 ((rd_T64 l0_1 x8_1).f2.f8),.int .i64 ((rd_T64 l0_1 x8_1).f2.f9)] 64 (0,0))):=⟨by rw [← hW_];exact pP BK142⟩;have n2_:Aside0 (Below w.heap.size w w42):=⟨by rw [← hW_];exact pS HB.out⟩
       (try clear BK140);(try clear BK142);(try clear HB);clear hW_
       have BK140:=n0_;have BK142:=n1_;have HB:=n2_;clear n0_ n1_ n2_;replace BK140:=mA (blk_drew BK140.out);replace BK142:=mA (blk_drew BK142.out);replace HB:=mA (below_drew1 HB.out)
       refine start_ (n:=26) (S:=fun w'=>w'.heap[gb142]?=some (.cells #[.int .i64 ((rd_T64 l0_1 x8_1).f0),.int .i64 ((rd_T64 l0_1 x8_1).f1),.int .i64 ((rd_T64 l0_1 x8_1).f2.f0),.int .i64 ((rd_T64 l0_1 x8_1).f2.f1),.int .i64 ((rd_T64 l0_1 x8_1).f2.f2),.int .i64 ((rd_T64 l0_1 x8_1).f2.f3),.int .i64 ((rd_T64 l0_1 x8_1).f2.f4),.int .i64 ((rd_T64 l0_1 x8_1).f2.f5),.int .i64 ((rd_T64 l0_1 x8_1).f2.f6),.int .i64 ((rd_T64 l0_1 x8_1).f2.f7),.int .i64 ((rd_T64 l0_1 x8_1).f2.f8),.int .i64 ((rd_T64 l0_1 x8_1).f2.f9)] 64 (0,0))) (ds:=[]) _ aK rfl rfl BK142.out (fun hHeld=>?_);refine with_tabW impl_SynVoterOk.tab4 impl_SynVoterOk.bits4 (fun HT_ HW_=>?_)
       generalize w42.drew=w43 at BK140 BK142 HB hHeld ⊢
       refine qt 0 ?_
       refine qo 1 ?_;intro K hK
       refine gD Try.func88 (impl_paperOk.calls A7.out) ?_
       rintro e w44 ⟨rfl,hb⟩;refine ⟨_,rfl,?_⟩;replace BK140:=bK BK140 hb;replace BK142:=bK BK142 hb;replace HB:=spS HB hb
       (try clear hb)
       refine hK.out _ _ BK142.out (fun hHeld=>?_);clear hK K;refine no_ (some 14) ?_;refine qu 2 ?_;refine qu 3 ?_;refine qd 4 ?_;refine qd 5 ?_;refine qd 6 ?_;refine qd 7 ?_;refine qd 8 ?_;refine qu 9 ?_;refine qu 10 ?_;refine qd 11 ?_;refine qd 12 ?_;refine qd 13 ?_;refine qd 14 ?_;refine qd 15 ?_;refine qd 16 ?_;refine qd 17 ?_;refine qd 18 ?_;refine qd 19 ?_;refine qd 20 ?_;refine qd 21 ?_;refine qd 22 ?_;refine qd 23 ?_;refine qd 24 ?_;refine qu 25 ?_;refine qe ?_
       try go_wp2_with (first|((with_reducible refine gLg rfl (by assumption) ?_);first|refine ldW ?_|refine ldX ?_)|((with_reducible refine gLg rfl (by assumption) ?_);refine ldV ?_)|((with_reducible refine gSt rfl (by assumption) ?_);refine stV ?_))
       go_ret
       exact rZ (pS HB.out)
     ·rw [if_neg c6] at H
      exact absurd H (by simp)
    ·rw [if_neg c5] at H
     exact absurd H (by simp)
   ·rw [if_neg c4] at H;have c4b0:decide (x8_1<(l0_1.length:Int))=false:=decide_eq_false c4;clear c4;obtain ⟨t145,A45,H⟩:=bI H;(try dsimp only at H)
    by_cases c46:t145=true
    ·subst c46;rw [if_pos rfl] at H;obtain rfl:=Option.some.inj H;obtain ⟨hcz47_0,hcz47_1,hfz47_0,hfz47_1⟩:=box2 BK140.out
     go_wp2_with (first|((with_reducible refine gLg rfl (by assumption) ?_);first|refine ldW ?_|refine ldX ?_)|((with_reducible refine gLg rfl (by assumption) ?_);refine ldV ?_)|((with_reducible refine gSt rfl (by assumption) ?_);refine stV ?_)|((with_reducible refine gT 42 rfl ?_);refine gC (some 42) Try.func74 (impl_in.calls A45.out) ?_;rintro e w' ⟨rfl,⟨nd,rfl⟩⟩;refine ⟨_,rfl,?_⟩))
     go_ret
     exact rZ (pS HB.out)
    ·replace c46:=Bool.eq_false_iff.mpr c46;subst c46
     rw [if_neg nFT] at H
     obtain rfl:=Option.some.inj H;obtain ⟨hcz48_0,hcz48_1,hfz48_0,hfz48_1⟩:=box2 BK140.out
     go_wp2_with (first|((with_reducible refine gLg rfl (by assumption) ?_);first|refine ldW ?_|refine ldX ?_)|((with_reducible refine gLg rfl (by assumption) ?_);refine ldV ?_)|((with_reducible refine gSt rfl (by assumption) ?_);refine stV ?_)|((with_reducible refine gT 42 rfl ?_);refine gC (some 42) Try.func74 (impl_in.calls A45.out) ?_;rintro e w' ⟨rfl,⟨nd,rfl⟩⟩;refine ⟨_,rfl,?_⟩))
     go_ret
     exact rZ (pS HB.out)
/-! ### spec_l11Nums: function 65 -/
def spec_l11Nums.f (a0_0 a0_1 a0_2 a0_3 a0_4 a0_5 a0_6 a0_7 a0_8 a0_9 a0_10 a0_11 a0_12 a0_13 a0_14 a0_15 a0_16 a0_17 a0_18 a0_19 a0_20 a0_21 a0_22 a0_23 : Int) (l0_24 : List (S138)) (l0_25 : List (S140)) : Option (List Int) := some (([a0_0, a0_1, a0_2, a0_3, a0_4, a0_5, a0_6, a0_7, a0_8, a0_9, a0_10, a0_11, a0_12, a0_13, a0_14, a0_15, a0_16, a0_17, a0_18, a0_19, a0_20, a0_21, a0_22, a0_23] : List Int))
set_option maxHeartbeats 8000000 in
set_option maxRecDepth 100000 in
theorem spec_l11Nums.calls {a0_0 a0_1 a0_2 a0_3 a0_4 a0_5 a0_6 a0_7 a0_8 a0_9 a0_10 a0_11 a0_12 a0_13 a0_14 a0_15 a0_16 a0_17 a0_18 a0_19 a0_20 a0_21 a0_22 a0_23 : Int} {A0_24 : Option Addr} {c0_24 : Nat} {l0_24 : List (S138)} {A0_25 : Option Addr} {c0_25 : Nat} {l0_25 : List (S140)} {r : List Int} {w : World} (hr0_24 : Kd.C k138 w A0_24 l0_24.length l0_24) (hc0_24 : l0_24.length ≤ c0_24) (hr0_25 : Kd.C k140 w A0_25 l0_25.length l0_25) (hc0_25 : l0_25.length ≤ c0_25) (h : spec_l11Nums.f a0_0 a0_1 a0_2 a0_3 a0_4 a0_5 a0_6 a0_7 a0_8 a0_9 a0_10 a0_11 a0_12 a0_13 a0_14 a0_15 a0_16 a0_17 a0_18 a0_19 a0_20 a0_21 a0_22 a0_23 l0_24 l0_25 = some r) :
  Calls Try.prog 65 #[.agg #[.int .i64 a0_0,.int .i64 a0_1,.int .i64 a0_2,.int .i64 a0_3,.int .i64 a0_4,.int .i64 a0_5,.int .i64 a0_6,.int .i64 a0_7,.int .i64 a0_8,.int .i64 a0_9,.int .i64 a0_10,.int .i64 a0_11,.int .i64 a0_12,.int .i64 a0_13,.int .i64 a0_14,.int .i64 a0_15,.int .i64 a0_16,.int .i64 a0_17,.int .i64 a0_18,.int .i64 a0_19,.int .i64 a0_20,.int .i64 a0_21,.int .i64 a0_22,.int .i64 a0_23,.slice A0_24 l0_24.length c0_24,.slice A0_25 l0_25.length c0_25]] w fun e w'=>∃ v0_:Value,e=.returned (v0_)∧Kd.R (Kd.int .i64) 3 w' w.heap.size (fun _=>True) v0_ r∧Below w.heap.size w w':=by
 have hu28:=Try.underlying28;have hu24:=Try.underlying24;have HR0_24:=mA hr0_24;have HC0_24:=mA hc0_24;clear hr0_24 hc0_24;have HR0_25:=mA hr0_25;have HC0_25:=mA hc0_25;clear hr0_25 hc0_25;have HB:=mA (Below.refl w.heap.size w);have H:(some (([a0_0,a0_1,a0_2,a0_3,a0_4,a0_5,a0_6,a0_7,a0_8,a0_9,a0_10,a0_11,a0_12,a0_13,a0_14,a0_15,a0_16,a0_17,a0_18,a0_19,a0_20,a0_21,a0_22,a0_23]:List Int)))=some r:=h;clear h;obtain ⟨y148,hy148⟩:∃ y_:List Int,y_=(([a0_0,a0_1,a0_2,a0_3,a0_4,a0_5,a0_6,a0_7,a0_8,a0_9,a0_10,a0_11,a0_12,a0_13,a0_14,a0_15,a0_16,a0_17,a0_18,a0_19,a0_20,a0_21,a0_22,a0_23]:List Int)):=⟨_,rfl⟩
 replace H:(some y148)=some r:=qH hy148 H
 have Ny148:=mA hy148;clear hy148;obtain rfl:=Option.some.inj H
 go_enter Try.func65,Try.ntmps65
 go_wp2_with (first|((with_reducible refine gLg rfl (by assumption) ?_);refine ldV ?_)|((with_reducible refine gSt rfl (by assumption) ?_);refine stV ?_)|((with_reducible refine gT 1 rfl ?_);refine bX 1 ?_;intro gb146 hg w2 hbox hb;have BK146:=mA hbox;have GW146:=gbpB HB hg;have GE146:=gbpB HB hg;replace HB:=spB HB hb;clear hb hbox hg;have hcz3_0:=fun i_=>blk_cell BK146.out i_;have hfz3_0:=fun i_=>blk_frozen BK146.out i_)|((with_reducible refine gT 3 rfl ?_);refine bJ 3 y24 ?_;intro gb147 hg w4 hbox hb;have BK147:=mA hbox;have GW147:=gbpS HB hg;have GE147:=gbpS HB hg;replace HB:=spS HB hb;have NB146_147:=mA (lN (blk_lt (pK BK146.out)) hg);have hN146_147:=NB146_147.out;have NB147_146:=nS NB146_147;have hN147_146:=NB147_146.out;replace BK146:=bK BK146 hb;clear hb hbox hg;have hcz6_0:=fun i_=>blk_cell BK147.out i_;have hfz6_0:=fun i_=>blk_frozen BK147.out i_;have hcz7_0:=fun i_=>blk_cell BK146.out i_;have hfz7_0:=fun i_=>blk_frozen BK146.out i_)|((with_reducible refine gT 54 rfl ?_);refine Kd.R_lit (Kd.int .i64) _ 3 ?hg (N:=54) ?hd (xs:=([a0_0,a0_1,a0_2,a0_3,a0_4,a0_5,a0_6,a0_7,a0_8,a0_9,a0_10,a0_11,a0_12,a0_13,a0_14,a0_15,a0_16,a0_17,a0_18,a0_19,a0_20,a0_21,a0_22,a0_23]:List Int)) (inner:=[.int .i64 a0_0,.int .i64 a0_1,.int .i64 a0_2,.int .i64 a0_3,.int .i64 a0_4,.int .i64 a0_5,.int .i64 a0_6,.int .i64 a0_7,.int .i64 a0_8,.int .i64 a0_9,.int .i64 a0_10,.int .i64 a0_11,.int .i64 a0_12,.int .i64 a0_13,.int .i64 a0_14,.int .i64 a0_15,.int .i64 a0_16,.int .i64 a0_17,.int .i64 a0_18,.int .i64 a0_19,.int .i64 a0_20,.int .i64 a0_21,.int .i64 a0_22,.int .i64 a0_23]) (ok:=fun _=>True) (okp:=fun _=>True) ?hr ?hp (fun _ hk=>hk) trivial (Below.refl _ _) (Nat.le_refl _) (by simp) ?_;(case hd=>rfl);(case hg=>rfl);(case hr=>first|(go_simp;done)|(go_simp;rfl));(case hp=>repeat (first|exact Reps.none _ _|refine Reps.one (show Kd.M (Kd.int .i64) _ _ _ _ [_] from rfl) ?_));intro v149 w8 ho9 hb hg_ hnew_;clear hg_ hnew_;(first|rw [← Ny148.out] at ho9|(simp only [Int.reduceToNat] at ho9;rw [← Ny148.out] at ho9));have HO150:=mA (Kd.R_lower ho9 (bpS HB));replace BK146:=bF BK146 hb;replace BK147:=mA (blk_below (g:=gb147) (o:=.cells #[.int .i64 a0_6,.int .i64 a0_7,.int .i64 a0_8,.int .i64 a0_9,.int .i64 a0_10,.int .i64 a0_11,.int .i64 a0_12,.int .i64 a0_13,.int .i64 a0_14,.int .i64 a0_15] 24 (0,0)) (pP BK147) hb);replace HB:=spS HB hb;clear hb ho9))
 go_ret
 exact ⟨_,by first|rfl|(simp [errW_none,errW_some]<;>rfl)|(simp [*,errW_none,errW_some]<;>rfl),pR HO150.out,pS HB.out⟩
/-! ### spec_l11Place: function 68 -/
def spec_l11Place.f (a0 : Int) : Option (Bool) := (spec_l6In.f a0 0 4).bind fun t151 => (if t151 = true then (some true) else ((spec_l6In.f a0 100 103).bind fun t152 => (some t152)))
set_option maxHeartbeats 8000000 in
set_option maxRecDepth 100000 in
theorem spec_l11Place.calls {a0 : Int} {r : Bool} {w : World} (h : spec_l11Place.f a0 = some r) :
  Calls Try.prog 68 #[.int .i64 a0] w fun e w'=>e=.returned (.bool r)∧Drawn0 w w':=by
 have H:((spec_l6In.f a0 0 4).bind fun t151=>(if t151=true then (some true) else ((spec_l6In.f a0 100 103).bind fun t152=>(some t152))))=some r:=h;clear h;obtain ⟨t151,A2,H⟩:=bI H;(try dsimp only at H)
 by_cases c3:t151=true
 ·subst c3;rw [if_pos rfl] at H;obtain rfl:=Option.some.inj H
  go_enter Try.func68,Try.ntmps68
  go_wp2_with (first|((with_reducible refine gT 4 rfl ?_);refine gC (some 4) Try.func67 (spec_l6In.calls A2.out) ?_;rintro e w' ⟨rfl,⟨nd,rfl⟩⟩;refine ⟨_,rfl,?_⟩))
  go_ret
  exact ⟨by first|rfl|(simp;done)|(simp [*];done),by repeat (first|exact Drawn0.refl _|apply Drawn0.step)⟩
 ·replace c3:=Bool.eq_false_iff.mpr c3;subst c3
  rw [if_neg nFT] at H
  obtain ⟨t152,A4,H⟩:=bI H;(try dsimp only at H);obtain rfl:=Option.some.inj H
  go_enter Try.func68,Try.ntmps68
  go_wp2_with (first|((with_reducible refine gT 4 rfl ?_);refine gC (some 4) Try.func67 (spec_l6In.calls A2.out) ?_;rintro e w' ⟨rfl,⟨nd,rfl⟩⟩;refine ⟨_,rfl,?_⟩)|(go_at_call 67;(with_reducible refine (spec_l6In.calls A4.out).mono ?_);rintro e w' ⟨rfl,⟨nd,rfl⟩⟩))
  go_ret
  exact ⟨by first|rfl|(simp;done)|(simp [*];done),by repeat (first|exact Drawn0.refl _|apply Drawn0.step)⟩
/-! ### spec_l3Before: function 129 -/
def spec_l3Before.f (a0_0 a0_1 a0_2 a0_3 a1 a2 a3 : Int) : Option (Bool) := if a0_0 = a1 then (if a0_1 = a2 then (some (decide (a0_2 < a3))) else (some (decide (a0_1 < a2)))) else (some (decide (a0_0 < a1)))
set_option maxHeartbeats 8000000 in
set_option maxRecDepth 100000 in
theorem spec_l3Before.calls {a0_0 a0_1 a0_2 a0_3 a1 a2 a3 : Int} {r : Bool} {w : World} (h : spec_l3Before.f a0_0 a0_1 a0_2 a0_3 a1 a2 a3 = some r) :
  Calls Try.prog 129 #[.agg #[.int .i64 a0_0,.int .i64 a0_1,.int .i64 a0_2,.int .i64 a0_3],.int .i64 a1,.int .i64 a2,.int .i64 a3] w fun e w'=>e=.returned (.bool r)∧Below w.heap.size w w':=by
 have hu138:=Try.underlying138;have HB:=mA (Below.refl w.heap.size w);have H:(if a0_0=a1 then (if a0_1=a2 then (some (decide (a0_2<a3))) else (some (decide (a0_1<a2)))) else (some (decide (a0_0<a1))))=some r:=h;clear h
 by_cases c5:a0_0=a1
 ·rw [if_pos c5] at H;obtain ⟨c5b0,c5b1⟩:=eqB c5;clear c5
  by_cases c6:a0_1=a2
  ·rw [if_pos c6] at H;obtain ⟨c6b0,c6b1⟩:=eqB c6;clear c6;obtain rfl:=Option.some.inj H
   go_enter Try.func129,Try.ntmps129
   go_wp2_with (first|((with_reducible refine gT 4 rfl ?_);refine bX 4 ?_;intro gb153 hg w7 hbox hb;have BK153:=mA hbox;have GW153:=gbpB HB hg;have GE153:=gbpB HB hg;replace HB:=spB HB hb;clear hb hbox hg;obtain ⟨hcz8_0,hcz8_1,hcz8_2,hcz8_3,hfz8_0,hfz8_1,hfz8_2,hfz8_3⟩:=box4 BK153.out))
   go_ret
   exact rZ (pS HB.out)
  ·rw [if_neg c6] at H;have c6b0:(a0_1 == a2)=false:=beq_eq_false_iff_ne.mpr c6;have c6b1:(a0_1 != a2)=true:=bne_iff_ne.mpr c6;obtain rfl:=Option.some.inj H
   go_enter Try.func129,Try.ntmps129
   go_wp2_with (first|((with_reducible refine gT 4 rfl ?_);refine bX 4 ?_;intro gb153 hg w9 hbox hb;have BK153:=mA hbox;have GW153:=gbpB HB hg;have GE153:=gbpB HB hg;replace HB:=spB HB hb;clear hb hbox hg;obtain ⟨hcz10_0,hcz10_1,hcz10_2,hcz10_3,hfz10_0,hfz10_1,hfz10_2,hfz10_3⟩:=box4 BK153.out))
   go_ret
   exact rZ (pS HB.out)
 ·rw [if_neg c5] at H;have c5b0:(a0_0 == a1)=false:=beq_eq_false_iff_ne.mpr c5;have c5b1:(a0_0 != a1)=true:=bne_iff_ne.mpr c5;obtain rfl:=Option.some.inj H
  go_enter Try.func129,Try.ntmps129
  go_wp2_with (first|((with_reducible refine gT 4 rfl ?_);refine bX 4 ?_;intro gb153 hg w11 hbox hb;have BK153:=mA hbox;have GW153:=gbpB HB hg;have GE153:=gbpB HB hg;replace HB:=spB HB hb;clear hb hbox hg;obtain ⟨hcz12_0,hcz12_1,hcz12_2,hcz12_3,hfz12_0,hfz12_1,hfz12_2,hfz12_3⟩:=box4 BK153.out))
  go_ret
  exact rZ (pS HB.out)
/-! ### spec_BlkOk: function 70 -/
mutual
def spec_BlkOk.l0 : Nat → List (S138) → Int → Option (Bool)
 | 0,_,_=>none
 | k+1,x0,x3=>if x3<(x0.length:Int) then (if 0≤x3 then ((spec_l6In.f ((rd_T138 x0 x3).f0) 1 99999).bind fun t156=>(if t156=true then ((spec_l6In.f ((rd_T138 x0 x3).f1) 0 99999).bind fun t157=>(if t157=true then ((spec_l6In.f ((rd_T138 x0 x3).f2) 1 99999).bind fun t158=>(if t158=true then ((spec_l6In.f ((rd_T138 x0 x3).f3) 0 99999).bind fun t159=>(spec_BlkOk.j1 k x0 x3 (!t159) ((rd_T138 x0 x3).f0) ((rd_T138 x0 x3).f1) ((rd_T138 x0 x3).f2) ((rd_T138 x0 x3).f3))) else (spec_BlkOk.j1 k x0 x3 true ((rd_T138 x0 x3).f0) ((rd_T138 x0 x3).f1) ((rd_T138 x0 x3).f2) ((rd_T138 x0 x3).f3)))) else (spec_BlkOk.j1 k x0 x3 true ((rd_T138 x0 x3).f0) ((rd_T138 x0 x3).f1) ((rd_T138 x0 x3).f2) ((rd_T138 x0 x3).f3)))) else (spec_BlkOk.j1 k x0 x3 true ((rd_T138 x0 x3).f0) ((rd_T138 x0 x3).f1) ((rd_T138 x0 x3).f2) ((rd_T138 x0 x3).f3)))) else (none)) else (some true)
def spec_BlkOk.j1 : Nat → List (S138) → Int → Bool → Int → Int → Int → Int → Option (Bool)
 | 0,_,_,_,_,_,_,_=>none
 | k+1,x0,x3,x39,x156000,x156001,x156002,x156003=>if x39=true then (some false) else (if x3 > 0 then (if 0≤(wrap64 (x3 - 1)) then (if (wrap64 (x3 - 1))<(x0.length:Int) then ((spec_l3Before.f ((rd_T138 x0 (wrap64 (x3 - 1))).f0) ((rd_T138 x0 (wrap64 (x3 - 1))).f1) ((rd_T138 x0 (wrap64 (x3 - 1))).f2) ((rd_T138 x0 (wrap64 (x3 - 1))).f3) x156000 x156001 x156002).bind fun t161=>(if t161=true then (spec_BlkOk.l0 k x0 (wrap64 (x3+1))) else (some false))) else (none)) else (none)) else (spec_BlkOk.l0 k x0 (wrap64 (x3+1))))
end
def spec_BlkOk.f (k : Nat) (l0 : List (S138)) : Option (Bool) := if (l0.length : Int) > 60 then (some false) else (spec_BlkOk.l0 k l0 0)
def spec_BlkOk.T9 : Bool × List (List Nat × List Nat) := (true, [([], []), ([0], [0]), ([1], [1]), ([2], [2]), ([2], [2]), ([4, 2], [2, 4]), ([3, 5, 2], [2, 3, 5]), ([6, 2], [2, 6]), ([2], [2]), ([8, 2], [2, 8]), ([2], [2]), ([10, 2], [2, 10]), ([2], [2]), ([12, 2], [2, 12]), ([7, 9, 11, 13, 2, 2], [2, 7, 9, 11, 13]), ([14, 2], [2, 14]), ([2, 15], [2, 15])])
def spec_BlkOk.B9 : List Nat := [0, 1, 3, 7, 7, 23, 63, 127, 7, 263, 7, 1031, 7, 4103, 16383, 32767, 65535]
theorem spec_BlkOk.tab9 : rtab .any (opsOf Try.f70 9) = spec_BlkOk.T9 := by kernel_rfl
theorem spec_BlkOk.bits9 : waitsOk spec_BlkOk.T9.2 spec_BlkOk.B9 = true := by kernel_rfl
set_option maxHeartbeats 8000000 in
set_option maxRecDepth 100000 in
theorem spec_BlkOk.calls {k : Nat} {A0 : Option Addr} {c0 : Nat} {l0 : List (S138)} {r : Bool} {w : World} (hr0 : Kd.C k138 w A0 l0.length l0) (hc0 : l0.length ≤ c0) (h : spec_BlkOk.f k l0 = some r) :
  Calls Try.prog 70 #[.slice A0 l0.length c0] w fun e w'=>e=.returned (.bool r)∧Below w.heap.size w w':=by
 have hu138:=Try.underlying138;have HR0:=mA hr0;have HC0:=mA hc0;clear hr0 hc0;have HB:=mA (Below.refl w.heap.size w);have H:(if (l0.length:Int) > 60 then (some false) else (spec_BlkOk.l0 k l0 0))=some r:=h;clear h
 by_cases c2:(l0.length:Int) > 60
 ·rw [if_pos c2] at H;have c2b0:decide (60<(l0.length:Int))=true:=decide_eq_true c2
  have c2b1:decide (60<l0.length)=true:=decide_eq_true (by omega)
  clear c2;obtain rfl:=Option.some.inj H
  go_enter Try.func70,Try.ntmps70
  go_wp2
  go_ret
  exact rZ (pB HB.out)
 ·rw [if_neg c2] at H;have c2b0:decide (60<(l0.length:Int))=false:=decide_eq_false c2
  have c2b1:decide (60<l0.length)=false:=decide_eq_false (by omega)
  clear c2;have H':=mA H;clear H
  go_enter Try.func70,Try.ntmps70
  go_wp2
  go_loopg [3] k (fun kq v3 w'=>∃ (x3_1:Int),v3=.int .i64 x3_1∧Aside0 (spec_BlkOk.l0 kq l0 x3_1=some r)∧Aside0 (kq≤k)∧Aside0 (Below w.heap.size w w'))
  case atStart=>exact ⟨(0),bZ,H',⟨Nat.le_refl _⟩,⟨pB HB.out⟩⟩
  case round =>
   clear H'
   (try clear c2);(try clear c2b0);(try clear c2b1)
   obtain ⟨x3_1,rfl,HA,HK1,HB⟩:=hrel
   cases gk with
   | zero=>exact absurd HA.out (by simp [spec_BlkOk.l0])
   | succ k1 =>
    have H:=HA.out;clear HA;simp only [spec_BlkOk.l0] at H
    by_cases c3:x3_1<(l0.length:Int)
    ·rw [if_pos c3] at H;have c3b0:decide (x3_1<(l0.length:Int))=true:=decide_eq_true c3;clear c3
     by_cases c4:0≤x3_1
     ·rw [if_pos c4] at H;have c4b0:decide (0≤x3_1)=true:=decide_eq_true c4;clear c4;have HC5:=mA H;clear H;have p154:0≤(x3_1:Int):=of_decide_eq_true bA;have q154:x3_1<(l0.length:Int):=of_decide_eq_true bA;obtain ⟨ad154,e154,hx154_0,hx154_1,hx154_2,hx154_3⟩:=at_T138 HR0.out x3_1 p154 q154;cases e154;replace hx154_0:=hC HB hx154_0;replace hx154_1:=hC HB hx154_1;replace hx154_2:=hC HB hx154_2;replace hx154_3:=hC HB hx154_3;replace p154:=eq_true p154;replace q154:=eq_true q154
      go_upto_region 7 with (first|((with_reducible refine gT 4 rfl ?_);refine bJ 4 y138 ?_;intro gb155 hg w6 hbox hb;have BK155:=mA hbox;have GW155:=gbpB HB hg;have GE155:=gbpB HB hg;replace HB:=spB HB hb;clear hb hbox hg;obtain ⟨hcz7_0,hcz7_1,hcz7_2,hcz7_3,hfz7_0,hfz7_1,hfz7_2,hfz7_3⟩:=box4 BK155.out))
      (try simp only [Act.put,List.setIfInBounds_toArray,List.set_cons_zero,List.set_cons_succ])
      go_cut [39] (fun v39 wc=>∃ (kq:Nat) (x39_4:Bool),v39=.bool x39_4∧Aside0 (spec_BlkOk.j1 kq l0 x3_1 x39_4 ((rd_T138 l0 x3_1).f0) ((rd_T138 l0 x3_1).f1) ((rd_T138 l0 x3_1).f2) ((rd_T138 l0 x3_1).f3)=some r)∧Aside0 (kq≤k1)∧Aside0 (wc.heap[gb155]?=some (.cells #[.int .i64 ((rd_T138 l0 x3_1).f0),.int .i64 ((rd_T138 l0 x3_1).f1),.int .i64 ((rd_T138 l0 x3_1).f2),.int .i64 ((rd_T138 l0 x3_1).f3)] 138 (0,0)))∧Aside0 (Below w.heap.size w wc))
      case first =>
       have H:=HC5.out;clear HC5;obtain ⟨t156,A8,H⟩:=bI H;(try dsimp only at H)
       by_cases c9:t156=true
       ·subst c9;rw [if_pos rfl] at H;obtain ⟨t157,A10,H⟩:=bI H;(try dsimp only at H)
        by_cases c11:t157=true
        ·subst c11;rw [if_pos rfl] at H;obtain ⟨t158,A12,H⟩:=bI H;(try dsimp only at H)
         by_cases c13:t158=true
         ·subst c13;rw [if_pos rfl] at H;obtain ⟨t159,A14,H⟩:=bI H;(try dsimp only at H);have H':=mA H;clear H;obtain ⟨hcz15_0,hcz15_1,hcz15_2,hcz15_3,hfz15_0,hfz15_1,hfz15_2,hfz15_3⟩:=box4 BK155.out
          go_wp2_with (first|((with_reducible refine gT 20 rfl ?_);refine gC (some 20) Try.func67 (spec_l6In.calls A8.out) ?_;rintro e w' ⟨rfl,⟨nd,rfl⟩⟩;refine ⟨_,rfl,?_⟩)|(go_at_call 67;(with_reducible refine (spec_l6In.calls A10.out).mono ?_);rintro e w' ⟨rfl,⟨nd,rfl⟩⟩)|(go_at_call 67;(with_reducible refine (spec_l6In.calls A12.out).mono ?_);rintro e w' ⟨rfl,⟨nd,rfl⟩⟩)|(go_at_call 67;(with_reducible refine (spec_l6In.calls A14.out).mono ?_);rintro e w' ⟨rfl,⟨nd,rfl⟩⟩))
          go_meet
          case rel=>exact ⟨_,(!t159),bZ,H',⟨by have:=HK1.out;first|omega|exact Nat.le_refl _⟩,⟨pP BK155⟩,⟨pS HB.out⟩⟩
         ·replace c13:=Bool.eq_false_iff.mpr c13;subst c13
          rw [if_neg nFT] at H
          have H':=mA H;clear H;obtain ⟨hcz16_0,hcz16_1,hcz16_2,hcz16_3,hfz16_0,hfz16_1,hfz16_2,hfz16_3⟩:=box4 BK155.out
          go_wp2_with (first|((with_reducible refine gT 20 rfl ?_);refine gC (some 20) Try.func67 (spec_l6In.calls A8.out) ?_;rintro e w' ⟨rfl,⟨nd,rfl⟩⟩;refine ⟨_,rfl,?_⟩)|(go_at_call 67;(with_reducible refine (spec_l6In.calls A10.out).mono ?_);rintro e w' ⟨rfl,⟨nd,rfl⟩⟩)|(go_at_call 67;(with_reducible refine (spec_l6In.calls A12.out).mono ?_);rintro e w' ⟨rfl,⟨nd,rfl⟩⟩))
          go_meet
          case rel=>exact ⟨_,(true),bZ,H',⟨by have:=HK1.out;first|omega|exact Nat.le_refl _⟩,⟨pP BK155⟩,⟨pS HB.out⟩⟩
        ·replace c11:=Bool.eq_false_iff.mpr c11;subst c11
         rw [if_neg nFT] at H
         have H':=mA H;clear H;obtain ⟨hcz17_0,hcz17_1,hcz17_2,hcz17_3,hfz17_0,hfz17_1,hfz17_2,hfz17_3⟩:=box4 BK155.out
         go_wp2_with (first|((with_reducible refine gT 20 rfl ?_);refine gC (some 20) Try.func67 (spec_l6In.calls A8.out) ?_;rintro e w' ⟨rfl,⟨nd,rfl⟩⟩;refine ⟨_,rfl,?_⟩)|(go_at_call 67;(with_reducible refine (spec_l6In.calls A10.out).mono ?_);rintro e w' ⟨rfl,⟨nd,rfl⟩⟩))
         go_meet
         case rel=>exact ⟨_,(true),bZ,H',⟨by have:=HK1.out;first|omega|exact Nat.le_refl _⟩,⟨pP BK155⟩,⟨pS HB.out⟩⟩
       ·replace c9:=Bool.eq_false_iff.mpr c9;subst c9
        rw [if_neg nFT] at H
        have H':=mA H;clear H;obtain ⟨hcz18_0,hcz18_1,hcz18_2,hcz18_3,hfz18_0,hfz18_1,hfz18_2,hfz18_3⟩:=box4 BK155.out
        go_wp2_with (first|((with_reducible refine gT 20 rfl ?_);refine gC (some 20) Try.func67 (spec_l6In.calls A8.out) ?_;rintro e w' ⟨rfl,⟨nd,rfl⟩⟩;refine ⟨_,rfl,?_⟩))
        go_meet
        case rel=>exact ⟨_,(true),bZ,H',⟨by have:=HK1.out;first|omega|exact Nat.le_refl _⟩,⟨pP BK155⟩,⟨pS HB.out⟩⟩
      case rest =>
       clear HC5
       (try clear c2);(try clear c2b0);(try clear c2b1);(try clear c3);(try clear c3b0);(try clear c4);(try clear c4b0);(try clear hcz7_0);(try clear hcz7_1);(try clear hcz7_2);(try clear hcz7_3);(try clear hfz7_0);(try clear hfz7_1);(try clear hfz7_2);(try clear hfz7_3);(try clear hx154_0);(try clear hx154_1);(try clear hx154_2);(try clear hx154_3);(try clear p154);(try clear q154)
       obtain ⟨kq,x39_4,rfl,HA,HJ4,BK155,HB⟩:=hcut
       cases kq with
       | zero=>exact absurd HA.out (by simp [spec_BlkOk.j1])
       | succ kj4 =>
        have H:=HA.out;clear HA;simp only [spec_BlkOk.j1] at H
        by_cases c19:x39_4=true
        ·subst c19;rw [if_pos rfl] at H;obtain rfl:=Option.some.inj H
         go_wp2
         go_ret
         exact rZ (pS HB.out)
        ·replace c19:=Bool.eq_false_iff.mpr c19;subst c19
         rw [if_neg nFT] at H
         by_cases c20:x3_1 > 0
         ·rw [if_pos c20] at H;have c20b0:decide (0<x3_1)=true:=decide_eq_true c20;clear c20;obtain ⟨ji21,hji21⟩:∃ j_:Int,(wrap64 (x3_1 - 1))=j_:=⟨_,rfl⟩
          replace H:(if 0≤(ji21) then (if (ji21)<(l0.length:Int) then ((spec_l3Before.f ((rd_T138 l0 (ji21)).f0) ((rd_T138 l0 (ji21)).f1) ((rd_T138 l0 (ji21)).f2) ((rd_T138 l0 (ji21)).f3) ((rd_T138 l0 x3_1).f0) ((rd_T138 l0 x3_1).f1) ((rd_T138 l0 x3_1).f2)).bind fun t161=>(if t161=true then (spec_BlkOk.l0 kj4 l0 (wrap64 (x3_1+1))) else (some false))) else (none)) else (none))=some r:=by first|(rw [hji21] at H;exact H)|(simp only [hji21] at H ⊢;exact H)
          have hji21w:(IntKind.i64.wrap (x3_1 - 1))=ji21:=(i64_w _).trans hji21
          by_cases c22:0≤(ji21)
          ·rw [if_pos c22] at H;have c22b0:decide (0≤(ji21))=true:=decide_eq_true c22;clear c22
           by_cases c23:(ji21)<(l0.length:Int)
           ·rw [if_pos c23] at H;have c23b0:decide ((ji21)<(l0.length:Int))=true:=decide_eq_true c23;clear c23;obtain ⟨t161,A24,H⟩:=bI H;(try dsimp only at H)
            have H0_:=mA H;clear H
            try go_wp2
            replace BK155:=mA (blk_drew BK155.out);replace HB:=mA (below_drew1 HB.out);have p160:0≤((ji21):Int):=of_decide_eq_true bA;have q160:(ji21)<(l0.length:Int):=of_decide_eq_true bA;obtain ⟨ad160,e160,hs160⟩:=at_R138 HR0.out (ji21) p160 q160
            obtain rfl:ad154=ad160:=(by injection e160)
            replace p160:=eq_true p160;replace q160:=eq_true q160
            refine start_ (n:=17) (S:=fun w'=>w'.heap[gb155]?=some (.cells #[.int .i64 ((rd_T138 l0 x3_1).f0),.int .i64 ((rd_T138 l0 x3_1).f1),.int .i64 ((rd_T138 l0 x3_1).f2),.int .i64 ((rd_T138 l0 x3_1).f3)] 138 (0,0))∧RS w' (ad154.add (((ji21)).toNat * 4)) (d138 (rd_T138 l0 (ji21)))) (ds:=[]) _ aK rfl rfl ⟨BK155.out,rS HB hs160⟩ (fun hHeld=>?_);refine with_tabW spec_BlkOk.tab9 spec_BlkOk.bits9 (fun HT_ HW_=>?_)
            generalize wc.drew=w26 at BK155 HB hHeld ⊢
            refine qu 0 ?_;refine qu 1 ?_;refine qu 2 ?_;refine qu 3 ?_;refine qu 4 ?_;refine qu 5 ?_;refine qu 6 ?_;refine qu 8 ?_;refine qu 10 ?_;refine qu 12 ?_;refine qt 7 ?_;refine qt 9 ?_;refine qt 11 ?_;refine qt 13 ?_
            refine qo 14 ?_;intro K hK
            refine goes_ Try.func129 aK rfl #[.agg #[.int .i64 ((rd_T138 l0 (ji21)).f0),.int .i64 ((rd_T138 l0 (ji21)).f1),.int .i64 ((rd_T138 l0 (ji21)).f2),.int .i64 ((rd_T138 l0 (ji21)).f3)],.int .i64 ((rd_T138 l0 x3_1).f0),.int .i64 ((rd_T138 l0 x3_1).f1),.int .i64 ((rd_T138 l0 x3_1).f2)] (by rfl) rfl rfl (by (try simp only [List.map_toArray,List.map_cons,List.map_nil]);first|done|(simp only [hji21];rfl)|rfl|(simp only [List.length_drop,List.length_take];rfl)) ?_
            with_reducible refine (spec_l3Before.calls A24.out).mono ?_
            rintro e w27 ⟨rfl,hb⟩;refine ⟨_,rfl,?_⟩;replace BK155:=bK BK155 hb;replace HB:=spS HB hb
            (try clear hb)
            refine hK.out _ _ ⟨BK155.out,rS HB hs160⟩ (fun hHeld=>?_);clear hK K;refine no_ (some 54) ?_;refine qu 15 ?_;refine qu 16 ?_;refine qe ?_
            have H:=H0_.out;clear H0_
            by_cases c25:t161=true
            ·subst c25;rw [if_pos rfl] at H;have H':=mA H;clear H
             try go_wp2
             go_roundg kj4
             case measure=>have:=HK1.out;have:=HJ4.out;omega
             case rel=>exact ⟨(wrap64 (x3_1+1)),bZ,H',⟨by have:=HK1.out;have:=HJ4.out;omega⟩,⟨pS HB.out⟩⟩
            ·replace c25:=Bool.eq_false_iff.mpr c25;subst c25
             rw [if_neg nFT] at H
             obtain rfl:=Option.some.inj H
             try go_wp2
             go_ret
             exact ⟨by first|rfl|(simp [errW_none,errW_some]<;>rfl)|(simp only [← hji21];first|rfl|(simp [errW_none,errW_some]<;>rfl))|(simp [*,errW_none,errW_some]<;>rfl),pS HB.out⟩
           ·rw [if_neg c23] at H
            exact absurd H (by simp)
          ·rw [if_neg c22] at H
           exact absurd H (by simp)
         ·rw [if_neg c20] at H;have c20b0:decide (0<x3_1)=false:=decide_eq_false c20;clear c20;have H':=mA H;clear H
          try go_wp2
          replace BK155:=mA (blk_drew BK155.out);replace HB:=mA (below_drew1 HB.out)
          refine start_ (n:=17) (S:=fun w'=>True) (ds:=[]) _ aK rfl rfl trivial (fun hHeld=>?_);refine with_tabW spec_BlkOk.tab9 spec_BlkOk.bits9 (fun HT_ HW_=>?_)
          generalize wc.drew=w30 at BK155 HB hHeld ⊢
          refine qu 0 ?_;refine qu 1 ?_;refine qu 2 ?_;refine qd 3 ?_;refine qd 4 ?_;refine qd 5 ?_;refine qd 6 ?_;refine qd 7 ?_;refine qd 8 ?_;refine qd 9 ?_;refine qd 10 ?_;refine qd 11 ?_;refine qd 12 ?_;refine qd 13 ?_;refine qd 14 ?_;refine qd 15 ?_;refine qu 16 ?_;refine qe ?_
          try go_wp2
          go_roundg kj4
          case measure=>have:=HK1.out;have:=HJ4.out;omega
          case rel=>exact ⟨(wrap64 (x3_1+1)),bZ,H',⟨by have:=HK1.out;have:=HJ4.out;omega⟩,⟨pS HB.out⟩⟩
     ·rw [if_neg c4] at H
      exact absurd H (by simp)
    ·rw [if_neg c3] at H;have c3b0:decide (x3_1<(l0.length:Int))=false:=decide_eq_false c3;clear c3;obtain rfl:=Option.some.inj H
     go_wp2
     go_ret
     exact rZ (pB HB.out)
/-! ### spec_l3LastOk: function 71 -/
def spec_l3LastOk.l0 : Nat → List (S140) → Int → Option (Bool)
 | 0,_,_=>none
 | k+1,x0,x3=>if x3<(x0.length:Int) then (if 0≤x3 then ((spec_l6In.f ((rd_T140 x0 x3).f0) 0 3).bind fun t163=>(if t163=true then ((spec_l6In.f ((rd_T140 x0 x3).f1) 1 99999).bind fun t165=>(if t165=true then (if x3 > 0 then (if 0≤(wrap64 (x3 - 1)) then (if (wrap64 (x3 - 1))<(x0.length:Int) then (if ((rd_T140 x0 (wrap64 (x3 - 1))).f0) ≥ ((rd_T140 x0 x3).f0) then (some false) else (spec_l3LastOk.l0 k x0 (wrap64 (x3+1)))) else (none)) else (none)) else (spec_l3LastOk.l0 k x0 (wrap64 (x3+1)))) else (some false))) else (some false))) else (none)) else (some true)
def spec_l3LastOk.f (k : Nat) (l0 : List (S140)) : Option (Bool) := if (l0.length : Int) > 4 then (some false) else (spec_l3LastOk.l0 k l0 0)
def spec_l3LastOk.T6 : Bool × List (List Nat × List Nat) := (true, [([], []), ([], []), ([0, 1], [0, 1]), ([2], [2]), ([3], [3]), ([4], [4]), ([5], [5]), ([6, 5], [6]), ([7], [7]), ([7], [7]), ([8, 9, 7], [7, 8, 9]), ([10, 7], [7, 10]), ([11, 7], [7, 11]), ([12, 7, 7], [7, 12]), ([13, 7], [7, 13]), ([7, 14], [7, 14]), ([15, 13], [15]), ([16], [16]), ([17, 16], [16, 17]), ([18, 16, 16], [16, 18]), ([19], [19]), ([19], [19]), ([21, 19], [19, 21]), ([20, 22, 19], [19, 20, 22]), ([23, 19], [19, 23]), ([24, 19], [19, 24]), ([19], [19]), ([19], [19]), ([26, 27, 19], [19, 26, 27]), ([28, 19], [19, 28]), ([29, 19], [19, 29]), ([25, 30, 19], [19, 25, 30]), ([19, 31, 16], [16, 19, 31]), ([16, 32], [16, 32])])
def spec_l3LastOk.B6 : List Nat := [0, 0, 3, 7, 15, 31, 63, 127, 255, 255, 1023, 2047, 4095, 8191, 16383, 32767, 65535, 131071, 262143, 524287, 1048575, 1048575, 3145727, 8388607, 16777215, 33554431, 1048575, 1048575, 202375167, 470810623, 1007681535, 2147483647, 4294967295, 8589934591]
theorem spec_l3LastOk.tab6 : rtab .any (opsOf Try.f71 6) = spec_l3LastOk.T6 := by kernel_rfl
theorem spec_l3LastOk.bits6 : waitsOk spec_l3LastOk.T6.2 spec_l3LastOk.B6 = true := by kernel_rfl
set_option maxHeartbeats 8000000 in
set_option maxRecDepth 100000 in
theorem spec_l3LastOk.calls {k : Nat} {A0 : Option Addr} {c0 : Nat} {l0 : List (S140)} {r : Bool} {w : World} (hr0 : Kd.C k140 w A0 l0.length l0) (hc0 : l0.length ≤ c0) (h : spec_l3LastOk.f k l0 = some r) :
  Calls Try.prog 71 #[.slice A0 l0.length c0] w fun e w'=>e=.returned (.bool r)∧Below w.heap.size w w':=by
 have HR0:=mA hr0;have HC0:=mA hc0;clear hr0 hc0;have HB:=mA (Below.refl w.heap.size w);have H:(if (l0.length:Int) > 4 then (some false) else (spec_l3LastOk.l0 k l0 0))=some r:=h;clear h
 by_cases c2:(l0.length:Int) > 4
 ·rw [if_pos c2] at H;have c2b0:decide (4<(l0.length:Int))=true:=decide_eq_true c2
  have c2b1:decide (4<l0.length)=true:=decide_eq_true (by omega)
  clear c2;obtain rfl:=Option.some.inj H
  go_enter Try.func71,Try.ntmps71
  go_wp2
  go_ret
  exact rZ (pB HB.out)
 ·rw [if_neg c2] at H;have c2b0:decide (4<(l0.length:Int))=false:=decide_eq_false c2
  have c2b1:decide (4<l0.length)=false:=decide_eq_false (by omega)
  clear c2;have H':=mA H;clear H
  go_enter Try.func71,Try.ntmps71
  go_wp2
  go_loopg [3] k (fun kq v3 w'=>∃ (x3_1:Int),v3=.int .i64 x3_1∧Aside0 (spec_l3LastOk.l0 kq l0 x3_1=some r)∧Aside0 (kq≤k)∧Aside0 (Below w.heap.size w w'))
  case atStart=>exact ⟨(0),bZ,H',⟨Nat.le_refl _⟩,⟨pB HB.out⟩⟩
  case round =>
   clear H'
   (try clear c2);(try clear c2b0);(try clear c2b1)
   obtain ⟨x3_1,rfl,HA,HK1,HB⟩:=hrel
   cases gk with
   | zero=>exact absurd HA.out (by simp [spec_l3LastOk.l0])
   | succ k1 =>
    have H:=HA.out;clear HA;simp only [spec_l3LastOk.l0] at H
    by_cases c3:x3_1<(l0.length:Int)
    ·rw [if_pos c3] at H;have c3b0:decide (x3_1<(l0.length:Int))=true:=decide_eq_true c3;clear c3
     by_cases c4:0≤x3_1
     ·rw [if_pos c4] at H;have c4b0:decide (0≤x3_1)=true:=decide_eq_true c4;clear c4;obtain ⟨t163,A5,H⟩:=bI H;(try dsimp only at H)
      by_cases c6:t163=true
      ·subst c6;rw [if_pos rfl] at H;obtain ⟨t165,A7,H⟩:=bI H;(try dsimp only at H)
       by_cases c8:t165=true
       ·subst c8;rw [if_pos rfl] at H
        by_cases c9:x3_1 > 0
        ·rw [if_pos c9] at H;have c9b0:decide (0<x3_1)=true:=decide_eq_true c9;clear c9;obtain ⟨ji10,hji10⟩:∃ j_:Int,(wrap64 (x3_1 - 1))=j_:=⟨_,rfl⟩
         replace H:(if 0≤(ji10) then (if (ji10)<(l0.length:Int) then (if ((rd_T140 l0 (ji10)).f0) ≥ ((rd_T140 l0 x3_1).f0) then (some false) else (spec_l3LastOk.l0 k1 l0 (wrap64 (x3_1+1)))) else (none)) else (none))=some r:=by first|(rw [hji10] at H;exact H)|(simp only [hji10] at H ⊢;exact H)
         (try rw [hji10] at A5)
         (try rw [hji10] at A7)
         have hji10w:(IntKind.i64.wrap (x3_1 - 1))=ji10:=(i64_w _).trans hji10
         by_cases c11:0≤(ji10)
         ·rw [if_pos c11] at H;have c11b0:decide (0≤(ji10))=true:=decide_eq_true c11;clear c11
          by_cases c12:(ji10)<(l0.length:Int)
          ·rw [if_pos c12] at H;have c12b0:decide ((ji10)<(l0.length:Int))=true:=decide_eq_true c12;clear c12
           by_cases c13:((rd_T140 l0 (ji10)).f0) ≥ ((rd_T140 l0 x3_1).f0)
           ·rw [if_pos c13] at H;have c13b0:decide (((rd_T140 l0 x3_1).f0)≤((rd_T140 l0 (ji10)).f0))=true:=decide_eq_true c13;clear c13;obtain rfl:=Option.some.inj H
            try go_wp2
            replace HB:=mA (below_drew1 HB.out);have p162:0≤(x3_1:Int):=of_decide_eq_true bA;have q162:x3_1<(l0.length:Int):=of_decide_eq_true bA;obtain ⟨ad162,e162,hs162⟩:=at_R140 HR0.out x3_1 p162 q162;cases e162;replace p162:=eq_true p162;replace q162:=eq_true q162;have p164:0≤(x3_1:Int):=of_decide_eq_true bA;have q164:x3_1<(l0.length:Int):=of_decide_eq_true bA;obtain ⟨ad164,e164,hs164⟩:=at_R140 HR0.out x3_1 p164 q164
            obtain rfl:ad162=ad164:=(by injection e164)
            replace p164:=eq_true p164;replace q164:=eq_true q164;have p166:0≤((ji10):Int):=of_decide_eq_true bA;have q166:(ji10)<(l0.length:Int):=of_decide_eq_true bA;obtain ⟨ad166,e166,hs166⟩:=at_R140 HR0.out (ji10) p166 q166
            obtain rfl:ad162=ad166:=(by injection e166)
            replace p166:=eq_true p166;replace q166:=eq_true q166;have p167:0≤(x3_1:Int):=of_decide_eq_true bA;have q167:x3_1<(l0.length:Int):=of_decide_eq_true bA;obtain ⟨ad167,e167,hs167⟩:=at_R140 HR0.out x3_1 p167 q167
            obtain rfl:ad162=ad167:=(by injection e167)
            replace p167:=eq_true p167;replace q167:=eq_true q167
            refine start_ (n:=34) (S:=fun w'=>RS w' (ad162.add ((x3_1).toNat * 2)) (d140 (rd_T140 l0 x3_1))∧RS w' (ad162.add ((x3_1).toNat * 2)) (d140 (rd_T140 l0 x3_1))∧RS w' (ad162.add (((ji10)).toNat * 2)) (d140 (rd_T140 l0 (ji10)))∧RS w' (ad162.add ((x3_1).toNat * 2)) (d140 (rd_T140 l0 x3_1))) (ds:=[]) _ aK rfl rfl ⟨rS HB hs162,rS HB hs164,rS HB hs166,rS HB hs167⟩ (fun hHeld=>?_);refine with_tabW spec_l3LastOk.tab6 spec_l3LastOk.bits6 (fun HT_ HW_=>?_)
            generalize wr.drew=w14 at HB hHeld ⊢
            refine qu 0 ?_;refine qu 1 ?_;refine qu 2 ?_;refine qu 3 ?_;refine qt 4 ?_
            refine qo 5 ?_;intro K hK
            refine gD Try.func67 (spec_l6In.calls A5.out) ?_
            rintro e w' ⟨rfl,⟨nd,rfl⟩⟩;refine ⟨_,rfl,?_⟩;refine hK.out _ _ ⟨rS HB hs162,rS HB hs164,rS HB hs166,rS HB hs167⟩ (fun hHeld=>?_);clear hK K;refine no_ (some 18) ?_;refine qu 6 ?_;refine qu 7 ?_;refine qu 8 ?_;refine qu 9 ?_;refine qu 10 ?_;refine qu 11 ?_;refine qt 12 ?_
            refine qo 13 ?_;intro K hK
            refine gD Try.func67 (spec_l6In.calls A7.out) ?_
            rintro e w' ⟨rfl,⟨nd,rfl⟩⟩;refine ⟨_,rfl,?_⟩;refine hK.out _ _ ⟨rS HB hs162,rS HB hs164,rS HB hs166,rS HB hs167⟩ (fun hHeld=>?_);clear hK K;refine no_ (some 26) ?_;refine qu 14 ?_;refine qu 15 ?_;refine qu 16 ?_;refine qu 17 ?_;refine qu 18 ?_;refine qu 19 ?_;refine qu 20 ?_;refine qu 21 ?_;refine qu 22 ?_;refine qu 23 ?_;refine qu 24 ?_;refine qu 26 ?_;refine qu 27 ?_;refine qu 28 ?_;refine qu 29 ?_;refine qt 25 ?_;refine qt 30 ?_;refine qu 31 ?_;refine qu 32 ?_;refine qu 33 ?_;refine qe ?_
            try go_wp2
            go_ret
            exact ⟨by first|rfl|(simp [errW_none,errW_some]<;>rfl)|(simp only [← hji10];first|rfl|(simp [errW_none,errW_some]<;>rfl))|(simp [*,errW_none,errW_some]<;>rfl),pB HB.out⟩
           ·rw [if_neg c13] at H;have c13b0:decide (((rd_T140 l0 x3_1).f0)≤((rd_T140 l0 (ji10)).f0))=false:=decide_eq_false c13;clear c13;have H':=mA H;clear H
            try go_wp2
            replace HB:=mA (below_drew1 HB.out);have p162:0≤(x3_1:Int):=of_decide_eq_true bA;have q162:x3_1<(l0.length:Int):=of_decide_eq_true bA;obtain ⟨ad162,e162,hs162⟩:=at_R140 HR0.out x3_1 p162 q162;cases e162;replace p162:=eq_true p162;replace q162:=eq_true q162;have p164:0≤(x3_1:Int):=of_decide_eq_true bA;have q164:x3_1<(l0.length:Int):=of_decide_eq_true bA;obtain ⟨ad164,e164,hs164⟩:=at_R140 HR0.out x3_1 p164 q164
            obtain rfl:ad162=ad164:=(by injection e164)
            replace p164:=eq_true p164;replace q164:=eq_true q164;have p166:0≤((ji10):Int):=of_decide_eq_true bA;have q166:(ji10)<(l0.length:Int):=of_decide_eq_true bA;obtain ⟨ad166,e166,hs166⟩:=at_R140 HR0.out (ji10) p166 q166
            obtain rfl:ad162=ad166:=(by injection e166)
            replace p166:=eq_true p166;replace q166:=eq_true q166;have p167:0≤(x3_1:Int):=of_decide_eq_true bA;have q167:x3_1<(l0.length:Int):=of_decide_eq_true bA;obtain ⟨ad167,e167,hs167⟩:=at_R140 HR0.out x3_1 p167 q167
            obtain rfl:ad162=ad167:=(by injection e167)
            replace p167:=eq_true p167;replace q167:=eq_true q167
            refine start_ (n:=34) (S:=fun w'=>RS w' (ad162.add ((x3_1).toNat * 2)) (d140 (rd_T140 l0 x3_1))∧RS w' (ad162.add ((x3_1).toNat * 2)) (d140 (rd_T140 l0 x3_1))∧RS w' (ad162.add (((ji10)).toNat * 2)) (d140 (rd_T140 l0 (ji10)))∧RS w' (ad162.add ((x3_1).toNat * 2)) (d140 (rd_T140 l0 x3_1))) (ds:=[]) _ aK rfl rfl ⟨rS HB hs162,rS HB hs164,rS HB hs166,rS HB hs167⟩ (fun hHeld=>?_);refine with_tabW spec_l3LastOk.tab6 spec_l3LastOk.bits6 (fun HT_ HW_=>?_)
            generalize wr.drew=w15 at HB hHeld ⊢
            refine qu 0 ?_;refine qu 1 ?_;refine qu 2 ?_;refine qu 3 ?_;refine qt 4 ?_
            refine qo 5 ?_;intro K hK
            refine gD Try.func67 (spec_l6In.calls A5.out) ?_
            rintro e w' ⟨rfl,⟨nd,rfl⟩⟩;refine ⟨_,rfl,?_⟩;refine hK.out _ _ ⟨rS HB hs162,rS HB hs164,rS HB hs166,rS HB hs167⟩ (fun hHeld=>?_);clear hK K;refine no_ (some 18) ?_;refine qu 6 ?_;refine qu 7 ?_;refine qu 8 ?_;refine qu 9 ?_;refine qu 10 ?_;refine qu 11 ?_;refine qt 12 ?_
            refine qo 13 ?_;intro K hK
            refine gD Try.func67 (spec_l6In.calls A7.out) ?_
            rintro e w' ⟨rfl,⟨nd,rfl⟩⟩;refine ⟨_,rfl,?_⟩;refine hK.out _ _ ⟨rS HB hs162,rS HB hs164,rS HB hs166,rS HB hs167⟩ (fun hHeld=>?_);clear hK K;refine no_ (some 26) ?_;refine qu 14 ?_;refine qu 15 ?_;refine qu 16 ?_;refine qu 17 ?_;refine qu 18 ?_;refine qu 19 ?_;refine qu 20 ?_;refine qu 21 ?_;refine qu 22 ?_;refine qu 23 ?_;refine qu 24 ?_;refine qu 26 ?_;refine qu 27 ?_;refine qu 28 ?_;refine qu 29 ?_;refine qt 25 ?_;refine qt 30 ?_;refine qu 31 ?_;refine qu 32 ?_;refine qu 33 ?_;refine qe ?_
            try go_wp2
            go_roundg k1
            case measure=>have:=HK1.out;omega
            case rel=>exact ⟨(wrap64 (x3_1+1)),bZ,H',⟨by have:=HK1.out;omega⟩,⟨pB HB.out⟩⟩
          ·rw [if_neg c12] at H
           exact absurd H (by simp)
         ·rw [if_neg c11] at H
          exact absurd H (by simp)
        ·rw [if_neg c9] at H;have c9b0:decide (0<x3_1)=false:=decide_eq_false c9;clear c9;have H':=mA H;clear H
         try go_wp2
         replace HB:=mA (below_drew1 HB.out);have p162:0≤(x3_1:Int):=of_decide_eq_true bA;have q162:x3_1<(l0.length:Int):=of_decide_eq_true bA;obtain ⟨ad162,e162,hs162⟩:=at_R140 HR0.out x3_1 p162 q162;cases e162;replace p162:=eq_true p162;replace q162:=eq_true q162;have p164:0≤(x3_1:Int):=of_decide_eq_true bA;have q164:x3_1<(l0.length:Int):=of_decide_eq_true bA;obtain ⟨ad164,e164,hs164⟩:=at_R140 HR0.out x3_1 p164 q164
         obtain rfl:ad162=ad164:=(by injection e164)
         replace p164:=eq_true p164;replace q164:=eq_true q164
         refine start_ (n:=34) (S:=fun w'=>RS w' (ad162.add ((x3_1).toNat * 2)) (d140 (rd_T140 l0 x3_1))∧RS w' (ad162.add ((x3_1).toNat * 2)) (d140 (rd_T140 l0 x3_1))) (ds:=[]) _ aK rfl rfl ⟨rS HB hs162,rS HB hs164⟩ (fun hHeld=>?_);refine with_tabW spec_l3LastOk.tab6 spec_l3LastOk.bits6 (fun HT_ HW_=>?_)
         generalize wr.drew=w16 at HB hHeld ⊢
         refine qu 0 ?_;refine qu 1 ?_;refine qu 2 ?_;refine qu 3 ?_;refine qt 4 ?_
         refine qo 5 ?_;intro K hK
         refine gD Try.func67 (spec_l6In.calls A5.out) ?_
         rintro e w' ⟨rfl,⟨nd,rfl⟩⟩;refine ⟨_,rfl,?_⟩;refine hK.out _ _ ⟨rS HB hs162,rS HB hs164⟩ (fun hHeld=>?_);clear hK K;refine no_ (some 18) ?_;refine qu 6 ?_;refine qu 7 ?_;refine qu 8 ?_;refine qu 9 ?_;refine qu 10 ?_;refine qu 11 ?_;refine qt 12 ?_
         refine qo 13 ?_;intro K hK
         refine gD Try.func67 (spec_l6In.calls A7.out) ?_
         rintro e w' ⟨rfl,⟨nd,rfl⟩⟩;refine ⟨_,rfl,?_⟩;refine hK.out _ _ ⟨rS HB hs162,rS HB hs164⟩ (fun hHeld=>?_);clear hK K;refine no_ (some 26) ?_;refine qu 14 ?_;refine qu 15 ?_;refine qu 16 ?_;refine qu 17 ?_;refine qu 18 ?_;refine qu 19 ?_;refine qd 20 ?_;refine qd 21 ?_;refine qd 22 ?_;refine qd 23 ?_;refine qd 24 ?_;refine qd 25 ?_;refine qd 26 ?_;refine qd 27 ?_;refine qd 28 ?_;refine qd 29 ?_;refine qd 30 ?_;refine qd 31 ?_;refine qu 32 ?_;refine qu 33 ?_;refine qe ?_
         try go_wp2
         go_roundg k1
         case measure=>have:=HK1.out;omega
         case rel=>exact ⟨(wrap64 (x3_1+1)),bZ,H',⟨by have:=HK1.out;omega⟩,⟨pB HB.out⟩⟩
       ·replace c8:=Bool.eq_false_iff.mpr c8;subst c8
        rw [if_neg nFT] at H
        obtain rfl:=Option.some.inj H
        try go_wp2
        replace HB:=mA (below_drew1 HB.out);have p162:0≤(x3_1:Int):=of_decide_eq_true bA;have q162:x3_1<(l0.length:Int):=of_decide_eq_true bA;obtain ⟨ad162,e162,hs162⟩:=at_R140 HR0.out x3_1 p162 q162;cases e162;replace p162:=eq_true p162;replace q162:=eq_true q162;have p164:0≤(x3_1:Int):=of_decide_eq_true bA;have q164:x3_1<(l0.length:Int):=of_decide_eq_true bA;obtain ⟨ad164,e164,hs164⟩:=at_R140 HR0.out x3_1 p164 q164
        obtain rfl:ad162=ad164:=(by injection e164)
        replace p164:=eq_true p164;replace q164:=eq_true q164
        refine start_ (n:=34) (S:=fun w'=>RS w' (ad162.add ((x3_1).toNat * 2)) (d140 (rd_T140 l0 x3_1))∧RS w' (ad162.add ((x3_1).toNat * 2)) (d140 (rd_T140 l0 x3_1))) (ds:=[]) _ aK rfl rfl ⟨rS HB hs162,rS HB hs164⟩ (fun hHeld=>?_);refine with_tabW spec_l3LastOk.tab6 spec_l3LastOk.bits6 (fun HT_ HW_=>?_)
        generalize wr.drew=w17 at HB hHeld ⊢
        refine qu 0 ?_;refine qu 1 ?_;refine qu 2 ?_;refine qu 3 ?_;refine qt 4 ?_
        refine qo 5 ?_;intro K hK
        refine gD Try.func67 (spec_l6In.calls A5.out) ?_
        rintro e w' ⟨rfl,⟨nd,rfl⟩⟩;refine ⟨_,rfl,?_⟩;refine hK.out _ _ ⟨rS HB hs162,rS HB hs164⟩ (fun hHeld=>?_);clear hK K;refine no_ (some 18) ?_;refine qu 6 ?_;refine qu 7 ?_;refine qu 8 ?_;refine qu 9 ?_;refine qu 10 ?_;refine qu 11 ?_;refine qt 12 ?_
        refine qo 13 ?_;intro K hK
        refine gD Try.func67 (spec_l6In.calls A7.out) ?_
        rintro e w' ⟨rfl,⟨nd,rfl⟩⟩;refine ⟨_,rfl,?_⟩;refine hK.out _ _ ⟨rS HB hs162,rS HB hs164⟩ (fun hHeld=>?_);clear hK K;refine no_ (some 26) ?_;refine qu 14 ?_;refine qu 15 ?_;refine qu 16 ?_;refine qd 17 ?_;refine qd 18 ?_;refine qd 19 ?_;refine qd 20 ?_;refine qd 21 ?_;refine qd 22 ?_;refine qd 23 ?_;refine qd 24 ?_;refine qd 25 ?_;refine qd 26 ?_;refine qd 27 ?_;refine qd 28 ?_;refine qd 29 ?_;refine qd 30 ?_;refine qd 31 ?_;refine qd 32 ?_;refine qu 33 ?_;refine qe ?_
        try go_wp2
        go_ret
        exact rZ (pB HB.out)
      ·replace c6:=Bool.eq_false_iff.mpr c6;subst c6
       rw [if_neg nFT] at H
       obtain rfl:=Option.some.inj H
       try go_wp2
       replace HB:=mA (below_drew1 HB.out);have p162:0≤(x3_1:Int):=of_decide_eq_true bA;have q162:x3_1<(l0.length:Int):=of_decide_eq_true bA;obtain ⟨ad162,e162,hs162⟩:=at_R140 HR0.out x3_1 p162 q162;cases e162;replace p162:=eq_true p162;replace q162:=eq_true q162
       refine start_ (n:=34) (S:=fun w'=>RS w' (ad162.add ((x3_1).toNat * 2)) (d140 (rd_T140 l0 x3_1))) (ds:=[]) _ aK rfl rfl (rS HB hs162) (fun hHeld=>?_);refine with_tabW spec_l3LastOk.tab6 spec_l3LastOk.bits6 (fun HT_ HW_=>?_)
       generalize wr.drew=w18 at HB hHeld ⊢
       refine qu 0 ?_;refine qu 1 ?_;refine qu 2 ?_;refine qu 3 ?_;refine qt 4 ?_
       refine qo 5 ?_;intro K hK
       refine gD Try.func67 (spec_l6In.calls A5.out) ?_
       rintro e w' ⟨rfl,⟨nd,rfl⟩⟩;refine ⟨_,rfl,?_⟩;refine hK.out _ _ (rS HB hs162) (fun hHeld=>?_);clear hK K;refine no_ (some 18) ?_;refine qu 6 ?_;refine qu 7 ?_;refine qd 8 ?_;refine qd 9 ?_;refine qd 10 ?_;refine qd 11 ?_;refine qd 12 ?_;refine qd 13 ?_;refine qd 14 ?_;refine qu 15 ?_;refine qu 16 ?_;refine qd 17 ?_;refine qd 18 ?_;refine qd 19 ?_;refine qd 20 ?_;refine qd 21 ?_;refine qd 22 ?_;refine qd 23 ?_;refine qd 24 ?_;refine qd 25 ?_;refine qd 26 ?_;refine qd 27 ?_;refine qd 28 ?_;refine qd 29 ?_;refine qd 30 ?_;refine qd 31 ?_;refine qd 32 ?_;refine qu 33 ?_;refine qe ?_
       try go_wp2
       go_ret
       exact rZ (pB HB.out)
     ·rw [if_neg c4] at H
      exact absurd H (by simp)
    ·rw [if_neg c3] at H;have c3b0:decide (x3_1<(l0.length:Int))=false:=decide_eq_false c3;clear c3;obtain rfl:=Option.some.inj H
     go_wp2
     go_ret
     exact rZ (pB HB.out)
/-! ### spec_WordOk: function 17 -/
def spec_WordOk.l0 : Nat → List Int → Int → Int → Int → Int → Int → Int → Int → Int → Int → Int → Int → Int → Int → Int → Int → Int → Int → Int → Int → Int → Int → Int → Int → Int → Int → List (S138) → List (S140) → Option (Bool)
 | 0,_,_,_,_,_,_,_,_,_,_,_,_,_,_,_,_,_,_,_,_,_,_,_,_,_,_,_,_=>none
 | k+1,x3,x4,x169000,x169001,x169002,x169003,x169004,x169005,x169006,x169007,x169008,x169009,x169010,x169011,x169012,x169013,x169014,x169015,x169016,x169017,x169018,x169019,x169020,x169021,x169022,x169023,x169024,x169025=>if x4<(x3.length:Int) then (if 0≤x4 then ((spec_l11Num.f (rd x3 x4)).bind fun t173=>(if t173=true then (spec_WordOk.l0 k x3 (wrap64 (x4+1)) x169000 x169001 x169002 x169003 x169004 x169005 x169006 x169007 x169008 x169009 x169010 x169011 x169012 x169013 x169014 x169015 x169016 x169017 x169018 x169019 x169020 x169021 x169022 x169023 x169024 x169025) else (some false))) else (none)) else ((spec_l6In.f x169000 1 15).bind fun t174=>(if t174=true then ((spec_l11Place.f x169001).bind fun t175=>(if t175=true then ((spec_l11Place.f x169002).bind fun t176=>(if t176=true then ((spec_l11CmdOk.f x169006 x169007 x169008 x169009 x169010 x169011 x169012 x169013 x169014 x169015).bind fun t177=>(if t177=true then ((spec_BlkOk.f k x169024).bind fun t178=>(if t178=true then ((spec_l3LastOk.f k x169025).bind fun t179=>(some t179)) else (some false))) else (some false))) else (some false))) else (some false))) else (some false)))
def spec_WordOk.f (k : Nat) (a0_0 a0_1 a0_2 a0_3 a0_4 a0_5 a0_6 a0_7 a0_8 a0_9 a0_10 a0_11 a0_12 a0_13 a0_14 a0_15 a0_16 a0_17 a0_18 a0_19 a0_20 a0_21 a0_22 a0_23 : Int) (l0_24 : List (S138)) (l0_25 : List (S140)) : Option (Bool) := (spec_l11Nums.f a0_0 a0_1 a0_2 a0_3 a0_4 a0_5 a0_6 a0_7 a0_8 a0_9 a0_10 a0_11 a0_12 a0_13 a0_14 a0_15 a0_16 a0_17 a0_18 a0_19 a0_20 a0_21 a0_22 a0_23 l0_24 l0_25).bind fun t169 => (spec_WordOk.l0 k t169 0 a0_0 a0_1 a0_2 a0_3 a0_4 a0_5 a0_6 a0_7 a0_8 a0_9 a0_10 a0_11 a0_12 a0_13 a0_14 a0_15 a0_16 a0_17 a0_18 a0_19 a0_20 a0_21 a0_22 a0_23 l0_24 l0_25)
set_option maxHeartbeats 8000000 in
set_option maxRecDepth 100000 in
theorem spec_WordOk.calls {k : Nat} {a0_0 a0_1 a0_2 a0_3 a0_4 a0_5 a0_6 a0_7 a0_8 a0_9 a0_10 a0_11 a0_12 a0_13 a0_14 a0_15 a0_16 a0_17 a0_18 a0_19 a0_20 a0_21 a0_22 a0_23 : Int} {A0_24 : Option Addr} {c0_24 : Nat} {l0_24 : List (S138)} {A0_25 : Option Addr} {c0_25 : Nat} {l0_25 : List (S140)} {r : Bool} {w : World} (hr0_24 : Kd.C k138 w A0_24 l0_24.length l0_24) (hc0_24 : l0_24.length ≤ c0_24) (hr0_25 : Kd.C k140 w A0_25 l0_25.length l0_25) (hc0_25 : l0_25.length ≤ c0_25) (h : spec_WordOk.f k a0_0 a0_1 a0_2 a0_3 a0_4 a0_5 a0_6 a0_7 a0_8 a0_9 a0_10 a0_11 a0_12 a0_13 a0_14 a0_15 a0_16 a0_17 a0_18 a0_19 a0_20 a0_21 a0_22 a0_23 l0_24 l0_25 = some r) :
  Calls Try.prog 17 #[.agg #[.int .i64 a0_0,.int .i64 a0_1,.int .i64 a0_2,.int .i64 a0_3,.int .i64 a0_4,.int .i64 a0_5,.int .i64 a0_6,.int .i64 a0_7,.int .i64 a0_8,.int .i64 a0_9,.int .i64 a0_10,.int .i64 a0_11,.int .i64 a0_12,.int .i64 a0_13,.int .i64 a0_14,.int .i64 a0_15,.int .i64 a0_16,.int .i64 a0_17,.int .i64 a0_18,.int .i64 a0_19,.int .i64 a0_20,.int .i64 a0_21,.int .i64 a0_22,.int .i64 a0_23,.slice A0_24 l0_24.length c0_24,.slice A0_25 l0_25.length c0_25]] w fun e w'=>e=.returned (.bool r)∧Below w.heap.size w w':=by
 have hu28:=Try.underlying28;have hu24:=Try.underlying24;have HR0_24:=mA hr0_24;have HC0_24:=mA hc0_24;clear hr0_24 hc0_24;have HR0_25:=mA hr0_25;have HC0_25:=mA hc0_25;clear hr0_25 hc0_25;have HB:=mA (Below.refl w.heap.size w);have H:((spec_l11Nums.f a0_0 a0_1 a0_2 a0_3 a0_4 a0_5 a0_6 a0_7 a0_8 a0_9 a0_10 a0_11 a0_12 a0_13 a0_14 a0_15 a0_16 a0_17 a0_18 a0_19 a0_20 a0_21 a0_22 a0_23 l0_24 l0_25).bind fun t169=>(spec_WordOk.l0 k t169 0 a0_0 a0_1 a0_2 a0_3 a0_4 a0_5 a0_6 a0_7 a0_8 a0_9 a0_10 a0_11 a0_12 a0_13 a0_14 a0_15 a0_16 a0_17 a0_18 a0_19 a0_20 a0_21 a0_22 a0_23 l0_24 l0_25))=some r:=h;clear h;obtain ⟨t169,A2,H⟩:=bI H;(try dsimp only at H);have H':=mA H;clear H
 go_enter Try.func17,Try.ntmps17
 go_wp2_with (first|((with_reducible refine gLg rfl (by assumption) ?_);refine ldV ?_)|((with_reducible refine gSt rfl (by assumption) ?_);refine stV ?_)|((with_reducible refine gT 1 rfl ?_);refine bX 1 ?_;intro gb168 hg w3 hbox hb;have BK168:=mA hbox;have GW168:=gbpB HB hg;have GE168:=gbpB HB hg;replace HB:=spB HB hb;clear hb hbox hg;have hcz4_0:=fun i_=>blk_cell BK168.out i_;have hfz4_0:=fun i_=>blk_frozen BK168.out i_)|((with_reducible refine gT 6 rfl ?_);refine gC (some 6) Try.func65 (spec_l11Nums.calls (cB HR0_24 HB) HC0_24.out (cB HR0_25 HB) HC0_25.out A2.out) ?_;rintro e w5 ⟨v170,rfl,ho0,hb⟩;refine ⟨_,rfl,?_⟩;have HO171:=mA (Kd.R_lower ho0 (bpS HB));replace BK168:=bK BK168 hb;replace HB:=spS HB hb;(try clear hb);(try clear ho0)))
 go_loopg [4] k (fun kq v4 w'=>∃ (x4_1:Int),v4=.int .i64 x4_1∧Aside0 (spec_WordOk.l0 kq t169 x4_1 a0_0 a0_1 a0_2 a0_3 a0_4 a0_5 a0_6 a0_7 a0_8 a0_9 a0_10 a0_11 a0_12 a0_13 a0_14 a0_15 a0_16 a0_17 a0_18 a0_19 a0_20 a0_21 a0_22 a0_23 l0_24 l0_25=some r)∧Aside0 (kq≤k)∧Aside0 (Kd.R (Kd.int .i64) 3 w' w.heap.size (fun _=>True) v170 t169)∧Aside0 (w'.heap[gb168]?=some (.cells #[.int .i64 a0_0,.int .i64 a0_1,.int .i64 a0_2,.int .i64 a0_3,.int .i64 a0_4,.int .i64 a0_5,.int .i64 a0_6,.int .i64 a0_7,.int .i64 a0_8,.int .i64 a0_9,.int .i64 a0_10,.int .i64 a0_11,.int .i64 a0_12,.int .i64 a0_13,.int .i64 a0_14,.int .i64 a0_15,.int .i64 a0_16,.int .i64 a0_17,.int .i64 a0_18,.int .i64 a0_19,.int .i64 a0_20,.int .i64 a0_21,.int .i64 a0_22,.int .i64 a0_23,(.slice A0_24 l0_24.length c0_24),(.slice A0_25 l0_25.length c0_25)] 28 (0,0)))∧Aside0 (Below w.heap.size w w'))
 case atStart=>exact ⟨(0),bZ,H',⟨Nat.le_refl _⟩,⟨pR HO171.out⟩,⟨pK BK168.out⟩,⟨pS HB.out⟩⟩
 case round =>
  clear H'
  (try clear hcz4_0);(try clear hfz4_0)
  obtain ⟨x4_1,rfl,HA,HK1,HO_3,BK168,HB⟩:=hrel
  cases gk with
  | zero=>exact absurd HA.out (by simp [spec_WordOk.l0])
  | succ k1 =>
   have H:=HA.out;clear HA;simp only [spec_WordOk.l0] at H
   by_cases c6:x4_1<(t169.length:Int)
   ·rw [if_pos c6] at H;have c6b0:decide (x4_1<(t169.length:Int))=true:=decide_eq_true c6;clear c6
    by_cases c7:0≤x4_1
    ·rw [if_pos c7] at H;have c7b0:decide (0≤x4_1)=true:=decide_eq_true c7;clear c7;obtain ⟨t173,A8,H⟩:=bI H;(try dsimp only at H)
     by_cases c9:t173=true
     ·subst c9;rw [if_pos rfl] at H;have H':=mA H;clear H;obtain ⟨Ao10,co10,rfl⟩:=Kd.R_slice HO_3.out;have p172:0≤(x4_1:Int):=of_decide_eq_true bA;have q172:x4_1<(t169.length:Int):=of_decide_eq_true bA;obtain ⟨ad172,e172,hx172_0⟩:=Kd.at_int (Kd.R_reads' HO_3.out).2.2 x4_1 p172 q172;cases e172;replace p172:=eq_true p172;replace q172:=eq_true q172
      go_wp2_with (first|((with_reducible refine gLg rfl (by assumption) ?_);refine ldV ?_)|((with_reducible refine gSt rfl (by assumption) ?_);refine stV ?_)|((with_reducible refine gT 17 rfl ?_);refine gC (some 17) Try.func66 (spec_l11Num.calls A8.out) ?_;rintro e w' ⟨rfl,⟨nd,rfl⟩⟩;refine ⟨_,rfl,?_⟩))
      go_roundg k1
      case measure=>have:=HK1.out;omega
      case rel=>exact ⟨(wrap64 (x4_1+1)),bZ,H',⟨by have:=HK1.out;omega⟩,⟨pR HO_3.out⟩,⟨pK BK168.out⟩,⟨pS HB.out⟩⟩
     ·replace c9:=Bool.eq_false_iff.mpr c9;subst c9
      rw [if_neg nFT] at H
      obtain rfl:=Option.some.inj H;obtain ⟨Ao11,co11,rfl⟩:=Kd.R_slice HO_3.out;have p172:0≤(x4_1:Int):=of_decide_eq_true bA;have q172:x4_1<(t169.length:Int):=of_decide_eq_true bA;obtain ⟨ad172,e172,hx172_0⟩:=Kd.at_int (Kd.R_reads' HO_3.out).2.2 x4_1 p172 q172;cases e172;replace p172:=eq_true p172;replace q172:=eq_true q172
      go_wp2_with (first|((with_reducible refine gLg rfl (by assumption) ?_);refine ldV ?_)|((with_reducible refine gSt rfl (by assumption) ?_);refine stV ?_)|((with_reducible refine gT 17 rfl ?_);refine gC (some 17) Try.func66 (spec_l11Num.calls A8.out) ?_;rintro e w' ⟨rfl,⟨nd,rfl⟩⟩;refine ⟨_,rfl,?_⟩))
      go_ret
      exact rZ (pS HB.out)
    ·rw [if_neg c7] at H
     exact absurd H (by simp)
   ·rw [if_neg c6] at H;have c6b0:decide (x4_1<(t169.length:Int))=false:=decide_eq_false c6;clear c6;obtain ⟨t174,A12,H⟩:=bI H;(try dsimp only at H)
    by_cases c13:t174=true
    ·subst c13;rw [if_pos rfl] at H;obtain ⟨t175,A14,H⟩:=bI H;(try dsimp only at H)
     by_cases c15:t175=true
     ·subst c15;rw [if_pos rfl] at H;obtain ⟨t176,A16,H⟩:=bI H;(try dsimp only at H)
      by_cases c17:t176=true
      ·subst c17;rw [if_pos rfl] at H;obtain ⟨t177,A18,H⟩:=bI H;(try dsimp only at H)
       by_cases c19:t177=true
       ·subst c19;rw [if_pos rfl] at H;obtain ⟨t178,A20,H⟩:=bI H;(try dsimp only at H)
        by_cases c21:t178=true
        ·subst c21;rw [if_pos rfl] at H;obtain ⟨t179,A22,H⟩:=bI H;(try dsimp only at H);obtain rfl:=Option.some.inj H;obtain ⟨Ao23,co23,rfl⟩:=Kd.R_slice HO_3.out;have hcz24_0:=fun i_=>blk_cell BK168.out i_;have hfz24_0:=fun i_=>blk_frozen BK168.out i_
         go_wp2_with (first|((with_reducible refine gLg rfl (by assumption) ?_);refine ldV ?_)|((with_reducible refine gSt rfl (by assumption) ?_);refine stV ?_)|((with_reducible refine gT 21 rfl ?_);refine gC (some 21) Try.func67 (spec_l6In.calls A12.out) ?_;rintro e w' ⟨rfl,⟨nd,rfl⟩⟩;refine ⟨_,rfl,?_⟩)|(go_at_call 68;(with_reducible refine (spec_l11Place.calls A14.out).mono ?_);rintro e w' ⟨rfl,⟨nd,rfl⟩⟩)|(go_at_call 68;(with_reducible refine (spec_l11Place.calls A16.out).mono ?_);rintro e w' ⟨rfl,⟨nd,rfl⟩⟩)|(go_at_call 69;(with_reducible refine (spec_l11CmdOk.calls A18.out).mono ?_);rintro e w25 ⟨rfl,hb⟩;replace HO_3:=rB HO_3 hb;replace BK168:=bK BK168 hb;replace HB:=spS HB hb;(try clear hb);have hcz26_0:=fun i_=>blk_cell BK168.out i_;have hfz26_0:=fun i_=>blk_frozen BK168.out i_)|(go_at_call 70;(with_reducible refine (spec_BlkOk.calls ?s1 ?s2 A20.out).mono ?_);(case s1=>exact cB HR0_24 HB);(case s2=>exact HC0_24.out);rintro e w27 ⟨rfl,hb⟩;replace HO_3:=rB HO_3 hb;replace BK168:=bK BK168 hb;replace HB:=spS HB hb;(try clear hb);have hcz28_0:=fun i_=>blk_cell BK168.out i_;have hfz28_0:=fun i_=>blk_frozen BK168.out i_)|(go_at_call 71;(with_reducible refine (spec_l3LastOk.calls ?s1 ?s2 A22.out).mono ?_);(case s1=>exact cB HR0_25 HB);(case s2=>exact HC0_25.out);rintro e w29 ⟨rfl,hb⟩;replace HO_3:=rB HO_3 hb;replace BK168:=bK BK168 hb;replace HB:=spS HB hb;(try clear hb)))
         go_ret
         exact rZ (pS HB.out)
        ·replace c21:=Bool.eq_false_iff.mpr c21;subst c21
         rw [if_neg nFT] at H
         obtain rfl:=Option.some.inj H;obtain ⟨Ao30,co30,rfl⟩:=Kd.R_slice HO_3.out;have hcz31_0:=fun i_=>blk_cell BK168.out i_;have hfz31_0:=fun i_=>blk_frozen BK168.out i_
         go_wp2_with (first|((with_reducible refine gLg rfl (by assumption) ?_);refine ldV ?_)|((with_reducible refine gSt rfl (by assumption) ?_);refine stV ?_)|((with_reducible refine gT 21 rfl ?_);refine gC (some 21) Try.func67 (spec_l6In.calls A12.out) ?_;rintro e w' ⟨rfl,⟨nd,rfl⟩⟩;refine ⟨_,rfl,?_⟩)|(go_at_call 68;(with_reducible refine (spec_l11Place.calls A14.out).mono ?_);rintro e w' ⟨rfl,⟨nd,rfl⟩⟩)|(go_at_call 68;(with_reducible refine (spec_l11Place.calls A16.out).mono ?_);rintro e w' ⟨rfl,⟨nd,rfl⟩⟩)|(go_at_call 69;(with_reducible refine (spec_l11CmdOk.calls A18.out).mono ?_);rintro e w32 ⟨rfl,hb⟩;replace HO_3:=rB HO_3 hb;replace BK168:=bK BK168 hb;replace HB:=spS HB hb;(try clear hb);have hcz33_0:=fun i_=>blk_cell BK168.out i_;have hfz33_0:=fun i_=>blk_frozen BK168.out i_)|(go_at_call 70;(with_reducible refine (spec_BlkOk.calls ?s1 ?s2 A20.out).mono ?_);(case s1=>exact cB HR0_24 HB);(case s2=>exact HC0_24.out);rintro e w34 ⟨rfl,hb⟩;replace HO_3:=rB HO_3 hb;replace BK168:=bK BK168 hb;replace HB:=spS HB hb;(try clear hb)))
         go_ret
         exact rZ (pS HB.out)
       ·replace c19:=Bool.eq_false_iff.mpr c19;subst c19
        rw [if_neg nFT] at H
        obtain rfl:=Option.some.inj H;obtain ⟨Ao35,co35,rfl⟩:=Kd.R_slice HO_3.out;have hcz36_0:=fun i_=>blk_cell BK168.out i_;have hfz36_0:=fun i_=>blk_frozen BK168.out i_
        go_wp2_with (first|((with_reducible refine gLg rfl (by assumption) ?_);refine ldV ?_)|((with_reducible refine gSt rfl (by assumption) ?_);refine stV ?_)|((with_reducible refine gT 21 rfl ?_);refine gC (some 21) Try.func67 (spec_l6In.calls A12.out) ?_;rintro e w' ⟨rfl,⟨nd,rfl⟩⟩;refine ⟨_,rfl,?_⟩)|(go_at_call 68;(with_reducible refine (spec_l11Place.calls A14.out).mono ?_);rintro e w' ⟨rfl,⟨nd,rfl⟩⟩)|(go_at_call 68;(with_reducible refine (spec_l11Place.calls A16.out).mono ?_);rintro e w' ⟨rfl,⟨nd,rfl⟩⟩)|(go_at_call 69;(with_reducible refine (spec_l11CmdOk.calls A18.out).mono ?_);rintro e w37 ⟨rfl,hb⟩;replace HO_3:=rB HO_3 hb;replace BK168:=bK BK168 hb;replace HB:=spS HB hb;(try clear hb)))
        go_ret
        exact rZ (pS HB.out)
      ·replace c17:=Bool.eq_false_iff.mpr c17;subst c17
       rw [if_neg nFT] at H
       obtain rfl:=Option.some.inj H;obtain ⟨Ao38,co38,rfl⟩:=Kd.R_slice HO_3.out;have hcz39_0:=fun i_=>blk_cell BK168.out i_;have hfz39_0:=fun i_=>blk_frozen BK168.out i_
       go_wp2_with (first|((with_reducible refine gLg rfl (by assumption) ?_);refine ldV ?_)|((with_reducible refine gSt rfl (by assumption) ?_);refine stV ?_)|((with_reducible refine gT 21 rfl ?_);refine gC (some 21) Try.func67 (spec_l6In.calls A12.out) ?_;rintro e w' ⟨rfl,⟨nd,rfl⟩⟩;refine ⟨_,rfl,?_⟩)|(go_at_call 68;(with_reducible refine (spec_l11Place.calls A14.out).mono ?_);rintro e w' ⟨rfl,⟨nd,rfl⟩⟩)|(go_at_call 68;(with_reducible refine (spec_l11Place.calls A16.out).mono ?_);rintro e w' ⟨rfl,⟨nd,rfl⟩⟩))
       go_ret
       exact rZ (pS HB.out)
     ·replace c15:=Bool.eq_false_iff.mpr c15;subst c15
      rw [if_neg nFT] at H
      obtain rfl:=Option.some.inj H;obtain ⟨Ao40,co40,rfl⟩:=Kd.R_slice HO_3.out;have hcz41_0:=fun i_=>blk_cell BK168.out i_;have hfz41_0:=fun i_=>blk_frozen BK168.out i_
      go_wp2_with (first|((with_reducible refine gLg rfl (by assumption) ?_);refine ldV ?_)|((with_reducible refine gSt rfl (by assumption) ?_);refine stV ?_)|((with_reducible refine gT 21 rfl ?_);refine gC (some 21) Try.func67 (spec_l6In.calls A12.out) ?_;rintro e w' ⟨rfl,⟨nd,rfl⟩⟩;refine ⟨_,rfl,?_⟩)|(go_at_call 68;(with_reducible refine (spec_l11Place.calls A14.out).mono ?_);rintro e w' ⟨rfl,⟨nd,rfl⟩⟩))
      go_ret
      exact rZ (pS HB.out)
    ·replace c13:=Bool.eq_false_iff.mpr c13;subst c13
     rw [if_neg nFT] at H
     obtain rfl:=Option.some.inj H;obtain ⟨Ao42,co42,rfl⟩:=Kd.R_slice HO_3.out;have hcz43_0:=fun i_=>blk_cell BK168.out i_;have hfz43_0:=fun i_=>blk_frozen BK168.out i_
     go_wp2_with (first|((with_reducible refine gLg rfl (by assumption) ?_);refine ldV ?_)|((with_reducible refine gSt rfl (by assumption) ?_);refine stV ?_)|((with_reducible refine gT 21 rfl ?_);refine gC (some 21) Try.func67 (spec_l6In.calls A12.out) ?_;rintro e w' ⟨rfl,⟨nd,rfl⟩⟩;refine ⟨_,rfl,?_⟩))
     go_ret
     exact rZ (pS HB.out)
end Go.Proofs.Ytoieojmfkkidnaa.P
