-- printed by pprint.py (this session's program over the kit's printer) out of the translation. Lean checks it.
import Derived.Test.YtoieojmfkkidnaaPx0
import Derived.Test.YtoieojmfkkidnaaPx1
import Derived.Test.YtoieojmfkkidnaaPx2
import Derived.Test.YtoieojmfkkidnaaPx3
import Derived.Test.YtoieojmfkkidnaaPx4
import Derived.Test.YtoieojmfkkidnaaPx12
import Derived.Test.YtoieojmfkkidnaaPx13
namespace Go.Proofs.Ytoieojmfkkidnaa.P
open Go.RowKit Go.Proofs.YtoieojmfkkidnaaX Go.Proofs.YtoieojmfkkidnaaW.PrintWords Go.Proofs.YtoieojmfkkidnaaW.PrintLast Go.Proofs.YtoieojmfkkidnaaW.PrintMore
attribute [local go_sem] max2_int min2_int max_two min_two max_three min_three max_four min_four   -- for this text's walks alone
set_option linter.unusedVariables false
set_option linter.unusedSimpArgs false
attribute [local go_sem high] eqA24 eqA64 eqA138 eqA140
/-! ### spec_DrawSynVote: function 48 -/
def spec_DrawSynVote.f (k : Nat) (l0 : List Int) : Option (Int × (List (S64)) × Int × Int × Int × Int × Int × Int × Int × Int × Int × Int × Int × Int × Int × Int × Int × Int × Int × Int × Int × Int × Int × Int × Int × Int × Int × (List (S138)) × (List (S140))) := (spec_l6Open.f l0).bind fun bt695 => ((spec_l72Word.f k bt695.1 bt695.2).bind fun bt698 => ((spec_l6Rd_pick.f k bt695.1 bt698.2.2.2.2.2.2.2.2.2.2.2.2.2.2.2.2.2.2.2.2.2.2.2.2.2.2 6).bind fun bt730 => (if bt730.1 > 0 then ((some (([1, 3] : List Int) : List Int)).bind fun y732 => ((spec_l6Rd_pick.f k bt695.1 bt730.2 2).bind fun bt735 => (if 0 ≤ bt735.1 then (if bt735.1 < (y732.length : Int) then ((spec_l72VoterAny.f k bt695.1 bt735.2).bind fun bt738 => ((spec_l6Rd_pick.f k bt695.1 bt738.2.2 3).bind fun bt743 => ((spec_l6Rd_pick.f k bt695.1 bt743.2 12).bind fun bt745 => (some (bt738.1, bt738.2.1, wrap64 (bt743.1 + (wrap64 ((wrap64 (Int.tdiv bt745.1 11)) * 3))), rd y732 bt735.1, bt698.2.1, bt698.2.2.1, bt698.2.2.2.1, bt698.2.2.2.2.1, bt698.2.2.2.2.2.1, bt698.2.2.2.2.2.2.1, bt698.2.2.2.2.2.2.2.1, bt698.2.2.2.2.2.2.2.2.1, bt698.2.2.2.2.2.2.2.2.2.1, bt698.2.2.2.2.2.2.2.2.2.2.1, bt698.2.2.2.2.2.2.2.2.2.2.2.1, bt698.2.2.2.2.2.2.2.2.2.2.2.2.1, bt698.2.2.2.2.2.2.2.2.2.2.2.2.2.1, bt698.2.2.2.2.2.2.2.2.2.2.2.2.2.2.1, bt698.2.2.2.2.2.2.2.2.2.2.2.2.2.2.2.1, bt698.2.2.2.2.2.2.2.2.2.2.2.2.2.2.2.2.1, bt698.2.2.2.2.2.2.2.2.2.2.2.2.2.2.2.2.2.1, bt698.2.2.2.2.2.2.2.2.2.2.2.2.2.2.2.2.2.2.1, bt698.2.2.2.2.2.2.2.2.2.2.2.2.2.2.2.2.2.2.2.1, bt698.2.2.2.2.2.2.2.2.2.2.2.2.2.2.2.2.2.2.2.2.1, bt698.2.2.2.2.2.2.2.2.2.2.2.2.2.2.2.2.2.2.2.2.2.1, bt698.2.2.2.2.2.2.2.2.2.2.2.2.2.2.2.2.2.2.2.2.2.2.1, bt698.2.2.2.2.2.2.2.2.2.2.2.2.2.2.2.2.2.2.2.2.2.2.2.1, bt698.2.2.2.2.2.2.2.2.2.2.2.2.2.2.2.2.2.2.2.2.2.2.2.2.1, bt698.2.2.2.2.2.2.2.2.2.2.2.2.2.2.2.2.2.2.2.2.2.2.2.2.2.1))))) else (none)) else (none)))) else ((spec_l72VoterAny.f k bt695.1 bt730.2).bind fun bt747 => ((spec_l6Rd_pick.f k bt695.1 bt747.2.2 3).bind fun bt752 => ((spec_l6Rd_pick.f k bt695.1 bt752.2 12).bind fun bt754 => (some (bt747.1, bt747.2.1, wrap64 (bt752.1 + (wrap64 ((wrap64 (Int.tdiv bt754.1 11)) * 3))), bt698.1, bt698.2.1, bt698.2.2.1, bt698.2.2.2.1, bt698.2.2.2.2.1, bt698.2.2.2.2.2.1, bt698.2.2.2.2.2.2.1, bt698.2.2.2.2.2.2.2.1, bt698.2.2.2.2.2.2.2.2.1, bt698.2.2.2.2.2.2.2.2.2.1, bt698.2.2.2.2.2.2.2.2.2.2.1, bt698.2.2.2.2.2.2.2.2.2.2.2.1, bt698.2.2.2.2.2.2.2.2.2.2.2.2.1, bt698.2.2.2.2.2.2.2.2.2.2.2.2.2.1, bt698.2.2.2.2.2.2.2.2.2.2.2.2.2.2.1, bt698.2.2.2.2.2.2.2.2.2.2.2.2.2.2.2.1, bt698.2.2.2.2.2.2.2.2.2.2.2.2.2.2.2.2.1, bt698.2.2.2.2.2.2.2.2.2.2.2.2.2.2.2.2.2.1, bt698.2.2.2.2.2.2.2.2.2.2.2.2.2.2.2.2.2.2.1, bt698.2.2.2.2.2.2.2.2.2.2.2.2.2.2.2.2.2.2.2.1, bt698.2.2.2.2.2.2.2.2.2.2.2.2.2.2.2.2.2.2.2.2.1, bt698.2.2.2.2.2.2.2.2.2.2.2.2.2.2.2.2.2.2.2.2.2.1, bt698.2.2.2.2.2.2.2.2.2.2.2.2.2.2.2.2.2.2.2.2.2.2.1, bt698.2.2.2.2.2.2.2.2.2.2.2.2.2.2.2.2.2.2.2.2.2.2.2.1, bt698.2.2.2.2.2.2.2.2.2.2.2.2.2.2.2.2.2.2.2.2.2.2.2.2.1, bt698.2.2.2.2.2.2.2.2.2.2.2.2.2.2.2.2.2.2.2.2.2.2.2.2.2.1))))))))
def spec_DrawSynVote.T5 : Bool × List (List Nat × List Nat) := (true, [([], []), ([0], [0]), ([], []), ([2, 1], [2]), ([], []), ([4, 3], [4]), ([5], [5]), ([6], [6]), ([3, 7], [3, 7]), ([], []), ([1, 5, 0, 1], [1]), ([8, 10, 0, 1, 2, 3, 4, 5, 6, 7, 8, 10], [8]), ([9, 11, 0, 1, 2, 3, 4, 5, 6, 7, 8, 9, 10, 11], [9])])
def spec_DrawSynVote.B5 : List Nat := [0, 1, 0, 7, 0, 31, 63, 127, 255, 0, 63, 1535, 4095]
theorem spec_DrawSynVote.tab5 : rtab .any (opsOf Try.f48 5) = spec_DrawSynVote.T5 := by kernel_rfl
theorem spec_DrawSynVote.bits5 : waitsOk spec_DrawSynVote.T5.2 spec_DrawSynVote.B5 = true := by kernel_rfl
set_option maxHeartbeats 8000000 in
set_option maxRecDepth 100000 in
theorem spec_DrawSynVote.calls {k : Nat} {A0 : Option Addr} {c0 : Nat} {l0 : List Int} {r1 : Int} {r2 : List (S64)} {r3 r4 r5 r6 r7 r8 r9 r10 r11 r12 r13 r14 r15 r16 r17 r18 r19 r20 r21 r22 r23 r24 r25 r26 r27 : Int} {r28 : List (S138)} {r29 : List (S140)} {w : World} (hr0 : Kd.C (Kd.int .u8) w A0 l0.length l0) (hc0 : l0.length ≤ c0) (h : spec_DrawSynVote.f k l0 = some (r1, r2, r3, r4, r5, r6, r7, r8, r9, r10, r11, r12, r13, r14, r15, r16, r17, r18, r19, r20, r21, r22, r23, r24, r25, r26, r27, r28, r29)) :
  Calls Try.prog 48 #[.slice A0 l0.length c0] w fun e w'=>∃ v1_ v27_ v28_:Value,e=.returned (.tuple #[.agg #[.int .i64 r1,v1_],.int .i64 r3,.agg #[.int .i64 r4,.int .i64 r5,.int .i64 r6,.int .i64 r7,.int .i64 r8,.int .i64 r9,.int .i64 r10,.int .i64 r11,.int .i64 r12,.int .i64 r13,.int .i64 r14,.int .i64 r15,.int .i64 r16,.int .i64 r17,.int .i64 r18,.int .i64 r19,.int .i64 r20,.int .i64 r21,.int .i64 r22,.int .i64 r23,.int .i64 r24,.int .i64 r25,.int .i64 r26,.int .i64 r27,v27_,v28_]])∧Kd.R k64 64 w' w.heap.size (fun _=>True) v1_ r2∧Kd.R k138 138 w' w.heap.size (fun _=>True) v27_ r28∧Kd.R k140 140 w' w.heap.size (fun _=>True) v28_ r29∧Below w.heap.size w w':=by
 have hu52:=Try.underlying52;have hu28:=Try.underlying28;have HR0:=mA hr0;have HC0:=mA hc0;clear hr0 hc0;have HB:=mA (Below.refl w.heap.size w);have H:((spec_l6Open.f l0).bind fun bt695=>((spec_l72Word.f k bt695.1 bt695.2).bind fun bt698=>((spec_l6Rd_pick.f k bt695.1 bt698.2.2.2.2.2.2.2.2.2.2.2.2.2.2.2.2.2.2.2.2.2.2.2.2.2.2 6).bind fun bt730=>(if bt730.1 > 0 then ((some (([1,3]:List Int):List Int)).bind fun y732=>((spec_l6Rd_pick.f k bt695.1 bt730.2 2).bind fun bt735=>(if 0≤bt735.1 then (if bt735.1<(y732.length:Int) then ((spec_l72VoterAny.f k bt695.1 bt735.2).bind fun bt738=>((spec_l6Rd_pick.f k bt695.1 bt738.2.2 3).bind fun bt743=>((spec_l6Rd_pick.f k bt695.1 bt743.2 12).bind fun bt745=>(some (bt738.1,bt738.2.1,wrap64 (bt743.1+(wrap64 ((wrap64 (Int.tdiv bt745.1 11)) * 3))),rd y732 bt735.1,bt698.2.1,bt698.2.2.1,bt698.2.2.2.1,bt698.2.2.2.2.1,bt698.2.2.2.2.2.1,bt698.2.2.2.2.2.2.1,bt698.2.2.2.2.2.2.2.1,bt698.2.2.2.2.2.2.2.2.1,bt698.2.2.2.2.2.2.2.2.2.1,bt698.2.2.2.2.2.2.2.2.2.2.1,bt698.2.2.2.2.2.2.2.2.2.2.2.1,bt698.2.2.2.2.2.2.2.2.2.2.2.2.1,bt698.2.2.2.2.2.2.2.2.2.2.2.2.2.1,bt698.2.2.2.2.2.2.2.2.2.2.2.2.2.2.1,bt698.2.2.2.2.2.2.2.2.2.2.2.2.2.2.2.1,bt698.2.2.2.2.2.2.2.2.2.2.2.2.2.2.2.2.1,bt698.2.2.2.2.2.2.2.2.2.2.2.2.2.2.2.2.2.1,bt698.2.2.2.2.2.2.2.2.2.2.2.2.2.2.2.2.2.2.1,bt698.2.2.2.2.2.2.2.2.2.2.2.2.2.2.2.2.2.2.2.1,bt698.2.2.2.2.2.2.2.2.2.2.2.2.2.2.2.2.2.2.2.2.1,bt698.2.2.2.2.2.2.2.2.2.2.2.2.2.2.2.2.2.2.2.2.2.1,bt698.2.2.2.2.2.2.2.2.2.2.2.2.2.2.2.2.2.2.2.2.2.2.1,bt698.2.2.2.2.2.2.2.2.2.2.2.2.2.2.2.2.2.2.2.2.2.2.2.1,bt698.2.2.2.2.2.2.2.2.2.2.2.2.2.2.2.2.2.2.2.2.2.2.2.2.1,bt698.2.2.2.2.2.2.2.2.2.2.2.2.2.2.2.2.2.2.2.2.2.2.2.2.2.1))))) else (none)) else (none)))) else ((spec_l72VoterAny.f k bt695.1 bt730.2).bind fun bt747=>((spec_l6Rd_pick.f k bt695.1 bt747.2.2 3).bind fun bt752=>((spec_l6Rd_pick.f k bt695.1 bt752.2 12).bind fun bt754=>(some (bt747.1,bt747.2.1,wrap64 (bt752.1+(wrap64 ((wrap64 (Int.tdiv bt754.1 11)) * 3))),bt698.1,bt698.2.1,bt698.2.2.1,bt698.2.2.2.1,bt698.2.2.2.2.1,bt698.2.2.2.2.2.1,bt698.2.2.2.2.2.2.1,bt698.2.2.2.2.2.2.2.1,bt698.2.2.2.2.2.2.2.2.1,bt698.2.2.2.2.2.2.2.2.2.1,bt698.2.2.2.2.2.2.2.2.2.2.1,bt698.2.2.2.2.2.2.2.2.2.2.2.1,bt698.2.2.2.2.2.2.2.2.2.2.2.2.1,bt698.2.2.2.2.2.2.2.2.2.2.2.2.2.1,bt698.2.2.2.2.2.2.2.2.2.2.2.2.2.2.1,bt698.2.2.2.2.2.2.2.2.2.2.2.2.2.2.2.1,bt698.2.2.2.2.2.2.2.2.2.2.2.2.2.2.2.2.1,bt698.2.2.2.2.2.2.2.2.2.2.2.2.2.2.2.2.2.1,bt698.2.2.2.2.2.2.2.2.2.2.2.2.2.2.2.2.2.2.1,bt698.2.2.2.2.2.2.2.2.2.2.2.2.2.2.2.2.2.2.2.1,bt698.2.2.2.2.2.2.2.2.2.2.2.2.2.2.2.2.2.2.2.2.1,bt698.2.2.2.2.2.2.2.2.2.2.2.2.2.2.2.2.2.2.2.2.2.1,bt698.2.2.2.2.2.2.2.2.2.2.2.2.2.2.2.2.2.2.2.2.2.2.1,bt698.2.2.2.2.2.2.2.2.2.2.2.2.2.2.2.2.2.2.2.2.2.2.2.1,bt698.2.2.2.2.2.2.2.2.2.2.2.2.2.2.2.2.2.2.2.2.2.2.2.2.1,bt698.2.2.2.2.2.2.2.2.2.2.2.2.2.2.2.2.2.2.2.2.2.2.2.2.2.1)))))))))=some (r1,r2,r3,r4,r5,r6,r7,r8,r9,r10,r11,r12,r13,r14,r15,r16,r17,r18,r19,r20,r21,r22,r23,r24,r25,r26,r27,r28,r29):=h;clear h;obtain ⟨⟨t695,t696⟩,A2,H⟩:=bI H;(try dsimp only at H);obtain ⟨⟨t698,t699,t700,t701,t702,t703,t704,t705,t706,t707,t708,t709,t710,t711,t712,t713,t714,t715,t716,t717,t718,t719,t720,t721,t722,t725,t728⟩,A3,H⟩:=bI H;(try dsimp only at H);obtain ⟨⟨t730,t731⟩,A4,H⟩:=bI H;(try dsimp only at H)
 by_cases c5:t730 > 0
 ·rw [if_pos c5] at H;have c5b0:decide (0<t730)=true:=decide_eq_true c5;clear c5;obtain ⟨y732,hy732⟩:∃ y_:List Int,y_=(([1,3]:List Int)):=⟨_,rfl⟩
  replace H:((spec_l6Rd_pick.f k t695 t731 2).bind fun bt735=>(if 0≤bt735.1 then (if bt735.1<(y732.length:Int) then ((spec_l72VoterAny.f k t695 bt735.2).bind fun bt738=>((spec_l6Rd_pick.f k t695 bt738.2.2 3).bind fun bt743=>((spec_l6Rd_pick.f k t695 bt743.2 12).bind fun bt745=>(some (bt738.1,bt738.2.1,wrap64 (bt743.1+(wrap64 ((wrap64 (Int.tdiv bt745.1 11)) * 3))),rd y732 bt735.1,t699,t700,t701,t702,t703,t704,t705,t706,t707,t708,t709,t710,t711,t712,t713,t714,t715,t716,t717,t718,t719,t720,t721,t722,t725))))) else (none)) else (none)))=some (r1,r2,r3,r4,r5,r6,r7,r8,r9,r10,r11,r12,r13,r14,r15,r16,r17,r18,r19,r20,r21,r22,r23,r24,r25,r26,r27,r28,r29):=qH hy732 H
  have Ny732:=mA hy732;clear hy732;obtain ⟨⟨t735,t736⟩,A6,H⟩:=bI H;(try dsimp only at H)
  by_cases c7:0≤t735
  ·rw [if_pos c7] at H;have c7b0:decide (0≤t735)=true:=decide_eq_true c7;clear c7
   by_cases c8:t735<(y732.length:Int)
   ·rw [if_pos c8] at H;have c8b0:decide (t735<(y732.length:Int))=true:=decide_eq_true c8;clear c8;obtain ⟨⟨t738,t739,t742⟩,A9,H⟩:=bI H;(try dsimp only at H);obtain ⟨⟨t743,t744⟩,A10,H⟩:=bI H;(try dsimp only at H);obtain ⟨⟨t745,t746⟩,A11,H⟩:=bI H;(try dsimp only at H);simp only [Option.some.injEq,Prod.mk.injEq] at H;obtain ⟨rfl,rfl,rfl,rfl,rfl,rfl,rfl,rfl,rfl,rfl,rfl,rfl,rfl,rfl,rfl,rfl,rfl,rfl,rfl,rfl,rfl,rfl,rfl,rfl,rfl,rfl,rfl,rfl,rfl⟩:=H
    go_enter Try.func48,Try.ntmps48
    try go_wp2_with (first|((with_reducible refine gLg rfl (by assumption) ?_);refine ldV ?_)|((with_reducible refine gSt rfl (by assumption) ?_);refine stV ?_)|((with_reducible refine gT 2 rfl ?_);refine bE 2 #[.int .i64 0,.slice none 0 0] 52 ?_;intro gb693 hg w12 hbox hb;have BK693:=mA hbox;have GW693:=gbpB HB hg;have GE693:=gbpB HB hg;replace HB:=spB HB hb;clear hb hbox hg)|((with_reducible refine gT 4 rfl ?_);refine bJ 4 y28 ?_;intro gb694 hg w13 hbox hb;have BK694:=mA hbox;have GW694:=gbpS HB hg;have GE694:=gbpS HB hg;replace HB:=spS HB hb;have NB693_694:=mA (lN (blk_lt (pK BK693.out)) hg);have hN693_694:=NB693_694.out;have NB694_693:=nS NB693_694;have hN694_693:=NB694_693.out;replace BK693:=bK BK693 hb;clear hb hbox hg)|((with_reducible refine gT 8 rfl ?_);refine gC (some 8) Try.func57 (spec_l6Open.calls ?s1 HR0.out HC0.out A2.out) ?_;(case s1=>repeat (first|(with_reducible first|exact HB.out|apply below_alloc|apply pw_below_drewN|apply below_drew1|refine below_set ?_ GE693.out|refine below_set ?_ GE694.out)|exact HB.out));rintro e w14 ⟨g697,rfl,hi,hb,hb2⟩;refine ⟨_,rfl,?_⟩;replace HB:=mA hb;have HI697:=mA hi;have NB697_693:=mA (IsS136.ne_blk hi (blk_below (pK BK693.out) hb2) aD);have NB693_697:=mA (Ne.symm (IsS136.ne_blk hi (blk_below (pK BK693.out) hb2) aD));replace BK693:=mA (blk_below (pK BK693.out) hb2);have NB697_694:=mA (IsS136.ne_blk hi (blk_below (pK BK694.out) hb2) aD);have NB694_697:=mA (Ne.symm (IsS136.ne_blk hi (blk_below (pK BK694.out) hb2) aD));replace BK694:=mA (blk_below (pK BK694.out) hb2);(try clear hb);(try clear hb2);(try clear hi))|((with_reducible refine gT 10 rfl ?_);refine gC (some 10) Try.func56 (spec_l72Word.calls (IsS136.p HI697) (pQ HB (IsS136.ge HI697.out)) A3.out) ?_;rintro e w15 ⟨v723,v726,rfl,ho0,ho1,hi,hb,hk⟩;refine ⟨_,rfl,?_⟩;have HO724:=mA (Kd.R_lower ho0 (below_size (pQ HB (IsS136.ge HI697.out))));have HO727:=mA (Kd.R_lower ho1 (below_size (pQ HB (IsS136.ge HI697.out))));replace BK693:=mA (kB hk (pK BK693.out) NB693_697);replace BK694:=mA (kB hk (pK BK694.out) NB694_697);replace HB:=mA hb;replace HI697:=mA hi;(try clear hb);(try clear hk);(try clear hi);(try clear ho0);(try clear ho1))|((with_reducible refine gT 6 rfl ?_);refine bJ 6 y28 ?_;intro gb729 hg w16 hbox hb;replace HO724:=rB HO724 hb;replace HO727:=rB HO727 hb;have BK729:=mA hbox;have GW729:=mA (lG (below_size (pQ HB (IsS136.ge HI697.out))) hg);have GE729:=mA (lG (below_size (pQ HB (IsS136.ge HI697.out))) hg);replace HB:=mA (below_step (pQ HB (IsS136.ge HI697.out)) hb);have NB693_729:=mA (lN (blk_lt (pK BK693.out)) hg);have hN693_729:=NB693_729.out;have NB729_693:=nS NB693_729;have hN729_693:=NB729_693.out;replace BK693:=bK BK693 hb;have NB694_729:=mA (lN (blk_lt (pK BK694.out)) hg);have hN694_729:=NB694_729.out;have NB729_694:=nS NB694_729;have hN729_694:=NB729_694.out;replace BK694:=bK BK694 hb;have NB697_729:=mA (lN (IsS136.lt (show IsS136 w _ g697 t695 t728 from IsS136.p HI697)) hg);have hN697_729:=NB697_729.out;have NB729_697:=nS NB697_729;have hN729_697:=NB729_697.out;replace HI697:=mA (IsS136.below (IsS136.p HI697) hb);clear hb hbox hg;have hcz20_0:=fun i_=>blk_cell BK729.out i_;have hfz20_0:=fun i_=>blk_frozen BK729.out i_;obtain ⟨Ao21,co21,rfl⟩:=Kd.R_slice HO724.out;obtain ⟨Ao22,co22,rfl⟩:=Kd.R_slice HO727.out)|((with_reducible refine gT 12 rfl ?_);refine gC (some 12) Try.func111 (spec_l6Rd_pick.calls (IsS136.p HI697) (pQ HB (IsS136.ge HI697.out)) A4.out) ?_;rintro e w23 ⟨rfl,hi,hb,hk⟩;refine ⟨_,rfl,?_⟩;replace HO724:=mA (rK (IsS136.apart (IsS136.p HI697) (pG HO724 BK729) aD) hk);replace HO727:=mA (rK (IsS136.apart (IsS136.p HI697) (pG HO727 BK729) aD) hk);replace BK693:=mA (kB hk (pF BK693.out) NB693_697);replace BK694:=mA (kB hk (pF BK694.out) NB694_697);replace BK729:=mA (kP hk #[.int .i64 t698,.int .i64 t699,.int .i64 t700,.int .i64 t701,.int .i64 t702,.int .i64 t703,.int .i64 t704,.int .i64 t705,.int .i64 t706,.int .i64 t707,.int .i64 t708,.int .i64 t709,.int .i64 t710,.int .i64 t711,.int .i64 t712,.int .i64 t713,.int .i64 t714,.int .i64 t715,.int .i64 t716,.int .i64 t717,.int .i64 t718,.int .i64 t719,.int .i64 t720,.int .i64 t721,.slice Ao21 t722.length co21,.slice Ao22 t725.length co22] BK729 NB729_697);replace HB:=mA hb;replace HI697:=mA hi;(try clear hb);(try clear hk);(try clear hi))|((with_reducible refine gT 14 rfl ?_);refine Kd.R_lit (Kd.int .i64) _ 3 ?hg (N:=14) ?hd (xs:=([1,3]:List Int)) (inner:=[.int .i64 1,.int .i64 3]) (ok:=fun _=>True) (okp:=fun _=>True) ?hr ?hp (fun _ hk=>hk) trivial (Below.refl _ _) (Nat.le_refl _) (by simp) ?_;(case hd=>rfl);(case hg=>rfl);(case hr=>first|(go_simp;done)|(go_simp;rfl));(case hp=>repeat (first|exact Reps.none _ _|refine Reps.one (show Kd.M (Kd.int .i64) _ _ _ _ [_] from rfl) ?_));intro v733 w24 ho25 hb hg_ hnew_;clear hg_ hnew_;(first|rw [← Ny732.out] at ho25|(simp only [Int.reduceToNat] at ho25;rw [← Ny732.out] at ho25));replace HO724:=rB HO724 hb;replace HO727:=rB HO727 hb;have HO734:=mA (Kd.R_lower ho25 (below_size (pQ HB (IsS136.ge HI697.out))));replace BK693:=bK BK693 hb;replace BK694:=bK BK694 hb;replace BK729:=bK BK729 hb;replace HB:=mA (below_step (pQ HB (IsS136.ge HI697.out)) hb);replace HI697:=mA (IsS136.below (IsS136.p HI697) hb);clear hb ho25)|((with_reducible refine gT 16 rfl ?_);refine gC (some 16) Try.func111 (spec_l6Rd_pick.calls (IsS136.p HI697) (pQ HB (IsS136.ge HI697.out)) A6.out) ?_;rintro e w26 ⟨rfl,hi,hb,hk⟩;refine ⟨_,rfl,?_⟩;replace HO724:=mA (rK (IsS136.apart (IsS136.p HI697) (pR HO724.out) aD) hk);replace HO727:=mA (rK (IsS136.apart (IsS136.p HI697) (pR HO727.out) aD) hk);replace HO734:=mA (rK (IsS136.apart (IsS136.p HI697) (pR HO734.out) aD) hk);replace BK693:=mA (kB hk (pK BK693.out) NB693_697);replace BK694:=mA (kB hk (pK BK694.out) NB694_697);replace BK729:=mA (kB hk (pK BK729.out) NB729_697);replace HB:=mA hb;replace HI697:=mA hi;(try clear hb);(try clear hk);(try clear hi);obtain ⟨Ao27,co27,rfl⟩:=Kd.R_slice HO734.out;have p737:0≤(t735:Int):=of_decide_eq_true bA;have q737:t735<(y732.length:Int):=of_decide_eq_true bA;obtain ⟨ad737,e737,hx737_0⟩:=Kd.at_int (Kd.R_reads' HO734.out).2.2 t735 p737 q737;cases e737;replace p737:=eq_true p737;replace q737:=eq_true q737;have hcz28_0:=fun i_=>blk_cell BK729.out i_;have hfz28_0:=fun i_=>blk_frozen BK729.out i_))
    generalize hW_:(w26.setCell ⟨gb729,0,none⟩ (.int .i64 (rd y732 t735)))=w29
    have n0_:Aside0 (Kd.R k138 138 w29 w.heap.size (fun _=>True) (.slice Ao21 t722.length co21) t722):=⟨by rw [← hW_];exact pU HO724 BK729⟩;have n1_:Aside0 (Kd.R k140 140 w29 w.heap.size (fun _=>True) (.slice Ao22 t725.length co22) t725):=⟨by rw [← hW_];exact pU HO727 BK729⟩;have n2_:Aside0 (Kd.R (Kd.int .i64) 3 w29 w.heap.size (fun _=>True) (.slice (some ad737) y732.length co27) y732):=⟨by rw [← hW_];exact pU HO734 BK729⟩;have n3_:Aside0 (w29.heap[gb693]?=some (.cells #[.int .i64 0,.slice none 0 0] 52 (0,0))):=⟨by rw [← hW_];exact pF BK693.out⟩;have n4_:Aside0 (w29.heap[gb694]?=some (.cells #[.int .i64 0,.int .i64 0,.int .i64 0,.int .i64 0,.int .i64 0,.int .i64 0,.int .i64 0,.int .i64 0,.int .i64 0,.int .i64 0,.int .i64 0,.int .i64 0,.int .i64 0,.int .i64 0,.int .i64 0,.int .i64 0,.int .i64 0,.int .i64 0,.int .i64 0,.int .i64 0,.int .i64 0,.int .i64 0,.int .i64 0,.int .i64 0,.slice none 0 0,.slice none 0 0] 28 (0,0))):=⟨by rw [← hW_];exact pF BK694.out⟩;have n5_:Aside0 (w29.heap[gb729]?=some (.cells #[.int .i64 (rd y732 t735),.int .i64 t699,.int .i64 t700,.int .i64 t701,.int .i64 t702,.int .i64 t703,.int .i64 t704,.int .i64 t705,.int .i64 t706,.int .i64 t707,.int .i64 t708,.int .i64 t709,.int .i64 t710,.int .i64 t711,.int .i64 t712,.int .i64 t713,.int .i64 t714,.int .i64 t715,.int .i64 t716,.int .i64 t717,.int .i64 t718,.int .i64 t719,.int .i64 t720,.int .i64 t721,.slice Ao21 t722.length co21,.slice Ao22 t725.length co22] 28 (0,0))):=⟨by rw [← hW_];exact pP BK729⟩;have n6_:Aside0 (IsS136 w w29 g697 t695 t736):=⟨by rw [← hW_];exact IsS136.p HI697⟩;have n7_:Aside0 (Below w.heap.size w w29):=⟨by rw [← hW_];exact pQ HB (IsS136.ge HI697.out)⟩
    (try clear HO724);(try clear HO727);(try clear HO734);(try clear BK693);(try clear BK694);(try clear BK729);(try clear HI697);(try clear HB);clear hW_
    have HO724:=n0_;have HO727:=n1_;have HO734:=n2_;have BK693:=n3_;have BK694:=n4_;have BK729:=n5_;have HI697:=n6_;have HB:=n7_;clear n0_ n1_ n2_ n3_ n4_ n5_ n6_ n7_;replace HO724:=rD HO724;replace HO727:=rD HO727;replace HO734:=rD HO734;replace BK693:=mA (blk_drew BK693.out);replace BK694:=mA (blk_drew BK694.out);replace BK729:=mA (blk_drew BK729.out);replace HI697:=mA (IsS136.drew HI697.out);replace HB:=mA (below_drew1 HB.out)
    refine start_ (n:=13) (S:=fun w'=>w'.heap[gb729]?=some (.cells #[.int .i64 (rd y732 t735),.int .i64 t699,.int .i64 t700,.int .i64 t701,.int .i64 t702,.int .i64 t703,.int .i64 t704,.int .i64 t705,.int .i64 t706,.int .i64 t707,.int .i64 t708,.int .i64 t709,.int .i64 t710,.int .i64 t711,.int .i64 t712,.int .i64 t713,.int .i64 t714,.int .i64 t715,.int .i64 t716,.int .i64 t717,.int .i64 t718,.int .i64 t719,.int .i64 t720,.int .i64 t721,.slice Ao21 t722.length co21,.slice Ao22 t725.length co22] 28 (0,0))) (ds:=[]) _ aK rfl rfl BK729.out (fun hHeld=>?_);refine with_tabW spec_DrawSynVote.tab5 spec_DrawSynVote.bits5 (fun HT_ HW_=>?_)
    generalize w29.drew=w30 at HO724 HO727 HO734 BK693 BK694 BK729 HI697 HB hHeld ⊢
    refine qu 0 ?_;refine qu 2 ?_;refine qu 4 ?_;refine qt 9 ?_
    refine qo 1 ?_;intro K hK
    refine gD Try.func112 (spec_l72VoterAny.calls (IsS136.p HI697) (pQ HB (IsS136.ge HI697.out)) A9.out) ?_
    rintro e w31 ⟨v740,rfl,ho0,hi,hb,hk⟩;refine ⟨_,rfl,?_⟩
    replace HO724:=mA (rK (IsS136.apart (IsS136.p HI697) (pR HO724.out) aD) hk);replace HO727:=mA (rK (IsS136.apart (IsS136.p HI697) (pR HO727.out) aD) hk);replace HO734:=mA (rK (IsS136.apart (IsS136.p HI697) (pR HO734.out) aD) hk);have HO741:=mA (Kd.R_lower ho0 (below_size (pQ HB (IsS136.ge HI697.out))));replace BK693:=mA (kB hk (pK BK693.out) NB693_697);replace BK694:=mA (kB hk (pK BK694.out) NB694_697);replace BK729:=mA (kB hk (pK BK729.out) NB729_697);replace HB:=mA hb;replace HI697:=mA hi
    (try clear hb);(try clear hk);(try clear hi);(try clear ho0)
    refine hK.out _ _ BK729.out (fun hHeld=>?_);clear hK K;refine no_ (some 21) ?_
    refine qo 3 ?_;intro K hK
    refine gD Try.func111 (spec_l6Rd_pick.calls (IsS136.p HI697) (pQ HB (IsS136.ge HI697.out)) A10.out) ?_
    rintro e w32 ⟨rfl,hi,hb,hk⟩;refine ⟨_,rfl,?_⟩
    replace HO724:=mA (rK (IsS136.apart (IsS136.p HI697) (pR HO724.out) aD) hk);replace HO727:=mA (rK (IsS136.apart (IsS136.p HI697) (pR HO727.out) aD) hk);replace HO734:=mA (rK (IsS136.apart (IsS136.p HI697) (pR HO734.out) aD) hk);replace HO741:=mA (rK (IsS136.apart (IsS136.p HI697) (pR HO741.out) aD) hk);replace BK693:=mA (kB hk (pK BK693.out) NB693_697);replace BK694:=mA (kB hk (pK BK694.out) NB694_697);replace BK729:=mA (kB hk (pK BK729.out) NB729_697);replace HB:=mA hb;replace HI697:=mA hi
    (try clear hb);(try clear hk);(try clear hi)
    refine hK.out _ _ BK729.out (fun hHeld=>?_);clear hK K;refine no_ (some 23) ?_
    refine qo 5 ?_;intro K hK
    refine gD Try.func111 (spec_l6Rd_pick.calls (IsS136.p HI697) (pQ HB (IsS136.ge HI697.out)) A11.out) ?_
    rintro e w33 ⟨rfl,hi,hb,hk⟩;refine ⟨_,rfl,?_⟩
    replace HO724:=mA (rK (IsS136.apart (IsS136.p HI697) (pR HO724.out) aD) hk);replace HO727:=mA (rK (IsS136.apart (IsS136.p HI697) (pR HO727.out) aD) hk);replace HO734:=mA (rK (IsS136.apart (IsS136.p HI697) (pR HO734.out) aD) hk);replace HO741:=mA (rK (IsS136.apart (IsS136.p HI697) (pR HO741.out) aD) hk);replace BK693:=mA (kB hk (pK BK693.out) NB693_697);replace BK694:=mA (kB hk (pK BK694.out) NB694_697);replace BK729:=mA (kB hk (pK BK729.out) NB729_697);replace HB:=mA hb;replace HI697:=mA hi
    (try clear hb);(try clear hk);(try clear hi)
    obtain ⟨Ao35,co35,eo35⟩:=Kd.R_slice HO741.out
    (first|subst eo35|(injection eo35 with f1_ f2_ f3_;have f4_:=f1_.symm;have f5_:=f3_.symm;clear f1_ f2_ f3_;subst f4_;subst f5_))
    refine hK.out _ _ BK729.out (fun hHeld=>?_);clear hK K;refine no_ (some 25) ?_;refine qu 6 ?_;refine qu 7 ?_;refine qu 8 ?_
    refine qo 10 ?_;intro K hK
    have hcz34_0:=fun i_=>blk_cell BK693.out i_;have hfz34_0:=fun i_=>blk_frozen BK693.out i_
    refine skip_ (w1:=?_) (by rfl) rfl ?_ ?_
    rotate_left
    ·first|exact stG|(go_simp;rfl)
    refine hK.out _ _ (pF2 BK729) (fun hHeld=>?_);clear hK K
    refine qu 11 ?_
    refine qo 12 ?_;intro K hK
    have hcz37_0:=fun i_=>blk_cell BK694.out i_;have hfz37_0:=fun i_=>blk_frozen BK694.out i_
    refine skip_ (w1:=?_) (by rfl) rfl ?_ ?_
    rotate_left
    ·first|exact stG|(go_simp;rfl)
    refine hK.out _ _ (pF2 BK729) (fun hHeld=>?_);clear hK K
    refine qe ?_
    try go_wp2_with (first|((with_reducible refine gLg rfl (by assumption) ?_);refine ldV ?_)|((with_reducible refine gSt rfl (by assumption) ?_);refine stV ?_))
    refine bodyPost_ret (results_list (rs:=[.cell 2 52,.tmp 3,.cell 4 28]) rfl (by simp) (.cell gb693 52 #[.int .i64 t738,.slice Ao35 t739.length co35] (0,0) _ rfl (pP BK693) Try.underlying52 rfl aK (.tmp (.cell gb694 28 #[.int .i64 (rd y732 t735),.int .i64 t699,.int .i64 t700,.int .i64 t701,.int .i64 t702,.int .i64 t703,.int .i64 t704,.int .i64 t705,.int .i64 t706,.int .i64 t707,.int .i64 t708,.int .i64 t709,.int .i64 t710,.int .i64 t711,.int .i64 t712,.int .i64 t713,.int .i64 t714,.int .i64 t715,.int .i64 t716,.int .i64 t717,.int .i64 t718,.int .i64 t719,.int .i64 t720,.int .i64 t721,.slice Ao21 t722.length co21,.slice Ao22 t725.length co22] (0,0) _ rfl (pP BK694) Try.underlying28 rfl aK .nil)))) rfl ?_
    exact ⟨_,_,_,by first|rfl|(simp [errW_none,errW_some]<;>rfl)|(simp [*,errW_none,errW_some]<;>rfl),pUU HO741 BK693 BK694,pUU HO724 BK693 BK694,pUU HO727 BK693 BK694,pQ HB (IsS136.ge HI697.out)⟩
   ·rw [if_neg c8] at H
    exact absurd H (by simp)
  ·rw [if_neg c7] at H
   exact absurd H (by simp)
 ·rw [if_neg c5] at H;have c5b0:decide (0<t730)=false:=decide_eq_false c5;clear c5;obtain ⟨⟨t747,t748,t751⟩,A63,H⟩:=bI H;(try dsimp only at H);obtain ⟨⟨t752,t753⟩,A64,H⟩:=bI H;(try dsimp only at H);obtain ⟨⟨t754,t755⟩,A65,H⟩:=bI H;(try dsimp only at H);simp only [Option.some.injEq,Prod.mk.injEq] at H;obtain ⟨rfl,rfl,rfl,rfl,rfl,rfl,rfl,rfl,rfl,rfl,rfl,rfl,rfl,rfl,rfl,rfl,rfl,rfl,rfl,rfl,rfl,rfl,rfl,rfl,rfl,rfl,rfl,rfl,rfl⟩:=H
  go_enter Try.func48,Try.ntmps48
  try go_wp2_with (first|((with_reducible refine gLg rfl (by assumption) ?_);refine ldV ?_)|((with_reducible refine gSt rfl (by assumption) ?_);refine stV ?_)|((with_reducible refine gT 2 rfl ?_);refine bE 2 #[.int .i64 0,.slice none 0 0] 52 ?_;intro gb693 hg w66 hbox hb;have BK693:=mA hbox;have GW693:=gbpB HB hg;have GE693:=gbpB HB hg;replace HB:=spB HB hb;clear hb hbox hg)|((with_reducible refine gT 4 rfl ?_);refine bJ 4 y28 ?_;intro gb694 hg w67 hbox hb;have BK694:=mA hbox;have GW694:=gbpS HB hg;have GE694:=gbpS HB hg;replace HB:=spS HB hb;have NB693_694:=mA (lN (blk_lt (pK BK693.out)) hg);have hN693_694:=NB693_694.out;have NB694_693:=nS NB693_694;have hN694_693:=NB694_693.out;replace BK693:=bK BK693 hb;clear hb hbox hg)|((with_reducible refine gT 8 rfl ?_);refine gC (some 8) Try.func57 (spec_l6Open.calls ?s1 HR0.out HC0.out A2.out) ?_;(case s1=>repeat (first|(with_reducible first|exact HB.out|apply below_alloc|apply pw_below_drewN|apply below_drew1|refine below_set ?_ GE693.out|refine below_set ?_ GE694.out)|exact HB.out));rintro e w68 ⟨g697,rfl,hi,hb,hb2⟩;refine ⟨_,rfl,?_⟩;replace HB:=mA hb;have HI697:=mA hi;have NB697_693:=mA (IsS136.ne_blk hi (blk_below (pK BK693.out) hb2) aD);have NB693_697:=mA (Ne.symm (IsS136.ne_blk hi (blk_below (pK BK693.out) hb2) aD));replace BK693:=mA (blk_below (pK BK693.out) hb2);have NB697_694:=mA (IsS136.ne_blk hi (blk_below (pK BK694.out) hb2) aD);have NB694_697:=mA (Ne.symm (IsS136.ne_blk hi (blk_below (pK BK694.out) hb2) aD));replace BK694:=mA (blk_below (pK BK694.out) hb2);(try clear hb);(try clear hb2);(try clear hi))|((with_reducible refine gT 10 rfl ?_);refine gC (some 10) Try.func56 (spec_l72Word.calls (IsS136.p HI697) (pQ HB (IsS136.ge HI697.out)) A3.out) ?_;rintro e w69 ⟨v723,v726,rfl,ho0,ho1,hi,hb,hk⟩;refine ⟨_,rfl,?_⟩;have HO724:=mA (Kd.R_lower ho0 (below_size (pQ HB (IsS136.ge HI697.out))));have HO727:=mA (Kd.R_lower ho1 (below_size (pQ HB (IsS136.ge HI697.out))));replace BK693:=mA (kB hk (pK BK693.out) NB693_697);replace BK694:=mA (kB hk (pK BK694.out) NB694_697);replace HB:=mA hb;replace HI697:=mA hi;(try clear hb);(try clear hk);(try clear hi);(try clear ho0);(try clear ho1))|((with_reducible refine gT 6 rfl ?_);refine bJ 6 y28 ?_;intro gb729 hg w70 hbox hb;replace HO724:=rB HO724 hb;replace HO727:=rB HO727 hb;have BK729:=mA hbox;have GW729:=mA (lG (below_size (pQ HB (IsS136.ge HI697.out))) hg);have GE729:=mA (lG (below_size (pQ HB (IsS136.ge HI697.out))) hg);replace HB:=mA (below_step (pQ HB (IsS136.ge HI697.out)) hb);have NB693_729:=mA (lN (blk_lt (pK BK693.out)) hg);have hN693_729:=NB693_729.out;have NB729_693:=nS NB693_729;have hN729_693:=NB729_693.out;replace BK693:=bK BK693 hb;have NB694_729:=mA (lN (blk_lt (pK BK694.out)) hg);have hN694_729:=NB694_729.out;have NB729_694:=nS NB694_729;have hN729_694:=NB729_694.out;replace BK694:=bK BK694 hb;have NB697_729:=mA (lN (IsS136.lt (show IsS136 w _ g697 t695 t728 from IsS136.p HI697)) hg);have hN697_729:=NB697_729.out;have NB729_697:=nS NB697_729;have hN729_697:=NB729_697.out;replace HI697:=mA (IsS136.below (IsS136.p HI697) hb);clear hb hbox hg;have hcz74_0:=fun i_=>blk_cell BK729.out i_;have hfz74_0:=fun i_=>blk_frozen BK729.out i_;obtain ⟨Ao75,co75,rfl⟩:=Kd.R_slice HO724.out;obtain ⟨Ao76,co76,rfl⟩:=Kd.R_slice HO727.out)|((with_reducible refine gT 12 rfl ?_);refine gC (some 12) Try.func111 (spec_l6Rd_pick.calls (IsS136.p HI697) (pQ HB (IsS136.ge HI697.out)) A4.out) ?_;rintro e w77 ⟨rfl,hi,hb,hk⟩;refine ⟨_,rfl,?_⟩;replace HO724:=mA (rK (IsS136.apart (IsS136.p HI697) (pG HO724 BK729) aD) hk);replace HO727:=mA (rK (IsS136.apart (IsS136.p HI697) (pG HO727 BK729) aD) hk);replace BK693:=mA (kB hk (pF BK693.out) NB693_697);replace BK694:=mA (kB hk (pF BK694.out) NB694_697);replace BK729:=mA (kP hk #[.int .i64 t698,.int .i64 t699,.int .i64 t700,.int .i64 t701,.int .i64 t702,.int .i64 t703,.int .i64 t704,.int .i64 t705,.int .i64 t706,.int .i64 t707,.int .i64 t708,.int .i64 t709,.int .i64 t710,.int .i64 t711,.int .i64 t712,.int .i64 t713,.int .i64 t714,.int .i64 t715,.int .i64 t716,.int .i64 t717,.int .i64 t718,.int .i64 t719,.int .i64 t720,.int .i64 t721,.slice Ao75 t722.length co75,.slice Ao76 t725.length co76] BK729 NB729_697);replace HB:=mA hb;replace HI697:=mA hi;(try clear hb);(try clear hk);(try clear hi)))
  replace HO724:=rD HO724;replace HO727:=rD HO727;replace BK693:=mA (blk_drew BK693.out);replace BK694:=mA (blk_drew BK694.out);replace BK729:=mA (blk_drew BK729.out);replace HI697:=mA (IsS136.drew HI697.out);replace HB:=mA (below_drew1 HB.out)
  refine start_ (n:=13) (S:=fun w'=>w'.heap[gb729]?=some (.cells #[.int .i64 t698,.int .i64 t699,.int .i64 t700,.int .i64 t701,.int .i64 t702,.int .i64 t703,.int .i64 t704,.int .i64 t705,.int .i64 t706,.int .i64 t707,.int .i64 t708,.int .i64 t709,.int .i64 t710,.int .i64 t711,.int .i64 t712,.int .i64 t713,.int .i64 t714,.int .i64 t715,.int .i64 t716,.int .i64 t717,.int .i64 t718,.int .i64 t719,.int .i64 t720,.int .i64 t721,.slice Ao75 t722.length co75,.slice Ao76 t725.length co76] 28 (0,0))) (ds:=[]) _ aK rfl rfl BK729.out (fun hHeld=>?_);refine with_tabW spec_DrawSynVote.tab5 spec_DrawSynVote.bits5 (fun HT_ HW_=>?_)
  generalize w77.drew=w78 at HO724 HO727 BK693 BK694 BK729 HI697 HB hHeld ⊢
  refine qu 0 ?_;refine qu 2 ?_;refine qu 4 ?_;refine qt 9 ?_
  refine qo 1 ?_;intro K hK
  refine gD Try.func112 (spec_l72VoterAny.calls (IsS136.p HI697) (pQ HB (IsS136.ge HI697.out)) A63.out) ?_
  rintro e w79 ⟨v749,rfl,ho0,hi,hb,hk⟩;refine ⟨_,rfl,?_⟩
  replace HO724:=mA (rK (IsS136.apart (IsS136.p HI697) (pR HO724.out) aD) hk);replace HO727:=mA (rK (IsS136.apart (IsS136.p HI697) (pR HO727.out) aD) hk);have HO750:=mA (Kd.R_lower ho0 (below_size (pQ HB (IsS136.ge HI697.out))));replace BK693:=mA (kB hk (pK BK693.out) NB693_697);replace BK694:=mA (kB hk (pK BK694.out) NB694_697);replace BK729:=mA (kB hk (pK BK729.out) NB729_697);replace HB:=mA hb;replace HI697:=mA hi
  (try clear hb);(try clear hk);(try clear hi);(try clear ho0)
  refine hK.out _ _ BK729.out (fun hHeld=>?_);clear hK K;refine no_ (some 21) ?_
  refine qo 3 ?_;intro K hK
  refine gD Try.func111 (spec_l6Rd_pick.calls (IsS136.p HI697) (pQ HB (IsS136.ge HI697.out)) A64.out) ?_
  rintro e w80 ⟨rfl,hi,hb,hk⟩;refine ⟨_,rfl,?_⟩
  replace HO724:=mA (rK (IsS136.apart (IsS136.p HI697) (pR HO724.out) aD) hk);replace HO727:=mA (rK (IsS136.apart (IsS136.p HI697) (pR HO727.out) aD) hk);replace HO750:=mA (rK (IsS136.apart (IsS136.p HI697) (pR HO750.out) aD) hk);replace BK693:=mA (kB hk (pK BK693.out) NB693_697);replace BK694:=mA (kB hk (pK BK694.out) NB694_697);replace BK729:=mA (kB hk (pK BK729.out) NB729_697);replace HB:=mA hb;replace HI697:=mA hi
  (try clear hb);(try clear hk);(try clear hi)
  refine hK.out _ _ BK729.out (fun hHeld=>?_);clear hK K;refine no_ (some 23) ?_
  refine qo 5 ?_;intro K hK
  refine gD Try.func111 (spec_l6Rd_pick.calls (IsS136.p HI697) (pQ HB (IsS136.ge HI697.out)) A65.out) ?_
  rintro e w81 ⟨rfl,hi,hb,hk⟩;refine ⟨_,rfl,?_⟩
  replace HO724:=mA (rK (IsS136.apart (IsS136.p HI697) (pR HO724.out) aD) hk);replace HO727:=mA (rK (IsS136.apart (IsS136.p HI697) (pR HO727.out) aD) hk);replace HO750:=mA (rK (IsS136.apart (IsS136.p HI697) (pR HO750.out) aD) hk);replace BK693:=mA (kB hk (pK BK693.out) NB693_697);replace BK694:=mA (kB hk (pK BK694.out) NB694_697);replace BK729:=mA (kB hk (pK BK729.out) NB729_697);replace HB:=mA hb;replace HI697:=mA hi
  (try clear hb);(try clear hk);(try clear hi)
  obtain ⟨Ao83,co83,eo83⟩:=Kd.R_slice HO750.out
  (first|subst eo83|(injection eo83 with f1_ f2_ f3_;have f4_:=f1_.symm;have f5_:=f3_.symm;clear f1_ f2_ f3_;subst f4_;subst f5_))
  refine hK.out _ _ BK729.out (fun hHeld=>?_);clear hK K;refine no_ (some 25) ?_;refine qu 6 ?_;refine qu 7 ?_;refine qu 8 ?_
  refine qo 10 ?_;intro K hK
  have hcz82_0:=fun i_=>blk_cell BK693.out i_;have hfz82_0:=fun i_=>blk_frozen BK693.out i_
  refine skip_ (w1:=?_) (by rfl) rfl ?_ ?_
  rotate_left
  ·first|exact stG|(go_simp;rfl)
  refine hK.out _ _ (pF2 BK729) (fun hHeld=>?_);clear hK K
  refine qu 11 ?_
  refine qo 12 ?_;intro K hK
  have hcz85_0:=fun i_=>blk_cell BK694.out i_;have hfz85_0:=fun i_=>blk_frozen BK694.out i_
  refine skip_ (w1:=?_) (by rfl) rfl ?_ ?_
  rotate_left
  ·first|exact stG|(go_simp;rfl)
  refine hK.out _ _ (pF2 BK729) (fun hHeld=>?_);clear hK K
  refine qe ?_
  try go_wp2_with (first|((with_reducible refine gLg rfl (by assumption) ?_);refine ldV ?_)|((with_reducible refine gSt rfl (by assumption) ?_);refine stV ?_))
  refine bodyPost_ret (results_list (rs:=[.cell 2 52,.tmp 3,.cell 4 28]) rfl (by simp) (.cell gb693 52 #[.int .i64 t747,.slice Ao83 t748.length co83] (0,0) _ rfl (pP BK693) Try.underlying52 rfl aK (.tmp (.cell gb694 28 #[.int .i64 t698,.int .i64 t699,.int .i64 t700,.int .i64 t701,.int .i64 t702,.int .i64 t703,.int .i64 t704,.int .i64 t705,.int .i64 t706,.int .i64 t707,.int .i64 t708,.int .i64 t709,.int .i64 t710,.int .i64 t711,.int .i64 t712,.int .i64 t713,.int .i64 t714,.int .i64 t715,.int .i64 t716,.int .i64 t717,.int .i64 t718,.int .i64 t719,.int .i64 t720,.int .i64 t721,.slice Ao75 t722.length co75,.slice Ao76 t725.length co76] (0,0) _ rfl (pP BK694) Try.underlying28 rfl aK .nil)))) rfl ?_
  exact ⟨_,_,_,by first|rfl|(simp [errW_none,errW_some]<;>rfl)|(simp [*,errW_none,errW_some]<;>rfl),pUU HO750 BK693 BK694,pUU HO724 BK693 BK694,pUU HO727 BK693 BK694,pQ HB (IsS136.ge HI697.out)⟩
/-! ### laws_lpInts: function 113 -/
def laws_lpInts.l0 : Nat → List Int → List Int → Int → Option (Bool)
 | 0,_,_,_=>none
 | k+1,x0,x1,x5=>if x5<(x0.length:Int) then (if 0≤x5 then (if x5<(x1.length:Int) then (if (rd x0 x5)=(rd x1 x5) then (laws_lpInts.l0 k x0 x1 (wrap64 (x5+1))) else (some false)) else (none)) else (none)) else (some true)
def laws_lpInts.f (k : Nat) (l0 : List Int) (l1 : List Int) : Option (Bool) := if (l0.length : Int) = (l1.length : Int) then (laws_lpInts.l0 k l0 l1 0) else (some false)
set_option maxHeartbeats 8000000 in
set_option maxRecDepth 100000 in
theorem laws_lpInts.calls {k : Nat} {A0 : Option Addr} {c0 : Nat} {l0 : List Int} {A1 : Option Addr} {c1 : Nat} {l1 : List Int} {r : Bool} {w : World} (hr0 : Kd.C (Kd.int .i64) w A0 l0.length l0) (hc0 : l0.length ≤ c0) (hr1 : Kd.C (Kd.int .i64) w A1 l1.length l1) (hc1 : l1.length ≤ c1) (h : laws_lpInts.f k l0 l1 = some r) :
  Calls Try.prog 113 #[.slice A0 l0.length c0,.slice A1 l1.length c1] w fun e w'=>e=.returned (.bool r)∧Drawn0 w w':=by
 have HR0:=mA hr0;have HC0:=mA hc0;clear hr0 hc0;have HR1:=mA hr1;have HC1:=mA hc1;clear hr1 hc1;have H:(if (l0.length:Int)=(l1.length:Int) then (laws_lpInts.l0 k l0 l1 0) else (some false))=some r:=h;clear h
 by_cases c3:(l0.length:Int)=(l1.length:Int)
 ·rw [if_pos c3] at H;have c3b0:((l0.length:Int) == (l1.length:Int))=true:=beq_iff_eq.mpr c3;have c3b1:((l0.length:Int) != (l1.length:Int))=false:=bne_eq_false_iff_eq.mpr c3
  have c3b2:(l0.length == l1.length)=true:=by first|simpa using c3|(simp at c3 ⊢;omega)
  clear c3;have H':=mA H;clear H
  go_enter Try.func113,Try.ntmps113
  go_wp2
  repeat (go_quiet (fail);try go_wp2)
  go_loopg [5] k (fun kq v5 w'=>∃ (x5_1:Int),v5=.int .i64 x5_1∧Aside0 (laws_lpInts.l0 kq l0 l1 x5_1=some r)∧Aside0 (kq≤k)∧Drawn0 w w')
  case atStart=>exact ⟨(0),bZ,H',⟨Nat.le_refl _⟩,by repeat (first|exact Drawn0.refl _|apply Drawn0.step)⟩
  case round =>
   clear H'
   (try clear c3);(try clear c3b0);(try clear c3b1);(try clear c3b2)
   obtain ⟨x5_1,rfl,HA,HK1,⟨m1,rfl⟩⟩:=hrel
   cases gk with
   | zero=>exact absurd HA.out (by simp [laws_lpInts.l0])
   | succ k1 =>
    have H:=HA.out;clear HA;simp only [laws_lpInts.l0] at H
    by_cases c4:x5_1<(l0.length:Int)
    ·rw [if_pos c4] at H;have c4b0:decide (x5_1<(l0.length:Int))=true:=decide_eq_true c4;clear c4
     by_cases c5:0≤x5_1
     ·rw [if_pos c5] at H;have c5b0:decide (0≤x5_1)=true:=decide_eq_true c5;clear c5
      by_cases c6:x5_1<(l1.length:Int)
      ·rw [if_pos c6] at H;have c6b0:decide (x5_1<(l1.length:Int))=true:=decide_eq_true c6;clear c6
       by_cases c7:(rd l0 x5_1)=(rd l1 x5_1)
       ·rw [if_pos c7] at H;obtain ⟨c7b0,c7b1⟩:=eqB c7;clear c7;have H':=mA H;clear H;have p756:0≤(x5_1:Int):=of_decide_eq_true bA;have q756:x5_1<(l0.length:Int):=of_decide_eq_true bA;obtain ⟨ad756,e756,hx756_0⟩:=Kd.at_int HR0.out x5_1 p756 q756;cases e756;replace p756:=eq_true p756;replace q756:=eq_true q756;have p757:0≤(x5_1:Int):=of_decide_eq_true bA;have q757:x5_1<(l1.length:Int):=of_decide_eq_true bA;obtain ⟨ad757,e757,hx757_0⟩:=Kd.at_int HR1.out x5_1 p757 q757;cases e757;replace p757:=eq_true p757;replace q757:=eq_true q757
        go_wp2
        repeat (go_quiet (fail);try go_wp2)
        go_roundg k1
        case measure=>have:=HK1.out;omega
        case rel=>exact ⟨(wrap64 (x5_1+1)),bZ,H',⟨by have:=HK1.out;omega⟩,by repeat (first|exact Drawn0.refl _|apply Drawn0.step)⟩
       ·rw [if_neg c7] at H;have c7b0:((rd l0 x5_1) == (rd l1 x5_1))=false:=beq_eq_false_iff_ne.mpr c7;have c7b1:((rd l0 x5_1) != (rd l1 x5_1))=true:=bne_iff_ne.mpr c7;obtain rfl:=Option.some.inj H;have p756:0≤(x5_1:Int):=of_decide_eq_true bA;have q756:x5_1<(l0.length:Int):=of_decide_eq_true bA;obtain ⟨ad756,e756,hx756_0⟩:=Kd.at_int HR0.out x5_1 p756 q756;cases e756;replace p756:=eq_true p756;replace q756:=eq_true q756;have p757:0≤(x5_1:Int):=of_decide_eq_true bA;have q757:x5_1<(l1.length:Int):=of_decide_eq_true bA;obtain ⟨ad757,e757,hx757_0⟩:=Kd.at_int HR1.out x5_1 p757 q757;cases e757;replace p757:=eq_true p757;replace q757:=eq_true q757
        go_wp2
        repeat (go_quiet (fail);try go_wp2)
        go_ret
        exact ⟨by first|rfl|(simp;done)|(simp [*];done),by repeat (first|exact Drawn0.refl _|apply Drawn0.step)⟩
      ·rw [if_neg c6] at H
       exact absurd H (by simp)
     ·rw [if_neg c5] at H
      exact absurd H (by simp)
    ·rw [if_neg c4] at H;have c4b0:decide (x5_1<(l0.length:Int))=false:=decide_eq_false c4;clear c4;obtain rfl:=Option.some.inj H
     go_wp2
     repeat (go_quiet (fail);try go_wp2)
     go_ret
     exact ⟨by first|rfl|(simp;done)|(simp [*];done),by repeat (first|exact Drawn0.refl _|apply Drawn0.step)⟩
 ·rw [if_neg c3] at H;have c3b0:((l0.length:Int) == (l1.length:Int))=false:=beq_eq_false_iff_ne.mpr c3;have c3b1:((l0.length:Int) != (l1.length:Int))=true:=bne_iff_ne.mpr c3
  have c3b2:(l0.length == l1.length)=false:=by first|simpa using c3|(simp at c3 ⊢;omega)
  obtain rfl:=Option.some.inj H
  go_enter Try.func113,Try.ntmps113
  go_wp2
  repeat (go_quiet (fail);try go_wp2)
  go_ret
  exact ⟨by first|rfl|(simp;done)|(simp [*];done),by repeat (first|exact Drawn0.refl _|apply Drawn0.step)⟩
/-! ### laws_lpPieces: function 114 -/
def laws_lpPieces.l0 : Nat → List (S138) → List (S138) → Int → Option (Bool)
 | 0,_,_,_=>none
 | k+1,x0,x1,x5=>if x5<(x0.length:Int) then (if 0≤x5 then (if x5<(x1.length:Int) then (if (!(((rd_T138 x0 x5).f0) == ((rd_T138 x1 x5).f0)) || (!(((rd_T138 x0 x5).f1) == ((rd_T138 x1 x5).f1)) || (!(((rd_T138 x0 x5).f2) == ((rd_T138 x1 x5).f2)) || (!(((rd_T138 x0 x5).f3) == ((rd_T138 x1 x5).f3))))))=true then (some false) else (laws_lpPieces.l0 k x0 x1 (wrap64 (x5+1)))) else (none)) else (none)) else (some true)
def laws_lpPieces.f (k : Nat) (l0 : List (S138)) (l1 : List (S138)) : Option (Bool) := if (l0.length : Int) = (l1.length : Int) then (laws_lpPieces.l0 k l0 l1 0) else (some false)
set_option maxHeartbeats 8000000 in
set_option maxRecDepth 100000 in
theorem laws_lpPieces.calls {k : Nat} {A0 : Option Addr} {c0 : Nat} {l0 : List (S138)} {A1 : Option Addr} {c1 : Nat} {l1 : List (S138)} {r : Bool} {w : World} (hr0 : Kd.C k138 w A0 l0.length l0) (hc0 : l0.length ≤ c0) (hr1 : Kd.C k138 w A1 l1.length l1) (hc1 : l1.length ≤ c1) (h : laws_lpPieces.f k l0 l1 = some r) :
  Calls Try.prog 114 #[.slice A0 l0.length c0,.slice A1 l1.length c1] w fun e w'=>e=.returned (.bool r)∧Drawn0 w w':=by
 have hu138:=Try.underlying138;have HR0:=mA hr0;have HC0:=mA hc0;clear hr0 hc0;have HR1:=mA hr1;have HC1:=mA hc1;clear hr1 hc1;have H:(if (l0.length:Int)=(l1.length:Int) then (laws_lpPieces.l0 k l0 l1 0) else (some false))=some r:=h;clear h
 by_cases c3:(l0.length:Int)=(l1.length:Int)
 ·rw [if_pos c3] at H;have c3b0:((l0.length:Int) == (l1.length:Int))=true:=beq_iff_eq.mpr c3;have c3b1:((l0.length:Int) != (l1.length:Int))=false:=bne_eq_false_iff_eq.mpr c3
  have c3b2:(l0.length == l1.length)=true:=by first|simpa using c3|(simp at c3 ⊢;omega)
  clear c3;have H':=mA H;clear H
  go_enter Try.func114,Try.ntmps114
  go_wp2
  repeat (go_quiet (fail);try go_wp2)
  go_loopg [5] k (fun kq v5 w'=>∃ (x5_1:Int),v5=.int .i64 x5_1∧Aside0 (laws_lpPieces.l0 kq l0 l1 x5_1=some r)∧Aside0 (kq≤k)∧Drawn0 w w')
  case atStart=>exact ⟨(0),bZ,H',⟨Nat.le_refl _⟩,by repeat (first|exact Drawn0.refl _|apply Drawn0.step)⟩
  case round =>
   clear H'
   (try clear c3);(try clear c3b0);(try clear c3b1);(try clear c3b2)
   obtain ⟨x5_1,rfl,HA,HK1,⟨m1,rfl⟩⟩:=hrel
   cases gk with
   | zero=>exact absurd HA.out (by simp [laws_lpPieces.l0])
   | succ k1 =>
    have H:=HA.out;clear HA;simp only [laws_lpPieces.l0] at H
    by_cases c4:x5_1<(l0.length:Int)
    ·rw [if_pos c4] at H;have c4b0:decide (x5_1<(l0.length:Int))=true:=decide_eq_true c4;clear c4
     by_cases c5:0≤x5_1
     ·rw [if_pos c5] at H;have c5b0:decide (0≤x5_1)=true:=decide_eq_true c5;clear c5
      by_cases c6:x5_1<(l1.length:Int)
      ·rw [if_pos c6] at H;have c6b0:decide (x5_1<(l1.length:Int))=true:=decide_eq_true c6;clear c6
       by_cases c7:(!(((rd_T138 l0 x5_1).f0) == ((rd_T138 l1 x5_1).f0)) || (!(((rd_T138 l0 x5_1).f1) == ((rd_T138 l1 x5_1).f1)) || (!(((rd_T138 l0 x5_1).f2) == ((rd_T138 l1 x5_1).f2)) || (!(((rd_T138 l0 x5_1).f3) == ((rd_T138 l1 x5_1).f3))))))=true
       ·rw [if_pos c7] at H;have c7b0:(!(((rd_T138 l0 x5_1).f0) == ((rd_T138 l1 x5_1).f0)) || (!(((rd_T138 l0 x5_1).f1) == ((rd_T138 l1 x5_1).f1)) || (!(((rd_T138 l0 x5_1).f2) == ((rd_T138 l1 x5_1).f2)) || (!(((rd_T138 l0 x5_1).f3) == ((rd_T138 l1 x5_1).f3))))))=true:=c7;clear c7;obtain rfl:=Option.some.inj H;have p758:0≤(x5_1:Int):=of_decide_eq_true bA;have q758:x5_1<(l0.length:Int):=of_decide_eq_true bA;obtain ⟨ad758,e758,hx758_0,hx758_1,hx758_2,hx758_3⟩:=at_T138 HR0.out x5_1 p758 q758;cases e758;replace p758:=eq_true p758;replace q758:=eq_true q758;have p759:0≤(x5_1:Int):=of_decide_eq_true bA;have q759:x5_1<(l1.length:Int):=of_decide_eq_true bA;obtain ⟨ad759,e759,hx759_0,hx759_1,hx759_2,hx759_3⟩:=at_T138 HR1.out x5_1 p759 q759;cases e759;replace p759:=eq_true p759;replace q759:=eq_true q759
        go_wp2
        repeat (go_quiet (fail);try go_wp2)
        go_ret
        exact ⟨by first|rfl|(simp;done)|(simp [*];done),by repeat (first|exact Drawn0.refl _|apply Drawn0.step)⟩
       ·rw [if_neg c7] at H
        have c7b0:(!(((rd_T138 l0 x5_1).f0) == ((rd_T138 l1 x5_1).f0)) || (!(((rd_T138 l0 x5_1).f1) == ((rd_T138 l1 x5_1).f1)) || (!(((rd_T138 l0 x5_1).f2) == ((rd_T138 l1 x5_1).f2)) || (!(((rd_T138 l0 x5_1).f3) == ((rd_T138 l1 x5_1).f3))))))=false:=by simpa using c7
        clear c7;have H':=mA H;clear H;have p758:0≤(x5_1:Int):=of_decide_eq_true bA;have q758:x5_1<(l0.length:Int):=of_decide_eq_true bA;obtain ⟨ad758,e758,hx758_0,hx758_1,hx758_2,hx758_3⟩:=at_T138 HR0.out x5_1 p758 q758;cases e758;replace p758:=eq_true p758;replace q758:=eq_true q758;have p759:0≤(x5_1:Int):=of_decide_eq_true bA;have q759:x5_1<(l1.length:Int):=of_decide_eq_true bA;obtain ⟨ad759,e759,hx759_0,hx759_1,hx759_2,hx759_3⟩:=at_T138 HR1.out x5_1 p759 q759;cases e759;replace p759:=eq_true p759;replace q759:=eq_true q759
        go_wp2
        repeat (go_quiet (fail);try go_wp2)
        go_roundg k1
        case measure=>have:=HK1.out;omega
        case rel=>exact ⟨(wrap64 (x5_1+1)),bZ,H',⟨by have:=HK1.out;omega⟩,by repeat (first|exact Drawn0.refl _|apply Drawn0.step)⟩
      ·rw [if_neg c6] at H
       exact absurd H (by simp)
     ·rw [if_neg c5] at H
      exact absurd H (by simp)
    ·rw [if_neg c4] at H;have c4b0:decide (x5_1<(l0.length:Int))=false:=decide_eq_false c4;clear c4;obtain rfl:=Option.some.inj H
     go_wp2
     repeat (go_quiet (fail);try go_wp2)
     go_ret
     exact ⟨by first|rfl|(simp;done)|(simp [*];done),by repeat (first|exact Drawn0.refl _|apply Drawn0.step)⟩
 ·rw [if_neg c3] at H;have c3b0:((l0.length:Int) == (l1.length:Int))=false:=beq_eq_false_iff_ne.mpr c3;have c3b1:((l0.length:Int) != (l1.length:Int))=true:=bne_iff_ne.mpr c3
  have c3b2:(l0.length == l1.length)=false:=by first|simpa using c3|(simp at c3 ⊢;omega)
  obtain rfl:=Option.some.inj H
  go_enter Try.func114,Try.ntmps114
  go_wp2
  repeat (go_quiet (fail);try go_wp2)
  go_ret
  exact ⟨by first|rfl|(simp;done)|(simp [*];done),by repeat (first|exact Drawn0.refl _|apply Drawn0.step)⟩
/-! ### laws_lpLast: function 115 -/
def laws_lpLast.l0 : Nat → List (S140) → List (S140) → Int → Option (Bool)
 | 0,_,_,_=>none
 | k+1,x0,x1,x5=>if x5<(x0.length:Int) then (if 0≤x5 then (if x5<(x1.length:Int) then (if (!(((rd_T140 x0 x5).f0) == ((rd_T140 x1 x5).f0)) || (!(((rd_T140 x0 x5).f1) == ((rd_T140 x1 x5).f1))))=true then (some false) else (laws_lpLast.l0 k x0 x1 (wrap64 (x5+1)))) else (none)) else (none)) else (some true)
def laws_lpLast.f (k : Nat) (l0 : List (S140)) (l1 : List (S140)) : Option (Bool) := if (l0.length : Int) = (l1.length : Int) then (laws_lpLast.l0 k l0 l1 0) else (some false)
set_option maxHeartbeats 8000000 in
set_option maxRecDepth 100000 in
theorem laws_lpLast.calls {k : Nat} {A0 : Option Addr} {c0 : Nat} {l0 : List (S140)} {A1 : Option Addr} {c1 : Nat} {l1 : List (S140)} {r : Bool} {w : World} (hr0 : Kd.C k140 w A0 l0.length l0) (hc0 : l0.length ≤ c0) (hr1 : Kd.C k140 w A1 l1.length l1) (hc1 : l1.length ≤ c1) (h : laws_lpLast.f k l0 l1 = some r) :
  Calls Try.prog 115 #[.slice A0 l0.length c0,.slice A1 l1.length c1] w fun e w'=>e=.returned (.bool r)∧Drawn0 w w':=by
 have hu140:=Try.underlying140;have HR0:=mA hr0;have HC0:=mA hc0;clear hr0 hc0;have HR1:=mA hr1;have HC1:=mA hc1;clear hr1 hc1;have H:(if (l0.length:Int)=(l1.length:Int) then (laws_lpLast.l0 k l0 l1 0) else (some false))=some r:=h;clear h
 by_cases c3:(l0.length:Int)=(l1.length:Int)
 ·rw [if_pos c3] at H;have c3b0:((l0.length:Int) == (l1.length:Int))=true:=beq_iff_eq.mpr c3;have c3b1:((l0.length:Int) != (l1.length:Int))=false:=bne_eq_false_iff_eq.mpr c3
  have c3b2:(l0.length == l1.length)=true:=by first|simpa using c3|(simp at c3 ⊢;omega)
  clear c3;have H':=mA H;clear H
  go_enter Try.func115,Try.ntmps115
  go_wp2
  repeat (go_quiet (fail);try go_wp2)
  go_loopg [5] k (fun kq v5 w'=>∃ (x5_1:Int),v5=.int .i64 x5_1∧Aside0 (laws_lpLast.l0 kq l0 l1 x5_1=some r)∧Aside0 (kq≤k)∧Drawn0 w w')
  case atStart=>exact ⟨(0),bZ,H',⟨Nat.le_refl _⟩,by repeat (first|exact Drawn0.refl _|apply Drawn0.step)⟩
  case round =>
   clear H'
   (try clear c3);(try clear c3b0);(try clear c3b1);(try clear c3b2)
   obtain ⟨x5_1,rfl,HA,HK1,⟨m1,rfl⟩⟩:=hrel
   cases gk with
   | zero=>exact absurd HA.out (by simp [laws_lpLast.l0])
   | succ k1 =>
    have H:=HA.out;clear HA;simp only [laws_lpLast.l0] at H
    by_cases c4:x5_1<(l0.length:Int)
    ·rw [if_pos c4] at H;have c4b0:decide (x5_1<(l0.length:Int))=true:=decide_eq_true c4;clear c4
     by_cases c5:0≤x5_1
     ·rw [if_pos c5] at H;have c5b0:decide (0≤x5_1)=true:=decide_eq_true c5;clear c5
      by_cases c6:x5_1<(l1.length:Int)
      ·rw [if_pos c6] at H;have c6b0:decide (x5_1<(l1.length:Int))=true:=decide_eq_true c6;clear c6
       by_cases c7:(!(((rd_T140 l0 x5_1).f0) == ((rd_T140 l1 x5_1).f0)) || (!(((rd_T140 l0 x5_1).f1) == ((rd_T140 l1 x5_1).f1))))=true
       ·rw [if_pos c7] at H;have c7b0:(!(((rd_T140 l0 x5_1).f0) == ((rd_T140 l1 x5_1).f0)) || (!(((rd_T140 l0 x5_1).f1) == ((rd_T140 l1 x5_1).f1))))=true:=c7;clear c7;obtain rfl:=Option.some.inj H;have p760:0≤(x5_1:Int):=of_decide_eq_true bA;have q760:x5_1<(l0.length:Int):=of_decide_eq_true bA;obtain ⟨ad760,e760,hx760_0,hx760_1⟩:=at_T140 HR0.out x5_1 p760 q760;cases e760;replace p760:=eq_true p760;replace q760:=eq_true q760;have p761:0≤(x5_1:Int):=of_decide_eq_true bA;have q761:x5_1<(l1.length:Int):=of_decide_eq_true bA;obtain ⟨ad761,e761,hx761_0,hx761_1⟩:=at_T140 HR1.out x5_1 p761 q761;cases e761;replace p761:=eq_true p761;replace q761:=eq_true q761
        go_wp2
        repeat (go_quiet (fail);try go_wp2)
        go_ret
        exact ⟨by first|rfl|(simp;done)|(simp [*];done),by repeat (first|exact Drawn0.refl _|apply Drawn0.step)⟩
       ·rw [if_neg c7] at H
        have c7b0:(!(((rd_T140 l0 x5_1).f0) == ((rd_T140 l1 x5_1).f0)) || (!(((rd_T140 l0 x5_1).f1) == ((rd_T140 l1 x5_1).f1))))=false:=by simpa using c7
        clear c7;have H':=mA H;clear H;have p760:0≤(x5_1:Int):=of_decide_eq_true bA;have q760:x5_1<(l0.length:Int):=of_decide_eq_true bA;obtain ⟨ad760,e760,hx760_0,hx760_1⟩:=at_T140 HR0.out x5_1 p760 q760;cases e760;replace p760:=eq_true p760;replace q760:=eq_true q760;have p761:0≤(x5_1:Int):=of_decide_eq_true bA;have q761:x5_1<(l1.length:Int):=of_decide_eq_true bA;obtain ⟨ad761,e761,hx761_0,hx761_1⟩:=at_T140 HR1.out x5_1 p761 q761;cases e761;replace p761:=eq_true p761;replace q761:=eq_true q761
        go_wp2
        repeat (go_quiet (fail);try go_wp2)
        go_roundg k1
        case measure=>have:=HK1.out;omega
        case rel=>exact ⟨(wrap64 (x5_1+1)),bZ,H',⟨by have:=HK1.out;omega⟩,by repeat (first|exact Drawn0.refl _|apply Drawn0.step)⟩
      ·rw [if_neg c6] at H
       exact absurd H (by simp)
     ·rw [if_neg c5] at H
      exact absurd H (by simp)
    ·rw [if_neg c4] at H;have c4b0:decide (x5_1<(l0.length:Int))=false:=decide_eq_false c4;clear c4;obtain rfl:=Option.some.inj H
     go_wp2
     repeat (go_quiet (fail);try go_wp2)
     go_ret
     exact ⟨by first|rfl|(simp;done)|(simp [*];done),by repeat (first|exact Drawn0.refl _|apply Drawn0.step)⟩
 ·rw [if_neg c3] at H;have c3b0:((l0.length:Int) == (l1.length:Int))=false:=beq_eq_false_iff_ne.mpr c3;have c3b1:((l0.length:Int) != (l1.length:Int))=true:=bne_iff_ne.mpr c3
  have c3b2:(l0.length == l1.length)=false:=by first|simpa using c3|(simp at c3 ⊢;omega)
  obtain rfl:=Option.some.inj H
  go_enter Try.func115,Try.ntmps115
  go_wp2
  repeat (go_quiet (fail);try go_wp2)
  go_ret
  exact ⟨by first|rfl|(simp;done)|(simp [*];done),by repeat (first|exact Drawn0.refl _|apply Drawn0.step)⟩
/-! ### laws_lpWord: function 49 -/
def laws_lpWord.f (k : Nat) (a0_0 a0_1 a0_2 a0_3 a0_4 a0_5 a0_6 a0_7 a0_8 a0_9 a0_10 a0_11 a0_12 a0_13 a0_14 a0_15 a0_16 a0_17 a0_18 a0_19 a0_20 a0_21 a0_22 a0_23 : Int) (l0_24 : List (S138)) (l0_25 : List (S140)) (a1_0 a1_1 a1_2 a1_3 a1_4 a1_5 a1_6 a1_7 a1_8 a1_9 a1_10 a1_11 a1_12 a1_13 a1_14 a1_15 a1_16 a1_17 a1_18 a1_19 a1_20 a1_21 a1_22 a1_23 : Int) (l1_24 : List (S138)) (l1_25 : List (S140)) : Option (Bool) := (laws_lpInts.f k (([a0_0, a0_1, a0_2, a0_3, a0_4, a0_5, a0_16, a0_17, a0_18, a0_19, a0_20, a0_21, a0_22, a0_23] : List Int)) (([a1_0, a1_1, a1_2, a1_3, a1_4, a1_5, a1_16, a1_17, a1_18, a1_19, a1_20, a1_21, a1_22, a1_23] : List Int))).bind fun t770 => (if t770 = true then (if (a0_6 == a1_6 && (a0_7 == a1_7 && (a0_8 == a1_8 && (a0_9 == a1_9 && (a0_10 == a1_10 && (a0_11 == a1_11 && (a0_12 == a1_12 && (a0_13 == a1_13 && (a0_14 == a1_14 && (a0_15 == a1_15)))))))))) = true then ((laws_lpPieces.f k l0_24 l1_24).bind fun t771 => (if t771 = true then ((laws_lpLast.f k l0_25 l1_25).bind fun t772 => (some t772)) else (some false))) else (some false)) else (some false))
set_option maxHeartbeats 8000000 in
set_option maxRecDepth 100000 in
theorem laws_lpWord.calls {k : Nat} {a0_0 a0_1 a0_2 a0_3 a0_4 a0_5 a0_6 a0_7 a0_8 a0_9 a0_10 a0_11 a0_12 a0_13 a0_14 a0_15 a0_16 a0_17 a0_18 a0_19 a0_20 a0_21 a0_22 a0_23 : Int} {A0_24 : Option Addr} {c0_24 : Nat} {l0_24 : List (S138)} {A0_25 : Option Addr} {c0_25 : Nat} {l0_25 : List (S140)} {a1_0 a1_1 a1_2 a1_3 a1_4 a1_5 a1_6 a1_7 a1_8 a1_9 a1_10 a1_11 a1_12 a1_13 a1_14 a1_15 a1_16 a1_17 a1_18 a1_19 a1_20 a1_21 a1_22 a1_23 : Int} {A1_24 : Option Addr} {c1_24 : Nat} {l1_24 : List (S138)} {A1_25 : Option Addr} {c1_25 : Nat} {l1_25 : List (S140)} {r : Bool} {w : World} (hr0_24 : Kd.C k138 w A0_24 l0_24.length l0_24) (hc0_24 : l0_24.length ≤ c0_24) (hr0_25 : Kd.C k140 w A0_25 l0_25.length l0_25) (hc0_25 : l0_25.length ≤ c0_25) (hr1_24 : Kd.C k138 w A1_24 l1_24.length l1_24) (hc1_24 : l1_24.length ≤ c1_24) (hr1_25 : Kd.C k140 w A1_25 l1_25.length l1_25) (hc1_25 : l1_25.length ≤ c1_25) (h : laws_lpWord.f k a0_0 a0_1 a0_2 a0_3 a0_4 a0_5 a0_6 a0_7 a0_8 a0_9 a0_10 a0_11 a0_12 a0_13 a0_14 a0_15 a0_16 a0_17 a0_18 a0_19 a0_20 a0_21 a0_22 a0_23 l0_24 l0_25 a1_0 a1_1 a1_2 a1_3 a1_4 a1_5 a1_6 a1_7 a1_8 a1_9 a1_10 a1_11 a1_12 a1_13 a1_14 a1_15 a1_16 a1_17 a1_18 a1_19 a1_20 a1_21 a1_22 a1_23 l1_24 l1_25 = some r) :
  Calls Try.prog 49 #[.agg #[.int .i64 a0_0,.int .i64 a0_1,.int .i64 a0_2,.int .i64 a0_3,.int .i64 a0_4,.int .i64 a0_5,.int .i64 a0_6,.int .i64 a0_7,.int .i64 a0_8,.int .i64 a0_9,.int .i64 a0_10,.int .i64 a0_11,.int .i64 a0_12,.int .i64 a0_13,.int .i64 a0_14,.int .i64 a0_15,.int .i64 a0_16,.int .i64 a0_17,.int .i64 a0_18,.int .i64 a0_19,.int .i64 a0_20,.int .i64 a0_21,.int .i64 a0_22,.int .i64 a0_23,.slice A0_24 l0_24.length c0_24,.slice A0_25 l0_25.length c0_25],.agg #[.int .i64 a1_0,.int .i64 a1_1,.int .i64 a1_2,.int .i64 a1_3,.int .i64 a1_4,.int .i64 a1_5,.int .i64 a1_6,.int .i64 a1_7,.int .i64 a1_8,.int .i64 a1_9,.int .i64 a1_10,.int .i64 a1_11,.int .i64 a1_12,.int .i64 a1_13,.int .i64 a1_14,.int .i64 a1_15,.int .i64 a1_16,.int .i64 a1_17,.int .i64 a1_18,.int .i64 a1_19,.int .i64 a1_20,.int .i64 a1_21,.int .i64 a1_22,.int .i64 a1_23,.slice A1_24 l1_24.length c1_24,.slice A1_25 l1_25.length c1_25]] w fun e w'=>e=.returned (.bool r)∧Below w.heap.size w w':=by
 have hu28:=Try.underlying28;have hu24:=Try.underlying24;have HR0_24:=mA hr0_24;have HC0_24:=mA hc0_24;clear hr0_24 hc0_24;have HR0_25:=mA hr0_25;have HC0_25:=mA hc0_25;clear hr0_25 hc0_25;have HR1_24:=mA hr1_24;have HC1_24:=mA hc1_24;clear hr1_24 hc1_24;have HR1_25:=mA hr1_25;have HC1_25:=mA hc1_25;clear hr1_25 hc1_25;have HB:=mA (Below.refl w.heap.size w);have H:((laws_lpInts.f k (([a0_0,a0_1,a0_2,a0_3,a0_4,a0_5,a0_16,a0_17,a0_18,a0_19,a0_20,a0_21,a0_22,a0_23]:List Int)) (([a1_0,a1_1,a1_2,a1_3,a1_4,a1_5,a1_16,a1_17,a1_18,a1_19,a1_20,a1_21,a1_22,a1_23]:List Int))).bind fun t770=>(if t770=true then (if (a0_6 == a1_6 && (a0_7 == a1_7 && (a0_8 == a1_8 && (a0_9 == a1_9 && (a0_10 == a1_10 && (a0_11 == a1_11 && (a0_12 == a1_12 && (a0_13 == a1_13 && (a0_14 == a1_14 && (a0_15 == a1_15))))))))))=true then ((laws_lpPieces.f k l0_24 l1_24).bind fun t771=>(if t771=true then ((laws_lpLast.f k l0_25 l1_25).bind fun t772=>(some t772)) else (some false))) else (some false)) else (some false)))=some r:=h;clear h;obtain ⟨y764,hy764⟩:∃ y_:List Int,y_=(([a0_0,a0_1,a0_2,a0_3,a0_4,a0_5,a0_16,a0_17,a0_18,a0_19,a0_20,a0_21,a0_22,a0_23]:List Int)):=⟨_,rfl⟩
 replace H:((laws_lpInts.f k y764 (([a1_0,a1_1,a1_2,a1_3,a1_4,a1_5,a1_16,a1_17,a1_18,a1_19,a1_20,a1_21,a1_22,a1_23]:List Int))).bind fun t770=>(if t770=true then (if (a0_6 == a1_6 && (a0_7 == a1_7 && (a0_8 == a1_8 && (a0_9 == a1_9 && (a0_10 == a1_10 && (a0_11 == a1_11 && (a0_12 == a1_12 && (a0_13 == a1_13 && (a0_14 == a1_14 && (a0_15 == a1_15))))))))))=true then ((laws_lpPieces.f k l0_24 l1_24).bind fun t771=>(if t771=true then ((laws_lpLast.f k l0_25 l1_25).bind fun t772=>(some t772)) else (some false))) else (some false)) else (some false)))=some r:=qH hy764 H
 have Ny764:=mA hy764;clear hy764;obtain ⟨y767,hy767⟩:∃ y_:List Int,y_=(([a1_0,a1_1,a1_2,a1_3,a1_4,a1_5,a1_16,a1_17,a1_18,a1_19,a1_20,a1_21,a1_22,a1_23]:List Int)):=⟨_,rfl⟩
 replace H:((laws_lpInts.f k y764 y767).bind fun t770=>(if t770=true then (if (a0_6 == a1_6 && (a0_7 == a1_7 && (a0_8 == a1_8 && (a0_9 == a1_9 && (a0_10 == a1_10 && (a0_11 == a1_11 && (a0_12 == a1_12 && (a0_13 == a1_13 && (a0_14 == a1_14 && (a0_15 == a1_15))))))))))=true then ((laws_lpPieces.f k l0_24 l1_24).bind fun t771=>(if t771=true then ((laws_lpLast.f k l0_25 l1_25).bind fun t772=>(some t772)) else (some false))) else (some false)) else (some false)))=some r:=qH hy767 H
 have Ny767:=mA hy767;clear hy767;obtain ⟨t770,A3,H⟩:=bI H;(try dsimp only at H)
 by_cases c4:t770=true
 ·subst c4;rw [if_pos rfl] at H
  by_cases c5:(a0_6 == a1_6 && (a0_7 == a1_7 && (a0_8 == a1_8 && (a0_9 == a1_9 && (a0_10 == a1_10 && (a0_11 == a1_11 && (a0_12 == a1_12 && (a0_13 == a1_13 && (a0_14 == a1_14 && (a0_15 == a1_15))))))))))=true
  ·rw [if_pos c5] at H;have c5b0:(a0_6 == a1_6 && (a0_7 == a1_7 && (a0_8 == a1_8 && (a0_9 == a1_9 && (a0_10 == a1_10 && (a0_11 == a1_11 && (a0_12 == a1_12 && (a0_13 == a1_13 && (a0_14 == a1_14 && (a0_15 == a1_15))))))))))=true:=c5
   (try (have c5b1:decide (a0_6=a1_6 && (a0_7 == a1_7 && (a0_8 == a1_8 && (a0_9 == a1_9 && (a0_10 == a1_10 && (a0_11 == a1_11 && (a0_12 == a1_12 && (a0_13 == a1_13 && (a0_14 == a1_14 && (a0_15 == a1_15))))))))))=true:=by simpa using c5))
   (try (have c5b2:(a0_6 == a1_6 && (a0_7 == a1_7 && (a0_8 == a1_8 && (a0_9 == a1_9 && (a0_10 == a1_10 && (a0_11 == a1_11 && (a0_12 == a1_12 && (a0_13 == a1_13 && (a0_14 == a1_14 && (a0_15 == a1_15))))))))))=true:=by simpa using c5))
   clear c5;obtain ⟨t771,A6,H⟩:=bI H;(try dsimp only at H)
   by_cases c7:t771=true
   ·subst c7;rw [if_pos rfl] at H;obtain ⟨t772,A8,H⟩:=bI H;(try dsimp only at H);obtain rfl:=Option.some.inj H
    go_enter Try.func49,Try.ntmps49
    go_wp2_with (first|((with_reducible refine gLg rfl (by assumption) ?_);refine ldV ?_)|((with_reducible refine gSt rfl (by assumption) ?_);refine stV ?_)|((with_reducible refine gT 2 rfl ?_);refine bX 2 ?_;intro gb762 hg w9 hbox hb;have BK762:=mA hbox;have GW762:=gbpB HB hg;have GE762:=gbpB HB hg;replace HB:=spB HB hb;clear hb hbox hg)|((with_reducible refine gT 3 rfl ?_);refine bX 3 ?_;intro gb763 hg w10 hbox hb;have BK763:=mA hbox;have GW763:=gbpS HB hg;have GE763:=gbpS HB hg;replace HB:=spS HB hb;have NB762_763:=mA (lN (blk_lt (pK BK762.out)) hg);have hN762_763:=NB762_763.out;have NB763_762:=nS NB762_763;have hN763_762:=NB763_762.out;replace BK762:=bK BK762 hb;clear hb hbox hg;have hcz12_0:=fun i_=>blk_cell BK762.out i_;have hfz12_0:=fun i_=>blk_frozen BK762.out i_)|((with_reducible refine gT 35 rfl ?_);refine Kd.R_lit (Kd.int .i64) _ 3 ?hg (N:=35) ?hd (xs:=([a0_0,a0_1,a0_2,a0_3,a0_4,a0_5,a0_16,a0_17,a0_18,a0_19,a0_20,a0_21,a0_22,a0_23]:List Int)) (inner:=[.int .i64 a0_0,.int .i64 a0_1,.int .i64 a0_2,.int .i64 a0_3,.int .i64 a0_4,.int .i64 a0_5,.int .i64 a0_16,.int .i64 a0_17,.int .i64 a0_18,.int .i64 a0_19,.int .i64 a0_20,.int .i64 a0_21,.int .i64 a0_22,.int .i64 a0_23]) (ok:=fun _=>True) (okp:=fun _=>True) ?hr ?hp (fun _ hk=>hk) trivial (Below.refl _ _) (Nat.le_refl _) (by simp) ?_;(case hd=>rfl);(case hg=>rfl);(case hr=>first|(go_simp;done)|(go_simp;rfl));(case hp=>repeat (first|exact Reps.none _ _|refine Reps.one (show Kd.M (Kd.int .i64) _ _ _ _ [_] from rfl) ?_));intro v765 w13 ho14 hb hg_ hnew_;clear hg_ hnew_;(first|rw [← Ny764.out] at ho14|(simp only [Int.reduceToNat] at ho14;rw [← Ny764.out] at ho14));have HO766:=mA (Kd.R_lower ho14 (bpS HB));replace BK762:=bK BK762 hb;replace BK763:=bK BK763 hb;replace HB:=spS HB hb;clear hb ho14;have hcz15_0:=fun i_=>blk_cell BK763.out i_;have hfz15_0:=fun i_=>blk_frozen BK763.out i_)|((with_reducible refine gT 64 rfl ?_);refine Kd.R_lit (Kd.int .i64) _ 3 ?hg (N:=64) ?hd (xs:=([a1_0,a1_1,a1_2,a1_3,a1_4,a1_5,a1_16,a1_17,a1_18,a1_19,a1_20,a1_21,a1_22,a1_23]:List Int)) (inner:=[.int .i64 a1_0,.int .i64 a1_1,.int .i64 a1_2,.int .i64 a1_3,.int .i64 a1_4,.int .i64 a1_5,.int .i64 a1_16,.int .i64 a1_17,.int .i64 a1_18,.int .i64 a1_19,.int .i64 a1_20,.int .i64 a1_21,.int .i64 a1_22,.int .i64 a1_23]) (ok:=fun _=>True) (okp:=fun _=>True) ?hr ?hp (fun _ hk=>hk) trivial (Below.refl _ _) (Nat.le_refl _) (by simp) ?_;(case hd=>rfl);(case hg=>rfl);(case hr=>first|(go_simp;done)|(go_simp;rfl));(case hp=>repeat (first|exact Reps.none _ _|refine Reps.one (show Kd.M (Kd.int .i64) _ _ _ _ [_] from rfl) ?_));intro v768 w16 ho17 hb hg_ hnew_;clear hg_ hnew_;(first|rw [← Ny767.out] at ho17|(simp only [Int.reduceToNat] at ho17;rw [← Ny767.out] at ho17));have HO769:=mA (Kd.R_lower (Kd.R_new' ho17 (rL HO766)) (bpS HB));replace HO766:=rE HO766 ho17 hb;replace BK762:=bK BK762 hb;replace BK763:=bK BK763 hb;replace HB:=spS HB hb;clear hb ho17;obtain ⟨Ao18,co18,rfl⟩:=Kd.R_slice HO766.out;obtain ⟨Ao19,co19,rfl⟩:=Kd.R_slice HO769.out)|((with_reducible refine gT 67 rfl ?_);refine gC (some 67) Try.func113 (laws_lpInts.calls (cR HO766) (cL HO766) (cR HO769) (cL HO769) A3.out) ?_;rintro e w' ⟨rfl,⟨nd,rfl⟩⟩;refine ⟨_,rfl,?_⟩;have hcz20_0:=fun i_=>blk_cell BK762.out i_;have hfz20_0:=fun i_=>blk_frozen BK762.out i_;have hcz21_0:=fun i_=>blk_cell BK763.out i_;have hfz21_0:=fun i_=>blk_frozen BK763.out i_)|(go_at_call 114;(with_reducible refine (laws_lpPieces.calls ?s1 ?s2 ?s3 ?s4 A6.out).mono ?_);(case s1=>exact pC (Kd.C_below HR0_24.out (pS HB.out)));(case s2=>exact HC0_24.out);(case s3=>exact pC (Kd.C_below HR1_24.out (pS HB.out)));(case s4=>exact HC1_24.out);rintro e w' ⟨rfl,⟨nd,rfl⟩⟩)|(go_at_call 115;(with_reducible refine (laws_lpLast.calls ?s1 ?s2 ?s3 ?s4 A8.out).mono ?_);(case s1=>exact pC (Kd.C_below HR0_25.out (pS HB.out)));(case s2=>exact HC0_25.out);(case s3=>exact pC (Kd.C_below HR1_25.out (pS HB.out)));(case s4=>exact HC1_25.out);rintro e w' ⟨rfl,⟨nd,rfl⟩⟩))
    go_ret
    exact rZ (pS HB.out)
   ·replace c7:=Bool.eq_false_iff.mpr c7;subst c7
    rw [if_neg nFT] at H
    obtain rfl:=Option.some.inj H
    go_enter Try.func49,Try.ntmps49
    go_wp2_with (first|((with_reducible refine gLg rfl (by assumption) ?_);refine ldV ?_)|((with_reducible refine gSt rfl (by assumption) ?_);refine stV ?_)|((with_reducible refine gT 2 rfl ?_);refine bX 2 ?_;intro gb762 hg w22 hbox hb;have BK762:=mA hbox;have GW762:=gbpB HB hg;have GE762:=gbpB HB hg;replace HB:=spB HB hb;clear hb hbox hg)|((with_reducible refine gT 3 rfl ?_);refine bX 3 ?_;intro gb763 hg w23 hbox hb;have BK763:=mA hbox;have GW763:=gbpS HB hg;have GE763:=gbpS HB hg;replace HB:=spS HB hb;have NB762_763:=mA (lN (blk_lt (pK BK762.out)) hg);have hN762_763:=NB762_763.out;have NB763_762:=nS NB762_763;have hN763_762:=NB763_762.out;replace BK762:=bK BK762 hb;clear hb hbox hg;have hcz25_0:=fun i_=>blk_cell BK762.out i_;have hfz25_0:=fun i_=>blk_frozen BK762.out i_)|((with_reducible refine gT 35 rfl ?_);refine Kd.R_lit (Kd.int .i64) _ 3 ?hg (N:=35) ?hd (xs:=([a0_0,a0_1,a0_2,a0_3,a0_4,a0_5,a0_16,a0_17,a0_18,a0_19,a0_20,a0_21,a0_22,a0_23]:List Int)) (inner:=[.int .i64 a0_0,.int .i64 a0_1,.int .i64 a0_2,.int .i64 a0_3,.int .i64 a0_4,.int .i64 a0_5,.int .i64 a0_16,.int .i64 a0_17,.int .i64 a0_18,.int .i64 a0_19,.int .i64 a0_20,.int .i64 a0_21,.int .i64 a0_22,.int .i64 a0_23]) (ok:=fun _=>True) (okp:=fun _=>True) ?hr ?hp (fun _ hk=>hk) trivial (Below.refl _ _) (Nat.le_refl _) (by simp) ?_;(case hd=>rfl);(case hg=>rfl);(case hr=>first|(go_simp;done)|(go_simp;rfl));(case hp=>repeat (first|exact Reps.none _ _|refine Reps.one (show Kd.M (Kd.int .i64) _ _ _ _ [_] from rfl) ?_));intro v765 w26 ho27 hb hg_ hnew_;clear hg_ hnew_;(first|rw [← Ny764.out] at ho27|(simp only [Int.reduceToNat] at ho27;rw [← Ny764.out] at ho27));have HO766:=mA (Kd.R_lower ho27 (bpS HB));replace BK762:=bK BK762 hb;replace BK763:=bK BK763 hb;replace HB:=spS HB hb;clear hb ho27;have hcz28_0:=fun i_=>blk_cell BK763.out i_;have hfz28_0:=fun i_=>blk_frozen BK763.out i_)|((with_reducible refine gT 64 rfl ?_);refine Kd.R_lit (Kd.int .i64) _ 3 ?hg (N:=64) ?hd (xs:=([a1_0,a1_1,a1_2,a1_3,a1_4,a1_5,a1_16,a1_17,a1_18,a1_19,a1_20,a1_21,a1_22,a1_23]:List Int)) (inner:=[.int .i64 a1_0,.int .i64 a1_1,.int .i64 a1_2,.int .i64 a1_3,.int .i64 a1_4,.int .i64 a1_5,.int .i64 a1_16,.int .i64 a1_17,.int .i64 a1_18,.int .i64 a1_19,.int .i64 a1_20,.int .i64 a1_21,.int .i64 a1_22,.int .i64 a1_23]) (ok:=fun _=>True) (okp:=fun _=>True) ?hr ?hp (fun _ hk=>hk) trivial (Below.refl _ _) (Nat.le_refl _) (by simp) ?_;(case hd=>rfl);(case hg=>rfl);(case hr=>first|(go_simp;done)|(go_simp;rfl));(case hp=>repeat (first|exact Reps.none _ _|refine Reps.one (show Kd.M (Kd.int .i64) _ _ _ _ [_] from rfl) ?_));intro v768 w29 ho30 hb hg_ hnew_;clear hg_ hnew_;(first|rw [← Ny767.out] at ho30|(simp only [Int.reduceToNat] at ho30;rw [← Ny767.out] at ho30));have HO769:=mA (Kd.R_lower (Kd.R_new' ho30 (rL HO766)) (bpS HB));replace HO766:=rE HO766 ho30 hb;replace BK762:=bK BK762 hb;replace BK763:=bK BK763 hb;replace HB:=spS HB hb;clear hb ho30;obtain ⟨Ao31,co31,rfl⟩:=Kd.R_slice HO766.out;obtain ⟨Ao32,co32,rfl⟩:=Kd.R_slice HO769.out)|((with_reducible refine gT 67 rfl ?_);refine gC (some 67) Try.func113 (laws_lpInts.calls (cR HO766) (cL HO766) (cR HO769) (cL HO769) A3.out) ?_;rintro e w' ⟨rfl,⟨nd,rfl⟩⟩;refine ⟨_,rfl,?_⟩;have hcz33_0:=fun i_=>blk_cell BK762.out i_;have hfz33_0:=fun i_=>blk_frozen BK762.out i_;have hcz34_0:=fun i_=>blk_cell BK763.out i_;have hfz34_0:=fun i_=>blk_frozen BK763.out i_)|(go_at_call 114;(with_reducible refine (laws_lpPieces.calls ?s1 ?s2 ?s3 ?s4 A6.out).mono ?_);(case s1=>exact pC (Kd.C_below HR0_24.out (pS HB.out)));(case s2=>exact HC0_24.out);(case s3=>exact pC (Kd.C_below HR1_24.out (pS HB.out)));(case s4=>exact HC1_24.out);rintro e w' ⟨rfl,⟨nd,rfl⟩⟩))
    go_ret
    exact rZ (pS HB.out)
  ·rw [if_neg c5] at H
   have c5b0:(a0_6 == a1_6 && (a0_7 == a1_7 && (a0_8 == a1_8 && (a0_9 == a1_9 && (a0_10 == a1_10 && (a0_11 == a1_11 && (a0_12 == a1_12 && (a0_13 == a1_13 && (a0_14 == a1_14 && (a0_15 == a1_15))))))))))=false:=by simpa using c5
   (try (have c5b1:decide (a0_6=a1_6 && (a0_7 == a1_7 && (a0_8 == a1_8 && (a0_9 == a1_9 && (a0_10 == a1_10 && (a0_11 == a1_11 && (a0_12 == a1_12 && (a0_13 == a1_13 && (a0_14 == a1_14 && (a0_15 == a1_15))))))))))=false:=by simpa using c5))
   (try (have c5b2:(a0_6 == a1_6 && (a0_7 == a1_7 && (a0_8 == a1_8 && (a0_9 == a1_9 && (a0_10 == a1_10 && (a0_11 == a1_11 && (a0_12 == a1_12 && (a0_13 == a1_13 && (a0_14 == a1_14 && (a0_15 == a1_15))))))))))=false:=by simpa using c5))
   (try (have c5b3:¬ (a0_6=a1_6 && (a0_7 == a1_7 && (a0_8 == a1_8 && (a0_9 == a1_9 && (a0_10 == a1_10 && (a0_11 == a1_11 && (a0_12 == a1_12 && (a0_13 == a1_13 && (a0_14 == a1_14 && (a0_15 == a1_15)))))))))):=by simpa using c5))
   clear c5;obtain rfl:=Option.some.inj H
   go_enter Try.func49,Try.ntmps49
   go_wp2_with (first|((with_reducible refine gLg rfl (by assumption) ?_);refine ldV ?_)|((with_reducible refine gSt rfl (by assumption) ?_);refine stV ?_)|((with_reducible refine gT 2 rfl ?_);refine bX 2 ?_;intro gb762 hg w35 hbox hb;have BK762:=mA hbox;have GW762:=gbpB HB hg;have GE762:=gbpB HB hg;replace HB:=spB HB hb;clear hb hbox hg)|((with_reducible refine gT 3 rfl ?_);refine bX 3 ?_;intro gb763 hg w36 hbox hb;have BK763:=mA hbox;have GW763:=gbpS HB hg;have GE763:=gbpS HB hg;replace HB:=spS HB hb;have NB762_763:=mA (lN (blk_lt (pK BK762.out)) hg);have hN762_763:=NB762_763.out;have NB763_762:=nS NB762_763;have hN763_762:=NB763_762.out;replace BK762:=bK BK762 hb;clear hb hbox hg;have hcz38_0:=fun i_=>blk_cell BK762.out i_;have hfz38_0:=fun i_=>blk_frozen BK762.out i_)|((with_reducible refine gT 35 rfl ?_);refine Kd.R_lit (Kd.int .i64) _ 3 ?hg (N:=35) ?hd (xs:=([a0_0,a0_1,a0_2,a0_3,a0_4,a0_5,a0_16,a0_17,a0_18,a0_19,a0_20,a0_21,a0_22,a0_23]:List Int)) (inner:=[.int .i64 a0_0,.int .i64 a0_1,.int .i64 a0_2,.int .i64 a0_3,.int .i64 a0_4,.int .i64 a0_5,.int .i64 a0_16,.int .i64 a0_17,.int .i64 a0_18,.int .i64 a0_19,.int .i64 a0_20,.int .i64 a0_21,.int .i64 a0_22,.int .i64 a0_23]) (ok:=fun _=>True) (okp:=fun _=>True) ?hr ?hp (fun _ hk=>hk) trivial (Below.refl _ _) (Nat.le_refl _) (by simp) ?_;(case hd=>rfl);(case hg=>rfl);(case hr=>first|(go_simp;done)|(go_simp;rfl));(case hp=>repeat (first|exact Reps.none _ _|refine Reps.one (show Kd.M (Kd.int .i64) _ _ _ _ [_] from rfl) ?_));intro v765 w39 ho40 hb hg_ hnew_;clear hg_ hnew_;(first|rw [← Ny764.out] at ho40|(simp only [Int.reduceToNat] at ho40;rw [← Ny764.out] at ho40));have HO766:=mA (Kd.R_lower ho40 (bpS HB));replace BK762:=bK BK762 hb;replace BK763:=bK BK763 hb;replace HB:=spS HB hb;clear hb ho40;have hcz41_0:=fun i_=>blk_cell BK763.out i_;have hfz41_0:=fun i_=>blk_frozen BK763.out i_)|((with_reducible refine gT 64 rfl ?_);refine Kd.R_lit (Kd.int .i64) _ 3 ?hg (N:=64) ?hd (xs:=([a1_0,a1_1,a1_2,a1_3,a1_4,a1_5,a1_16,a1_17,a1_18,a1_19,a1_20,a1_21,a1_22,a1_23]:List Int)) (inner:=[.int .i64 a1_0,.int .i64 a1_1,.int .i64 a1_2,.int .i64 a1_3,.int .i64 a1_4,.int .i64 a1_5,.int .i64 a1_16,.int .i64 a1_17,.int .i64 a1_18,.int .i64 a1_19,.int .i64 a1_20,.int .i64 a1_21,.int .i64 a1_22,.int .i64 a1_23]) (ok:=fun _=>True) (okp:=fun _=>True) ?hr ?hp (fun _ hk=>hk) trivial (Below.refl _ _) (Nat.le_refl _) (by simp) ?_;(case hd=>rfl);(case hg=>rfl);(case hr=>first|(go_simp;done)|(go_simp;rfl));(case hp=>repeat (first|exact Reps.none _ _|refine Reps.one (show Kd.M (Kd.int .i64) _ _ _ _ [_] from rfl) ?_));intro v768 w42 ho43 hb hg_ hnew_;clear hg_ hnew_;(first|rw [← Ny767.out] at ho43|(simp only [Int.reduceToNat] at ho43;rw [← Ny767.out] at ho43));have HO769:=mA (Kd.R_lower (Kd.R_new' ho43 (rL HO766)) (bpS HB));replace HO766:=rE HO766 ho43 hb;replace BK762:=bK BK762 hb;replace BK763:=bK BK763 hb;replace HB:=spS HB hb;clear hb ho43;obtain ⟨Ao44,co44,rfl⟩:=Kd.R_slice HO766.out;obtain ⟨Ao45,co45,rfl⟩:=Kd.R_slice HO769.out)|((with_reducible refine gT 67 rfl ?_);refine gC (some 67) Try.func113 (laws_lpInts.calls (cR HO766) (cL HO766) (cR HO769) (cL HO769) A3.out) ?_;rintro e w' ⟨rfl,⟨nd,rfl⟩⟩;refine ⟨_,rfl,?_⟩;have hcz46_0:=fun i_=>blk_cell BK762.out i_;have hfz46_0:=fun i_=>blk_frozen BK762.out i_;have hcz47_0:=fun i_=>blk_cell BK763.out i_;have hfz47_0:=fun i_=>blk_frozen BK763.out i_))
   go_ret
   exact rZ (pS HB.out)
 ·replace c4:=Bool.eq_false_iff.mpr c4;subst c4
  rw [if_neg nFT] at H
  obtain rfl:=Option.some.inj H
  go_enter Try.func49,Try.ntmps49
  go_wp2_with (first|((with_reducible refine gLg rfl (by assumption) ?_);refine ldV ?_)|((with_reducible refine gSt rfl (by assumption) ?_);refine stV ?_)|((with_reducible refine gT 2 rfl ?_);refine bX 2 ?_;intro gb762 hg w48 hbox hb;have BK762:=mA hbox;have GW762:=gbpB HB hg;have GE762:=gbpB HB hg;replace HB:=spB HB hb;clear hb hbox hg)|((with_reducible refine gT 3 rfl ?_);refine bX 3 ?_;intro gb763 hg w49 hbox hb;have BK763:=mA hbox;have GW763:=gbpS HB hg;have GE763:=gbpS HB hg;replace HB:=spS HB hb;have NB762_763:=mA (lN (blk_lt (pK BK762.out)) hg);have hN762_763:=NB762_763.out;have NB763_762:=nS NB762_763;have hN763_762:=NB763_762.out;replace BK762:=bK BK762 hb;clear hb hbox hg;have hcz51_0:=fun i_=>blk_cell BK762.out i_;have hfz51_0:=fun i_=>blk_frozen BK762.out i_)|((with_reducible refine gT 35 rfl ?_);refine Kd.R_lit (Kd.int .i64) _ 3 ?hg (N:=35) ?hd (xs:=([a0_0,a0_1,a0_2,a0_3,a0_4,a0_5,a0_16,a0_17,a0_18,a0_19,a0_20,a0_21,a0_22,a0_23]:List Int)) (inner:=[.int .i64 a0_0,.int .i64 a0_1,.int .i64 a0_2,.int .i64 a0_3,.int .i64 a0_4,.int .i64 a0_5,.int .i64 a0_16,.int .i64 a0_17,.int .i64 a0_18,.int .i64 a0_19,.int .i64 a0_20,.int .i64 a0_21,.int .i64 a0_22,.int .i64 a0_23]) (ok:=fun _=>True) (okp:=fun _=>True) ?hr ?hp (fun _ hk=>hk) trivial (Below.refl _ _) (Nat.le_refl _) (by simp) ?_;(case hd=>rfl);(case hg=>rfl);(case hr=>first|(go_simp;done)|(go_simp;rfl));(case hp=>repeat (first|exact Reps.none _ _|refine Reps.one (show Kd.M (Kd.int .i64) _ _ _ _ [_] from rfl) ?_));intro v765 w52 ho53 hb hg_ hnew_;clear hg_ hnew_;(first|rw [← Ny764.out] at ho53|(simp only [Int.reduceToNat] at ho53;rw [← Ny764.out] at ho53));have HO766:=mA (Kd.R_lower ho53 (bpS HB));replace BK762:=bK BK762 hb;replace BK763:=bK BK763 hb;replace HB:=spS HB hb;clear hb ho53;have hcz54_0:=fun i_=>blk_cell BK763.out i_;have hfz54_0:=fun i_=>blk_frozen BK763.out i_)|((with_reducible refine gT 64 rfl ?_);refine Kd.R_lit (Kd.int .i64) _ 3 ?hg (N:=64) ?hd (xs:=([a1_0,a1_1,a1_2,a1_3,a1_4,a1_5,a1_16,a1_17,a1_18,a1_19,a1_20,a1_21,a1_22,a1_23]:List Int)) (inner:=[.int .i64 a1_0,.int .i64 a1_1,.int .i64 a1_2,.int .i64 a1_3,.int .i64 a1_4,.int .i64 a1_5,.int .i64 a1_16,.int .i64 a1_17,.int .i64 a1_18,.int .i64 a1_19,.int .i64 a1_20,.int .i64 a1_21,.int .i64 a1_22,.int .i64 a1_23]) (ok:=fun _=>True) (okp:=fun _=>True) ?hr ?hp (fun _ hk=>hk) trivial (Below.refl _ _) (Nat.le_refl _) (by simp) ?_;(case hd=>rfl);(case hg=>rfl);(case hr=>first|(go_simp;done)|(go_simp;rfl));(case hp=>repeat (first|exact Reps.none _ _|refine Reps.one (show Kd.M (Kd.int .i64) _ _ _ _ [_] from rfl) ?_));intro v768 w55 ho56 hb hg_ hnew_;clear hg_ hnew_;(first|rw [← Ny767.out] at ho56|(simp only [Int.reduceToNat] at ho56;rw [← Ny767.out] at ho56));have HO769:=mA (Kd.R_lower (Kd.R_new' ho56 (rL HO766)) (bpS HB));replace HO766:=rE HO766 ho56 hb;replace BK762:=bK BK762 hb;replace BK763:=bK BK763 hb;replace HB:=spS HB hb;clear hb ho56;obtain ⟨Ao57,co57,rfl⟩:=Kd.R_slice HO766.out;obtain ⟨Ao58,co58,rfl⟩:=Kd.R_slice HO769.out)|((with_reducible refine gT 67 rfl ?_);refine gC (some 67) Try.func113 (laws_lpInts.calls (cR HO766) (cL HO766) (cR HO769) (cL HO769) A3.out) ?_;rintro e w' ⟨rfl,⟨nd,rfl⟩⟩;refine ⟨_,rfl,?_⟩))
  go_ret
  exact rZ (pS HB.out)
/-! ### laws_lpPapers: function 50 -/
def laws_lpPapers.l0 : Nat → List (S64) → List (S64) → Int → Option (Bool)
 | 0,_,_,_=>none
 | k+1,x0,x1,x5=>if x5<(x0.length:Int) then (if 0≤x5 then (if x5<(x1.length:Int) then (if (!(((rd_T64 x0 x5).f0) == ((rd_T64 x1 x5).f0)) || (!(((rd_T64 x0 x5).f1) == ((rd_T64 x1 x5).f1)) || ((!(((rd_T64 x0 x5).f2.f0) == ((rd_T64 x1 x5).f2.f0)) || (!(((rd_T64 x0 x5).f2.f1) == ((rd_T64 x1 x5).f2.f1)) || (!(((rd_T64 x0 x5).f2.f2) == ((rd_T64 x1 x5).f2.f2)) || (!(((rd_T64 x0 x5).f2.f3) == ((rd_T64 x1 x5).f2.f3)) || (!(((rd_T64 x0 x5).f2.f4) == ((rd_T64 x1 x5).f2.f4)) || (!(((rd_T64 x0 x5).f2.f5) == ((rd_T64 x1 x5).f2.f5)) || (!(((rd_T64 x0 x5).f2.f6) == ((rd_T64 x1 x5).f2.f6)) || (!(((rd_T64 x0 x5).f2.f7) == ((rd_T64 x1 x5).f2.f7)) || (!(((rd_T64 x0 x5).f2.f8) == ((rd_T64 x1 x5).f2.f8)) || (!(((rd_T64 x0 x5).f2.f9) == ((rd_T64 x1 x5).f2.f9)))))))))))))))=true then (some false) else (laws_lpPapers.l0 k x0 x1 (wrap64 (x5+1)))) else (none)) else (none)) else (some true)
def laws_lpPapers.f (k : Nat) (l0 : List (S64)) (l1 : List (S64)) : Option (Bool) := if (l0.length : Int) = (l1.length : Int) then (laws_lpPapers.l0 k l0 l1 0) else (some false)
set_option maxHeartbeats 8000000 in
set_option maxRecDepth 100000 in
theorem laws_lpPapers.calls {k : Nat} {A0 : Option Addr} {c0 : Nat} {l0 : List (S64)} {A1 : Option Addr} {c1 : Nat} {l1 : List (S64)} {r : Bool} {w : World} (hr0 : Kd.C k64 w A0 l0.length l0) (hc0 : l0.length ≤ c0) (hr1 : Kd.C k64 w A1 l1.length l1) (hc1 : l1.length ≤ c1) (h : laws_lpPapers.f k l0 l1 = some r) :
  Calls Try.prog 50 #[.slice A0 l0.length c0,.slice A1 l1.length c1] w fun e w'=>e=.returned (.bool r)∧Drawn0 w w':=by
 have hu64:=Try.underlying64;have HR0:=mA hr0;have HC0:=mA hc0;clear hr0 hc0;have HR1:=mA hr1;have HC1:=mA hc1;clear hr1 hc1;have H:(if (l0.length:Int)=(l1.length:Int) then (laws_lpPapers.l0 k l0 l1 0) else (some false))=some r:=h;clear h
 by_cases c3:(l0.length:Int)=(l1.length:Int)
 ·rw [if_pos c3] at H;have c3b0:((l0.length:Int) == (l1.length:Int))=true:=beq_iff_eq.mpr c3;have c3b1:((l0.length:Int) != (l1.length:Int))=false:=bne_eq_false_iff_eq.mpr c3
  have c3b2:(l0.length == l1.length)=true:=by first|simpa using c3|(simp at c3 ⊢;omega)
  clear c3;have H':=mA H;clear H
  go_enter Try.func50,Try.ntmps50
  go_wp2
  repeat (go_quiet (fail);try go_wp2)
  go_loopg [5] k (fun kq v5 w'=>∃ (x5_1:Int),v5=.int .i64 x5_1∧Aside0 (laws_lpPapers.l0 kq l0 l1 x5_1=some r)∧Aside0 (kq≤k)∧Drawn0 w w')
  case atStart=>exact ⟨(0),bZ,H',⟨Nat.le_refl _⟩,by repeat (first|exact Drawn0.refl _|apply Drawn0.step)⟩
  case round =>
   clear H'
   (try clear c3);(try clear c3b0);(try clear c3b1);(try clear c3b2)
   obtain ⟨x5_1,rfl,HA,HK1,⟨m1,rfl⟩⟩:=hrel
   cases gk with
   | zero=>exact absurd HA.out (by simp [laws_lpPapers.l0])
   | succ k1 =>
    have H:=HA.out;clear HA;simp only [laws_lpPapers.l0] at H
    by_cases c4:x5_1<(l0.length:Int)
    ·rw [if_pos c4] at H;have c4b0:decide (x5_1<(l0.length:Int))=true:=decide_eq_true c4;clear c4
     by_cases c5:0≤x5_1
     ·rw [if_pos c5] at H;have c5b0:decide (0≤x5_1)=true:=decide_eq_true c5;clear c5
      by_cases c6:x5_1<(l1.length:Int)
      ·rw [if_pos c6] at H;have c6b0:decide (x5_1<(l1.length:Int))=true:=decide_eq_true c6;clear c6
       by_cases c7:(!(((rd_T64 l0 x5_1).f0) == ((rd_T64 l1 x5_1).f0)) || (!(((rd_T64 l0 x5_1).f1) == ((rd_T64 l1 x5_1).f1)) || ((!(((rd_T64 l0 x5_1).f2.f0) == ((rd_T64 l1 x5_1).f2.f0)) || (!(((rd_T64 l0 x5_1).f2.f1) == ((rd_T64 l1 x5_1).f2.f1)) || (!(((rd_T64 l0 x5_1).f2.f2) == ((rd_T64 l1 x5_1).f2.f2)) || (!(((rd_T64 l0 x5_1).f2.f3) == ((rd_T64 l1 x5_1).f2.f3)) || (!(((rd_T64 l0 x5_1).f2.f4) == ((rd_T64 l1 x5_1).f2.f4)) || (!(((rd_T64 l0 x5_1).f2.f5) == ((rd_T64 l1 x5_1).f2.f5)) || (!(((rd_T64 l0 x5_1).f2.f6) == ((rd_T64 l1 x5_1).f2.f6)) || (!(((rd_T64 l0 x5_1).f2.f7) == ((rd_T64 l1 x5_1).f2.f7)) || (!(((rd_T64 l0 x5_1).f2.f8) == ((rd_T64 l1 x5_1).f2.f8)) || (!(((rd_T64 l0 x5_1).f2.f9) == ((rd_T64 l1 x5_1).f2.f9)))))))))))))))=true
       ·rw [if_pos c7] at H;have c7b0:(!(((rd_T64 l0 x5_1).f0) == ((rd_T64 l1 x5_1).f0)) || (!(((rd_T64 l0 x5_1).f1) == ((rd_T64 l1 x5_1).f1)) || ((!(((rd_T64 l0 x5_1).f2.f0) == ((rd_T64 l1 x5_1).f2.f0)) || (!(((rd_T64 l0 x5_1).f2.f1) == ((rd_T64 l1 x5_1).f2.f1)) || (!(((rd_T64 l0 x5_1).f2.f2) == ((rd_T64 l1 x5_1).f2.f2)) || (!(((rd_T64 l0 x5_1).f2.f3) == ((rd_T64 l1 x5_1).f2.f3)) || (!(((rd_T64 l0 x5_1).f2.f4) == ((rd_T64 l1 x5_1).f2.f4)) || (!(((rd_T64 l0 x5_1).f2.f5) == ((rd_T64 l1 x5_1).f2.f5)) || (!(((rd_T64 l0 x5_1).f2.f6) == ((rd_T64 l1 x5_1).f2.f6)) || (!(((rd_T64 l0 x5_1).f2.f7) == ((rd_T64 l1 x5_1).f2.f7)) || (!(((rd_T64 l0 x5_1).f2.f8) == ((rd_T64 l1 x5_1).f2.f8)) || (!(((rd_T64 l0 x5_1).f2.f9) == ((rd_T64 l1 x5_1).f2.f9)))))))))))))))=true:=c7;clear c7;obtain rfl:=Option.some.inj H;have p773:0≤(x5_1:Int):=of_decide_eq_true bA;have q773:x5_1<(l0.length:Int):=of_decide_eq_true bA;obtain ⟨ad773,e773,hx773_0,hx773_1,hx773_2,hx773_3,hx773_4,hx773_5,hx773_6,hx773_7,hx773_8,hx773_9,hx773_10,hx773_11⟩:=at_T64 HR0.out x5_1 p773 q773;cases e773;replace p773:=eq_true p773;replace q773:=eq_true q773;have p774:0≤(x5_1:Int):=of_decide_eq_true bA;have q774:x5_1<(l1.length:Int):=of_decide_eq_true bA;obtain ⟨ad774,e774,hx774_0,hx774_1,hx774_2,hx774_3,hx774_4,hx774_5,hx774_6,hx774_7,hx774_8,hx774_9,hx774_10,hx774_11⟩:=at_T64 HR1.out x5_1 p774 q774;cases e774;replace p774:=eq_true p774;replace q774:=eq_true q774
        go_wp2
        try go_region
        try go_wp2
        repeat (go_quiet (fail);try go_wp2)
        go_ret
        exact ⟨by first|rfl|(simp;done)|(simp [*];done),by repeat (first|exact Drawn0.refl _|apply Drawn0.step)⟩
       ·rw [if_neg c7] at H
        have c7b0:(!(((rd_T64 l0 x5_1).f0) == ((rd_T64 l1 x5_1).f0)) || (!(((rd_T64 l0 x5_1).f1) == ((rd_T64 l1 x5_1).f1)) || ((!(((rd_T64 l0 x5_1).f2.f0) == ((rd_T64 l1 x5_1).f2.f0)) || (!(((rd_T64 l0 x5_1).f2.f1) == ((rd_T64 l1 x5_1).f2.f1)) || (!(((rd_T64 l0 x5_1).f2.f2) == ((rd_T64 l1 x5_1).f2.f2)) || (!(((rd_T64 l0 x5_1).f2.f3) == ((rd_T64 l1 x5_1).f2.f3)) || (!(((rd_T64 l0 x5_1).f2.f4) == ((rd_T64 l1 x5_1).f2.f4)) || (!(((rd_T64 l0 x5_1).f2.f5) == ((rd_T64 l1 x5_1).f2.f5)) || (!(((rd_T64 l0 x5_1).f2.f6) == ((rd_T64 l1 x5_1).f2.f6)) || (!(((rd_T64 l0 x5_1).f2.f7) == ((rd_T64 l1 x5_1).f2.f7)) || (!(((rd_T64 l0 x5_1).f2.f8) == ((rd_T64 l1 x5_1).f2.f8)) || (!(((rd_T64 l0 x5_1).f2.f9) == ((rd_T64 l1 x5_1).f2.f9)))))))))))))))=false:=by simpa using c7
        clear c7;have H':=mA H;clear H;have p773:0≤(x5_1:Int):=of_decide_eq_true bA;have q773:x5_1<(l0.length:Int):=of_decide_eq_true bA;obtain ⟨ad773,e773,hx773_0,hx773_1,hx773_2,hx773_3,hx773_4,hx773_5,hx773_6,hx773_7,hx773_8,hx773_9,hx773_10,hx773_11⟩:=at_T64 HR0.out x5_1 p773 q773;cases e773;replace p773:=eq_true p773;replace q773:=eq_true q773;have p774:0≤(x5_1:Int):=of_decide_eq_true bA;have q774:x5_1<(l1.length:Int):=of_decide_eq_true bA;obtain ⟨ad774,e774,hx774_0,hx774_1,hx774_2,hx774_3,hx774_4,hx774_5,hx774_6,hx774_7,hx774_8,hx774_9,hx774_10,hx774_11⟩:=at_T64 HR1.out x5_1 p774 q774;cases e774;replace p774:=eq_true p774;replace q774:=eq_true q774
        go_wp2
        try go_region
        try go_wp2
        repeat (go_quiet (fail);try go_wp2)
        go_roundg k1
        case measure=>have:=HK1.out;omega
        case rel=>exact ⟨(wrap64 (x5_1+1)),bZ,H',⟨by have:=HK1.out;omega⟩,by repeat (first|exact Drawn0.refl _|apply Drawn0.step)⟩
      ·rw [if_neg c6] at H
       exact absurd H (by simp)
     ·rw [if_neg c5] at H
      exact absurd H (by simp)
    ·rw [if_neg c4] at H;have c4b0:decide (x5_1<(l0.length:Int))=false:=decide_eq_false c4;clear c4;obtain rfl:=Option.some.inj H
     go_wp2
     repeat (go_quiet (fail);try go_wp2)
     go_ret
     exact ⟨by first|rfl|(simp;done)|(simp [*];done),by repeat (first|exact Drawn0.refl _|apply Drawn0.step)⟩
 ·rw [if_neg c3] at H;have c3b0:((l0.length:Int) == (l1.length:Int))=false:=beq_eq_false_iff_ne.mpr c3;have c3b1:((l0.length:Int) != (l1.length:Int))=true:=bne_iff_ne.mpr c3
  have c3b2:(l0.length == l1.length)=false:=by first|simpa using c3|(simp at c3 ⊢;omega)
  obtain rfl:=Option.some.inj H
  go_enter Try.func50,Try.ntmps50
  go_wp2
  repeat (go_quiet (fail);try go_wp2)
  go_ret
  exact ⟨by first|rfl|(simp;done)|(simp [*];done),by repeat (first|exact Drawn0.refl _|apply Drawn0.step)⟩
end Go.Proofs.Ytoieojmfkkidnaa.P
