-- printed by pprint.py (this session's program over the kit's printer) out of the translation. Lean checks it.
import Derived.Test.YthjocaegapchaaaPx0
import Derived.Test.YthjocaegapchaaaPx4
import Derived.Test.YthjocaegapchaaaPx8
import Derived.Test.YthjocaegapchaaaPx11
import Derived.Test.YthjocaegapchaaaPx14
import Derived.Test.YthjocaegapchaaaPx15
import Derived.Test.YthjocaegapchaaaPx19
namespace Go.Proofs.Ythjocaegapchaaa.P
open Go.RowKit Go.Proofs.YthjocaegapchaaaX Go.Proofs.YthjocaegapchaaaW.PrintWords Go.Proofs.YthjocaegapchaaaW.PrintLast Go.Proofs.YthjocaegapchaaaW.PrintMore
attribute [local go_sem] max2_int min2_int max_two min_two max_three min_three max_four min_four   -- for this text's walks alone
set_option linter.unusedVariables false
set_option linter.unusedSimpArgs false

/-! ### spec_DrawWalMend: function 29 -/
def spec_DrawWalMend.f (k : Nat) (l0 : List Int) : Option (List ByteArray × (List (S75))) := (spec_l6Open.f l0).bind fun bt902 => ((spec_l72WalAny.f k bt902.1 bt902.2).bind fun bt905 => (some (bt905.1, bt905.2.1)))
theorem spec_DrawWalMend.mono : ∀ a0 k, LeO (spec_DrawWalMend.f k a0) (spec_DrawWalMend.f (k + 1) a0) := by
 intro a0 k
 unfold spec_DrawWalMend.f
 repeat' first
   | (with_reducible first|exact spec_l72WalAny.mono _ _ _|exact LeO.refl _|exact LeO.none _|refine LeO.ite ?_ ?_|refine LeO.bind ?_ (fun _=>?_))|exact spec_l72WalAny.mono _ _ _|exact LeO.none _|refine LeO.ite ?_ ?_|refine LeO.bind ?_ (fun _=>?_)
set_option maxHeartbeats 8000000 in
set_option maxRecDepth 100000 in
theorem spec_DrawWalMend.calls (k : Nat) (A0 : Option Addr) (c0 : Nat) (l0 : List Int) (r1 : List ByteArray) (r2 : List (S75)) (w : World) (hr0 : Kd.C (Kd.int .u8) w A0 l0.length l0) (hc0 : l0.length ≤ c0) (h : spec_DrawWalMend.f k l0 = some (r1, r2)) :
  Calls Try.prog 29 #[.slice A0 l0.length c0] w fun e w'=>∃ v0_ v1_:Value,e=.returned (.agg #[v0_,v1_])∧Kd.R Kd.string 9 w' w.heap.size (fun _=>True) v0_ r1∧Kd.R k75 75 w' w.heap.size (fun _=>True) v1_ r2∧Below w.heap.size w w':=by
 have hu31:=Try.underlying31;have HR0:=Aside0.mk hr0;have HC0:=Aside0.mk hc0;clear hr0 hc0;have HB:=Aside0.mk (Below.refl w.heap.size w);have H:((spec_l6Open.f l0).bind fun bt902=>((spec_l72WalAny.f k bt902.1 bt902.2).bind fun bt905=>(some (bt905.1,bt905.2.1))))=some (r1,r2):=h;clear h;replace H:=Option.bind_eq_some_iff.mp H;obtain ⟨⟨t902,t903⟩,A20,H⟩:=H
 (try dsimp only at H)
 have A2:=Aside0.mk A20;clear A20;replace H:=Option.bind_eq_some_iff.mp H;obtain ⟨⟨t905,t908,t911⟩,A30,H⟩:=H
 (try dsimp only at H)
 have A3:=Aside0.mk A30;clear A30;simp only [Option.some.injEq,Prod.mk.injEq] at H;obtain ⟨rfl,rfl⟩:=H
 go_enter Try.func29,Try.ntmps29
 go_wp2_with (first|((with_reducible refine gate_dst (N:=2) rfl ?_);refine box_event ?hg (N:=2) ?hd (cs:=#[.slice none 0 0,.slice none 0 0]) (t:=31) ?hr ?_;(case hd=>rfl);(case hg=>rfl);(case hr=>first|(go_simp;done)|(go_simp;rfl));intro gb901 hg w4 hbox hb;have n0_:=Aside0.mk (below_step (pB HB.out) hb);have n1_:=Aside0.mk (hbox);have n2_:=Aside0.mk ((by rw [hg];exact (below_size (pB HB.out)):w.heap.size≤gb901));have n3_:=Aside0.mk ((by rw [hg];exact (below_size (pB HB.out)):w.heap.size≤gb901));clear HB;have HB:=n0_;have BK901:=n1_;have GW901:=n2_;have GE901:=n3_;clear n0_ n1_ n2_ n3_;clear hb hbox hg)|((with_reducible refine gate_callee (f:=62) rfl ?_);refine goesL_ (some 4) rfl rfl Try.func62 (by kernel_rfl) rfl #[.slice A0 l0.length c0] rfl bM ?_;(with_reducible refine (spec_l6Open.calls _ _ l0 t902 t903 w _ ?side1 ?side2 ?side3 A2.out).mono ?_);(case side1=>repeat (first|(with_reducible first|exact HB.out|apply below_alloc|apply pw_below_drewN|apply below_drew1|refine below_set ?_ GE901.out)|exact HB.out));(case side2=>exact HR0.out);(case side3=>exact HC0.out);rintro e w5 ⟨g904,rfl,hi,hb,hb2⟩;refine ⟨_,rfl,?_⟩;have n0_:=Aside0.mk (blk_below (pK BK901.out) hb2);have n1_:=Aside0.mk (hb);have n2_:=Aside0.mk (hi);have n3_:=Aside0.mk (IsS110.ne_blk hi (blk_below (pK BK901.out) hb2) (by decide));have n4_:=Aside0.mk (Ne.symm (IsS110.ne_blk hi (blk_below (pK BK901.out) hb2) (by decide)));clear BK901;clear HB;have BK901:=n0_;have HB:=n1_;have HI904:=n2_;have NB904_901:=n3_;have NB901_904:=n4_;clear n0_ n1_ n2_ n3_ n4_;(try clear hb);(try clear hb2);(try clear hk);(try clear hi))|((with_reducible refine gate_callee (f:=61) rfl ?_);refine goesL_ (some 5) rfl rfl Try.func61 (by kernel_rfl) rfl #[.pointer (some ⟨g904,0,none⟩)] rfl bM ?_;(with_reducible refine (spec_l72WalAny.calls k g904 t902 t903 t905 t908 t911 w _ ?side1 ?side2 A3.out).mono ?_);(case side1=>repeat (first|(with_reducible first|exact HI904.out|apply IsS110.alloc|apply IsS110.drewN|apply IsS110.drew|apply IsS110.set_1|refine IsS110.far ?_ NB904_901.out _)|exact HI904.out));(case side2=>repeat (first|(with_reducible first|exact HB.out|apply below_alloc|apply pw_below_drewN|apply below_drew1|refine below_set ?_ (IsS110.ge HI904.out)|refine below_set ?_ GE901.out)|exact HB.out));rintro e w6 ⟨v906,v909,rfl,ho0,ho1,hi,hb,hk⟩;refine ⟨_,rfl,?_⟩;have n0_:=Aside0.mk (KeepBut.blk hk (g':=gb901) (o:=.cells #[.slice none 0 0,.slice none 0 0] 31 (0,0)) (pK BK901.out) NB901_904.out (by simp));have n1_:=Aside0.mk (Kd.R_lower ho0 (below_size (by repeat (first|(with_reducible first|exact HB.out|apply below_alloc|apply pw_below_drewN|apply below_drew1|refine below_set ?_ (IsS110.ge HI904.out)|refine below_set ?_ GE901.out)|exact HB.out))));have n2_:=Aside0.mk (Kd.R_lower ho1 (below_size (by repeat (first|(with_reducible first|exact HB.out|apply below_alloc|apply pw_below_drewN|apply below_drew1|refine below_set ?_ (IsS110.ge HI904.out)|refine below_set ?_ GE901.out)|exact HB.out))));have n3_:=Aside0.mk (hb);have n4_:=Aside0.mk (hi);clear BK901;clear HB;clear HI904;have BK901:=n0_;have HO907:=n1_;have HO910:=n2_;have HB:=n3_;have HI904:=n4_;clear n0_ n1_ n2_ n3_ n4_;(try clear hb);(try clear hb2);(try clear hk);(try clear hi);(try clear ho0);(try clear ho1);obtain ⟨Ao7,co7,eo7⟩:=Kd.R_slice HO907.out;subst eo7;have hnb8:=NB901_904.out;have hnc8:=NB904_901.out;obtain ⟨hcz9_0,hcz9_1,hfz9_0,hfz9_1⟩:=box2 BK901.out;obtain ⟨Ao10,co10,eo10⟩:=Kd.R_slice HO910.out;subst eo10))
 refine bodyPost_ret (results_cell_row rfl _ _ gb901 31 #[.slice Ao7 t905.length co7,.slice Ao10 t908.length co10] (0,0) _ rfl (by (with_reducible repeat (first|refine blk_drewN ?_ _|refine blk_drew ?_|refine blk_alloc ?_ _));refine blk_put (cs:=#[.slice Ao7 t905.length co7,.slice none 0 0]) ?_ 1 _ rfl;(with_reducible repeat (first|refine blk_drewN ?_ _|refine blk_drew ?_|refine blk_alloc ?_ _));refine blk_put (cs:=#[.slice none 0 0,.slice none 0 0]) ?_ 0 _ rfl;(with_reducible repeat (first|refine blk_drewN ?_ _|refine blk_drew ?_|refine blk_alloc ?_ _));exact BK901.out) Try.underlying31 rfl (by kernel_rfl)) rfl ?_
 exact ⟨_,_,by first|rfl|(simp [errW_none,errW_some]<;>rfl)|(simp [*,errW_none,errW_some]<;>rfl),pR (Kd.R_mono (Kd.R_far (p:=⟨gb901,1,none⟩) (Kd.R_far (p:=⟨gb901,0,none⟩) (Kd.R_types HO907.out BK901.out (by decide)) (fun _ hk=>hk.2) (.slice Ao7 t905.length co7)) (fun _ hk=>hk.2) (.slice Ao10 t908.length co10)) (fun _ hk=>trivial)),pR (Kd.R_mono (Kd.R_far (p:=⟨gb901,1,none⟩) (Kd.R_far (p:=⟨gb901,0,none⟩) (Kd.R_types HO910.out BK901.out (by decide)) (fun _ hk=>hk.2) (.slice Ao7 t905.length co7)) (fun _ hk=>hk.2) (.slice Ao10 t908.length co10)) (fun _ hk=>trivial)),by repeat (first|(with_reducible first|exact HB.out|apply below_alloc|apply pw_below_drewN|apply below_drew1|refine below_set ?_ (IsS110.ge HI904.out)|refine below_set ?_ GE901.out)|exact HB.out)⟩

/-! ### laws_FnWalMend: function 6 -/
mutual
def laws_FnWalMend.j0 : Nat → List ByteArray → List (S61) → Bool → Bool → List ByteArray → List (S75) → Option (Bool)
 | 0,_,_,_,_,_,_=>none
 | k+1,x6,x8,x9,x49,x1003000,x1003001=>if x49=true then (some false) else (if x9=true then ((impl_WalDo.f k x1003000 x1003001 x8 false 0 ([]:List Int)).bind fun bt1015=>((impl_WalRead.f k bt1015.1 bt1015.2).bind fun bt1022=>((impl_WalMend.f k bt1015.1 bt1015.2).bind fun bt1026=>(if bt1022.2=true then (if bt1026.2=true then (if (bt1026.1.length:Int)=0 then ((laws_lpTexts.f k bt1022.1 x6).bind fun t1030=>(laws_FnWalMend.j1 k t1030)) else (laws_FnWalMend.j1 k false)) else (laws_FnWalMend.j1 k false)) else (laws_FnWalMend.j1 k false))))) else (some ((x8.length:Int) == 0)))
def laws_FnWalMend.j1 : Nat → Bool → Option (Bool)
 | 0,_=>none
 | k+1,x2=>some x2
end
def laws_FnWalMend.f (k : Nat) (l0 : List Int) : Option (Bool) := if (l0.length : Int) > 1048576 then (some true) else ((spec_DrawWalMend.f k l0).bind fun bt996 => ((spec_WalMend.f k bt996.1 bt996.2).bind fun bt1003 => ((spec_WalRead.f k bt996.1 bt996.2).bind fun bt1007 => ((impl_WalMend.f k bt996.1 bt996.2).bind fun bt1011 => (if (bt1011.2 != bt1003.2) = true then (laws_FnWalMend.j0 k bt1007.1 bt1011.1 bt1011.2 true bt996.1 bt996.2) else (if (bt1011.1.length : Int) = (bt1003.1.length : Int) then (laws_FnWalMend.j0 k bt1007.1 bt1011.1 bt1011.2 (bt1011.2 != bt1007.2) bt996.1 bt996.2) else (laws_FnWalMend.j0 k bt1007.1 bt1011.1 bt1011.2 true bt996.1 bt996.2)))))))
theorem laws_FnWalMend.mono_l : ∀ k, (∀ y0 y1 y2 y3 y4 y5, LeO (laws_FnWalMend.j0 k y0 y1 y2 y3 y4 y5) (laws_FnWalMend.j0 (k + 1) y0 y1 y2 y3 y4 y5)) ∧ (∀ y0, LeO (laws_FnWalMend.j1 k y0) (laws_FnWalMend.j1 (k + 1) y0))
 | 0=>⟨fun _ _ _ _ _ _ r h=>by simp [laws_FnWalMend.j0] at h,fun _ r h=>by simp [laws_FnWalMend.j1] at h⟩
 | k+1=>by
  obtain ⟨ih0,ih1⟩:=laws_FnWalMend.mono_l k;refine ⟨?_,?_⟩
  ·intro y0 y1 y2 y3 y4 y5
   unfold laws_FnWalMend.j0
   repeat' first
   | (with_reducible first|exact ih0 _ _ _ _ _ _|exact ih1 _|exact impl_WalDo.mono _ _ _ _ _ _ _|exact impl_WalMend.mono _ _ _|exact impl_WalRead.mono _ _ _|exact laws_lpTexts.mono _ _ _|exact spec_DrawWalMend.mono _ _|exact spec_WalMend.mono _ _ _|exact spec_WalRead.mono _ _ _|exact LeO.refl _|exact LeO.none _|refine LeO.ite ?_ ?_|refine LeO.bind ?_ (fun _=>?_))|exact ih0 _ _ _ _ _ _|exact ih1 _|exact impl_WalDo.mono _ _ _ _ _ _ _|exact impl_WalMend.mono _ _ _|exact impl_WalRead.mono _ _ _|exact laws_lpTexts.mono _ _ _|exact spec_DrawWalMend.mono _ _|exact spec_WalMend.mono _ _ _|exact spec_WalRead.mono _ _ _|exact LeO.none _|refine LeO.ite ?_ ?_|refine LeO.bind ?_ (fun _=>?_)
  ·intro y0
   unfold laws_FnWalMend.j1
   repeat' first
   | (with_reducible first|exact ih0 _ _ _ _ _ _|exact ih1 _|exact impl_WalDo.mono _ _ _ _ _ _ _|exact impl_WalMend.mono _ _ _|exact impl_WalRead.mono _ _ _|exact laws_lpTexts.mono _ _ _|exact spec_DrawWalMend.mono _ _|exact spec_WalMend.mono _ _ _|exact spec_WalRead.mono _ _ _|exact LeO.refl _|exact LeO.none _|refine LeO.ite ?_ ?_|refine LeO.bind ?_ (fun _=>?_))|exact ih0 _ _ _ _ _ _|exact ih1 _|exact impl_WalDo.mono _ _ _ _ _ _ _|exact impl_WalMend.mono _ _ _|exact impl_WalRead.mono _ _ _|exact laws_lpTexts.mono _ _ _|exact spec_DrawWalMend.mono _ _|exact spec_WalMend.mono _ _ _|exact spec_WalRead.mono _ _ _|exact LeO.none _|refine LeO.ite ?_ ?_|refine LeO.bind ?_ (fun _=>?_)
theorem laws_FnWalMend.mono : ∀ a0 k, LeO (laws_FnWalMend.f k a0) (laws_FnWalMend.f (k + 1) a0) := by
 intro a0 k;obtain ⟨ih0,ih1⟩:=laws_FnWalMend.mono_l k
 unfold laws_FnWalMend.f
 repeat' first
   | (with_reducible first|exact ih0 _ _ _ _ _ _|exact ih1 _|exact impl_WalDo.mono _ _ _ _ _ _ _|exact impl_WalMend.mono _ _ _|exact impl_WalRead.mono _ _ _|exact laws_lpTexts.mono _ _ _|exact spec_DrawWalMend.mono _ _|exact spec_WalMend.mono _ _ _|exact spec_WalRead.mono _ _ _|exact LeO.refl _|exact LeO.none _|refine LeO.ite ?_ ?_|refine LeO.bind ?_ (fun _=>?_))|exact ih0 _ _ _ _ _ _|exact ih1 _|exact impl_WalDo.mono _ _ _ _ _ _ _|exact impl_WalMend.mono _ _ _|exact impl_WalRead.mono _ _ _|exact laws_lpTexts.mono _ _ _|exact spec_DrawWalMend.mono _ _|exact spec_WalMend.mono _ _ _|exact spec_WalRead.mono _ _ _|exact LeO.none _|refine LeO.ite ?_ ?_|refine LeO.bind ?_ (fun _=>?_)
set_option maxHeartbeats 8000000 in
set_option maxRecDepth 100000 in
theorem laws_FnWalMend.calls (k : Nat) (A0 : Option Addr) (c0 : Nat) (l0 : List Int) (r : Bool) (w : World) (hr0 : Kd.C (Kd.int .u8) w A0 l0.length l0) (hc0 : l0.length ≤ c0) (h : laws_FnWalMend.f k l0 = some r) :
  Calls Try.prog 6 #[.slice A0 l0.length c0] w fun e w'=>e=.returned (.bool r)∧Below w.heap.size w w':=by
 have hu31:=Try.underlying31;have HR0:=Aside0.mk hr0;have HC0:=Aside0.mk hc0;clear hr0 hc0;have HB:=Aside0.mk (Below.refl w.heap.size w);have H:(if (l0.length:Int) > 1048576 then (some true) else ((spec_DrawWalMend.f k l0).bind fun bt996=>((spec_WalMend.f k bt996.1 bt996.2).bind fun bt1003=>((spec_WalRead.f k bt996.1 bt996.2).bind fun bt1007=>((impl_WalMend.f k bt996.1 bt996.2).bind fun bt1011=>(if (bt1011.2 != bt1003.2)=true then (laws_FnWalMend.j0 k bt1007.1 bt1011.1 bt1011.2 true bt996.1 bt996.2) else (if (bt1011.1.length:Int)=(bt1003.1.length:Int) then (laws_FnWalMend.j0 k bt1007.1 bt1011.1 bt1011.2 (bt1011.2 != bt1007.2) bt996.1 bt996.2) else (laws_FnWalMend.j0 k bt1007.1 bt1011.1 bt1011.2 true bt996.1 bt996.2))))))))=some r:=h;clear h
 by_cases c2:(l0.length:Int) > 1048576
 ·rw [if_pos c2] at H;have c2b0:decide (1048576<(l0.length:Int))=true:=decide_eq_true c2
  have c2b1:decide (1048576<l0.length)=true:=decide_eq_true (by omega)
  clear c2;obtain rfl:=Option.some.inj H
  go_enter Try.func6,Try.ntmps6
  go_wp2
  go_ret
  exact ⟨by first|rfl|(simp [errW_none,errW_some]<;>rfl)|(simp [*,errW_none,errW_some]<;>rfl),pB HB.out⟩
 ·rw [if_neg c2] at H;have c2b0:decide (1048576<(l0.length:Int))=false:=decide_eq_false c2
  have c2b1:decide (1048576<l0.length)=false:=decide_eq_false (by omega)
  clear c2;replace H:=Option.bind_eq_some_iff.mp H;obtain ⟨⟨t996,t999⟩,A30,H⟩:=H
  (try dsimp only at H)
  have A3:=Aside0.mk A30;clear A30;replace H:=Option.bind_eq_some_iff.mp H;obtain ⟨⟨t1003,t1006⟩,A40,H⟩:=H
  (try dsimp only at H)
  have A4:=Aside0.mk A40;clear A40;replace H:=Option.bind_eq_some_iff.mp H;obtain ⟨⟨t1007,t1010⟩,A50,H⟩:=H
  (try dsimp only at H)
  have A5:=Aside0.mk A50;clear A50;replace H:=Option.bind_eq_some_iff.mp H;obtain ⟨⟨t1011,t1014⟩,A60,H⟩:=H
  (try dsimp only at H)
  have A6:=Aside0.mk A60;clear A60;have HC7:=Aside0.mk H;clear H
  go_enter Try.func6,Try.ntmps6
  go_upto_region 7 with (first|((with_reducible refine gate_callee (f:=29) rfl ?_);refine goesL_ (some 19) rfl rfl Try.func29 (by kernel_rfl) rfl #[.slice A0 l0.length c0] rfl bM ?_;(with_reducible refine (spec_DrawWalMend.calls k _ _ l0 t996 t999 _ ?side1 ?side2 A3.out).mono ?_);(case side1=>exact pC HR0.out);(case side2=>exact HC0.out);rintro e w8 ⟨v997,v1000,rfl,ho0,ho1,hb⟩;refine ⟨_,rfl,?_⟩;have n0_:=Aside0.mk (Kd.R_lower ho0 (below_size (pB HB.out)));have n1_:=Aside0.mk (Kd.R_lower ho1 (below_size (pB HB.out)));have n2_:=Aside0.mk (below_step (pB HB.out) hb);clear HB;have HO998:=n0_;have HO1001:=n1_;have HB:=n2_;clear n0_ n1_ n2_;(try clear hb);(try clear hb2);(try clear hk);(try clear hi);(try clear ho0);(try clear ho1))|((with_reducible refine gate_dst (N:=3) rfl ?_);(try (refine gate_guard (by rfl) ?_;dsimp only));refine box_event ?hg (N:=3) ?hd (cs:=#[.slice none 0 0,.slice none 0 0]) (t:=31) ?hr ?_;(case hd=>rfl);(case hg=>rfl);(case hr=>first|(go_simp;done)|(go_simp;rfl));intro gb1002 hg w9 hbox hb;have n0_:=Aside0.mk (Kd.R_below (pR HO998.out) hb);have n1_:=Aside0.mk (Kd.R_below (pR HO1001.out) hb);have n2_:=Aside0.mk (below_step (pB HB.out) hb);have n3_:=Aside0.mk (hbox);have n4_:=Aside0.mk ((by rw [hg];exact (below_size (pB HB.out)):w.heap.size≤gb1002));have n5_:=Aside0.mk ((by rw [hg];exact (below_size (pB HB.out)):w.heap.size≤gb1002));clear HO998;clear HO1001;clear HB;have HO998:=n0_;have HO1001:=n1_;have HB:=n2_;have BK1002:=n3_;have GW1002:=n4_;have GE1002:=n5_;clear n0_ n1_ n2_ n3_ n4_ n5_;clear hb hbox hg;obtain ⟨Ao10,co10,eo10⟩:=Kd.R_slice HO998.out;subst eo10;obtain ⟨hcz11_0,hcz11_1,hfz11_0,hfz11_1⟩:=box2 BK1002.out;obtain ⟨Ao12,co12,eo12⟩:=Kd.R_slice HO1001.out;subst eo12)|((with_reducible refine gate_callee (f:=20) rfl ?_);refine goesL_ (some 22) rfl rfl Try.func20 (by kernel_rfl) rfl #[.agg #[.slice Ao10 t996.length co10,.slice Ao12 t999.length co12]] rfl bM ?_;(with_reducible refine (spec_WalMend.calls k _ _ t996 _ _ t999 t1003 t1006 _ ?side1 ?side2 ?side3 ?side4 A4.out).mono ?_);(case side1=>refine (Kd.R_reads' (e:=9) (base:=w.heap.size) (ok:=fun k_=>True) (n:=t996.length) (c:=co10) ?_).2.2;exact (pR (Kd.R_mono (Kd.R_far (p:=⟨gb1002,1,none⟩) (Kd.R_far (p:=⟨gb1002,0,none⟩) (Kd.R_types HO998.out BK1002.out (by decide)) (fun _ hk=>hk.2) (.slice Ao10 t996.length co10)) (fun _ hk=>hk.2) (.slice Ao12 t999.length co12)) (fun _ h_=>h_.1))));(case side2=>exact (Kd.R_reads' HO998.out).2.1);(case side3=>refine (Kd.R_reads' (e:=75) (base:=w.heap.size) (ok:=fun k_=>True) (n:=t999.length) (c:=co12) ?_).2.2;exact (pR (Kd.R_mono (Kd.R_far (p:=⟨gb1002,1,none⟩) (Kd.R_far (p:=⟨gb1002,0,none⟩) (Kd.R_types HO1001.out BK1002.out (by decide)) (fun _ hk=>hk.2) (.slice Ao10 t996.length co10)) (fun _ hk=>hk.2) (.slice Ao12 t999.length co12)) (fun _ h_=>h_.1))));(case side4=>exact (Kd.R_reads' HO1001.out).2.1);rintro e w13 ⟨v1004,rfl,ho0,hb⟩;refine ⟨_,rfl,?_⟩;have n0_:=Aside0.mk (Kd.R_below (pR (Kd.R_mono (Kd.R_far (p:=⟨gb1002,1,none⟩) (Kd.R_far (p:=⟨gb1002,0,none⟩) (Kd.R_types HO998.out BK1002.out (by decide)) (fun _ hk=>hk.2) (.slice Ao10 t996.length co10)) (fun _ hk=>hk.2) (.slice Ao12 t999.length co12)) (fun _ h_=>h_.1))) hb);have n1_:=Aside0.mk (Kd.R_below (pR (Kd.R_mono (Kd.R_far (p:=⟨gb1002,1,none⟩) (Kd.R_far (p:=⟨gb1002,0,none⟩) (Kd.R_types HO1001.out BK1002.out (by decide)) (fun _ hk=>hk.2) (.slice Ao10 t996.length co10)) (fun _ hk=>hk.2) (.slice Ao12 t999.length co12)) (fun _ h_=>h_.1))) hb);have n2_:=Aside0.mk (Kd.R_lower ho0 (below_size (pS HB.out)));have n3_:=Aside0.mk (blk_below (g:=gb1002) (o:=.cells #[.slice Ao10 t996.length co10,.slice Ao12 t999.length co12] 31 (0,0)) (by (with_reducible repeat (first|refine blk_drewN ?_ _|refine blk_drew ?_|refine blk_alloc ?_ _));refine blk_put (cs:=#[.slice Ao10 t996.length co10,.slice none 0 0]) ?_ 1 _ rfl;(with_reducible repeat (first|refine blk_drewN ?_ _|refine blk_drew ?_|refine blk_alloc ?_ _));refine blk_put (cs:=#[.slice none 0 0,.slice none 0 0]) ?_ 0 _ rfl;(with_reducible repeat (first|refine blk_drewN ?_ _|refine blk_drew ?_|refine blk_alloc ?_ _));exact BK1002.out) hb);have n4_:=Aside0.mk (below_step (pS HB.out) hb);clear HO998;clear HO1001;clear BK1002;clear HB;have HO998:=n0_;have HO1001:=n1_;have HO1005:=n2_;have BK1002:=n3_;have HB:=n4_;clear n0_ n1_ n2_ n3_ n4_;(try clear hb);(try clear hb2);(try clear hk);(try clear hi);(try clear ho0);obtain ⟨hcz14_0,hcz14_1,hfz14_0,hfz14_1⟩:=box2 BK1002.out)|((with_reducible refine gate_callee (f:=12) rfl ?_);refine goesL_ (some 27) rfl rfl Try.func12 (by kernel_rfl) rfl #[.agg #[.slice Ao10 t996.length co10,.slice Ao12 t999.length co12]] rfl bM ?_;(with_reducible refine (spec_WalRead.calls k _ _ t996 _ _ t999 t1007 t1010 _ ?side1 ?side2 ?side3 ?side4 A5.out).mono ?_);(case side1=>exact pC (Kd.R_reads' HO998.out).2.2);(case side2=>exact (Kd.R_reads' HO998.out).2.1);(case side3=>exact pC (Kd.R_reads' HO1001.out).2.2);(case side4=>exact (Kd.R_reads' HO1001.out).2.1);rintro e w15 ⟨v1008,rfl,ho0,hb⟩;refine ⟨_,rfl,?_⟩;have n0_:=Aside0.mk (Kd.R_elder' (pR HO998.out) (Kd.R_base ho0) hb);have n1_:=Aside0.mk (Kd.R_below (pR HO1001.out) hb);have n2_:=Aside0.mk (Kd.R_below (pR HO1005.out) hb);have n3_:=Aside0.mk (Kd.R_lower (Kd.R_new' ho0 (Kd.R_lt (pR HO998.out))) (below_size (pS HB.out)));have n4_:=Aside0.mk (blk_below (pK BK1002.out) hb);have n5_:=Aside0.mk (below_step (pS HB.out) hb);clear HO998;clear HO1001;clear HO1005;clear BK1002;clear HB;have HO998:=n0_;have HO1001:=n1_;have HO1005:=n2_;have HO1009:=n3_;have BK1002:=n4_;have HB:=n5_;clear n0_ n1_ n2_ n3_ n4_ n5_;(try clear hb);(try clear hb2);(try clear hk);(try clear hi);(try clear ho0);obtain ⟨hcz16_0,hcz16_1,hfz16_0,hfz16_1⟩:=box2 BK1002.out)|((with_reducible refine gate_callee (f:=21) rfl ?_);refine goesL_ (some 32) rfl rfl Try.func21 (by kernel_rfl) rfl #[.agg #[.slice Ao10 t996.length co10,.slice Ao12 t999.length co12]] rfl bM ?_;(with_reducible refine (impl_WalMend.calls k _ _ t996 _ _ t999 t1011 t1014 _ ?side1 ?side2 ?side3 ?side4 A6.out).mono ?_);(case side1=>exact pC (Kd.R_reads' HO998.out).2.2);(case side2=>exact (Kd.R_reads' HO998.out).2.1);(case side3=>exact pC (Kd.R_reads' HO1001.out).2.2);(case side4=>exact (Kd.R_reads' HO1001.out).2.1);rintro e w17 ⟨v1012,rfl,ho0,hb⟩;refine ⟨_,rfl,?_⟩;have n0_:=Aside0.mk (Kd.R_below (pR HO998.out) hb);have n1_:=Aside0.mk (Kd.R_below (pR HO1001.out) hb);have n2_:=Aside0.mk (Kd.R_elder' (pR HO1005.out) (Kd.R_base ho0) hb);have n3_:=Aside0.mk (Kd.R_below (pR HO1009.out) hb);have n4_:=Aside0.mk (Kd.R_lower (Kd.R_new' ho0 (Kd.R_lt (pR HO1005.out))) (below_size (pS HB.out)));have n5_:=Aside0.mk (blk_below (pK BK1002.out) hb);have n6_:=Aside0.mk (below_step (pS HB.out) hb);clear HO998;clear HO1001;clear HO1005;clear HO1009;clear BK1002;clear HB;have HO998:=n0_;have HO1001:=n1_;have HO1005:=n2_;have HO1009:=n3_;have HO1013:=n4_;have BK1002:=n5_;have HB:=n6_;clear n0_ n1_ n2_ n3_ n4_ n5_ n6_;(try clear hb);(try clear hb2);(try clear hk);(try clear hi);(try clear ho0)))
  (try simp only [Act.put,List.setIfInBounds_toArray,List.set_cons_zero,List.set_cons_succ])
  go_cut [49] (fun v49 wc=>∃ (kq:Nat) (x49_6:Bool),v49=.bool x49_6∧Aside0 (laws_FnWalMend.j0 kq t1007 t1011 t1014 x49_6 t996 t999=some r)∧Aside0 (kq≤k)∧Aside0 (Kd.R Kd.string 9 wc w.heap.size (fun k_=>some k_≠((.slice Ao10 t996.length co10):Value).ownBlock) v1008 t1007)∧Aside0 (Kd.R k61 61 wc w.heap.size (fun _=>True) v1012 t1011)∧Aside0 (Kd.R Kd.string 9 wc w.heap.size (fun k_=>some k_≠(v1008:Value).ownBlock) (.slice Ao10 t996.length co10) t996)∧Aside0 (Kd.R k75 75 wc w.heap.size (fun _=>True) (.slice Ao12 t999.length co12) t999)∧Aside0 (wc.heap[gb1002]?=some (.cells #[(.slice Ao10 t996.length co10),(.slice Ao12 t999.length co12)] 31 (0,0)))∧Aside0 (Below w.heap.size w wc))
  case first =>
   have H:=HC7.out;clear HC7
   by_cases c18:(t1014 != t1006)=true
   ·rw [if_pos c18] at H;have c18b0:(t1014 != t1006)=true:=c18
    (try (have c18b1:decide (t1014=t1006)=false:=by simpa using c18))
    (try (have c18b2:(t1014 == t1006)=false:=by simpa using c18))
    (try (have c18b3:¬ (t1014=t1006):=by simpa using c18))
    clear c18
    (first|rw [c18b0]|(simp only [i64_w,i32_w];rw [c18b0])|skip)
    have H':=Aside0.mk H;clear H
    go_wp2
    go_meet
    case rel=>exact ⟨_,(true),(by first|rfl|(simp;done)|(simp [*];done)),H',⟨by first|omega|exact Nat.le_refl _⟩,⟨pR (Kd.R_mono HO1009.out (fun _ hk=>hk.2))⟩,⟨pR (Kd.R_mono HO1013.out (fun _ hk=>trivial))⟩,⟨pR (Kd.R_mono HO998.out (fun _ hk=>hk.2))⟩,⟨pR HO1001.out⟩,⟨pK BK1002.out⟩,⟨pS HB.out⟩⟩
   ·rw [if_neg c18] at H
    have c18b0:(t1014 != t1006)=false:=by simpa using c18
    (try (have c18b1:decide (t1014=t1006)=true:=by simpa using c18))
    (try (have c18b2:(t1014 == t1006)=true:=by simpa using c18))
    clear c18
    (first|rw [c18b0]|(simp only [i64_w,i32_w];rw [c18b0])|skip)
    by_cases c19:(t1011.length:Int)=(t1003.length:Int)
    ·rw [if_pos c19] at H;have c19b0:((t1011.length:Int) == (t1003.length:Int))=true:=beq_iff_eq.mpr c19;have c19b1:((t1011.length:Int) != (t1003.length:Int))=false:=bne_eq_false_iff_eq.mpr c19
     have c19b2:(t1011.length == t1003.length)=true:=by first|simpa using c19|(simp at c19 ⊢;omega)
     clear c19;have H':=Aside0.mk H;clear H;obtain ⟨Ao20,co20,eo20⟩:=Kd.R_slice HO1013.out;subst eo20;obtain ⟨Ao21,co21,eo21⟩:=Kd.R_slice HO1005.out;subst eo21
     go_wp2
     go_meet
     case rel=>exact ⟨_,((t1014 != t1010)),(by first|rfl|(simp;done)|(simp [*];done)),H',⟨by first|omega|exact Nat.le_refl _⟩,⟨pR (Kd.R_mono HO1009.out (fun _ hk=>hk.2))⟩,⟨pR (Kd.R_mono HO1013.out (fun _ hk=>trivial))⟩,⟨pR (Kd.R_mono HO998.out (fun _ hk=>hk.2))⟩,⟨pR HO1001.out⟩,⟨pK BK1002.out⟩,⟨pS HB.out⟩⟩
    ·rw [if_neg c19] at H;have c19b0:((t1011.length:Int) == (t1003.length:Int))=false:=beq_eq_false_iff_ne.mpr c19;have c19b1:((t1011.length:Int) != (t1003.length:Int))=true:=bne_iff_ne.mpr c19
     have c19b2:(t1011.length == t1003.length)=false:=by first|simpa using c19|(simp at c19 ⊢;omega)
     have H':=Aside0.mk H;clear H;obtain ⟨Ao22,co22,eo22⟩:=Kd.R_slice HO1013.out;subst eo22;obtain ⟨Ao23,co23,eo23⟩:=Kd.R_slice HO1005.out;subst eo23
     go_wp2
     go_meet
     case rel=>exact ⟨_,(true),(by first|rfl|(simp;done)|(simp [*];done)),H',⟨by first|omega|exact Nat.le_refl _⟩,⟨pR (Kd.R_mono HO1009.out (fun _ hk=>hk.2))⟩,⟨pR (Kd.R_mono HO1013.out (fun _ hk=>trivial))⟩,⟨pR (Kd.R_mono HO998.out (fun _ hk=>hk.2))⟩,⟨pR HO1001.out⟩,⟨pK BK1002.out⟩,⟨pS HB.out⟩⟩
  case rest =>
   clear HC7
   (try clear c1)
   (try clear c2)
   (try clear c2b0)
   (try clear c2b1)
   (try clear p2)
   (try clear c6)
   (try clear c12)
   (try clear c18)
   (try clear c18b0)
   (try clear c18b1)
   (try clear c18b2)
   (try clear c19)
   (try clear c19b0)
   (try clear c19b1)
   (try clear c19b2)
   (try clear c20)
   (try clear c21)
   (try clear hcz11_0)
   (try clear hcz11_1)
   (try clear hcz14_0)
   (try clear hcz14_1)
   (try clear hcz16_0)
   (try clear hcz16_1)
   (try clear hfz11_0)
   (try clear hfz11_1)
   (try clear hfz14_0)
   (try clear hfz14_1)
   (try clear hfz16_0)
   (try clear hfz16_1)
   obtain ⟨kq,x49_6,rfl,HA,HJ6,HO_6,HO_8,HO_1003000,HO_1003001,BK1002,HB⟩:=hcut
   cases kq with
   | zero=>exact absurd HA.out (by simp [laws_FnWalMend.j0])
   | succ kj6 =>
    have H:=HA.out;clear HA;simp only [laws_FnWalMend.j0] at H
    by_cases c24:x49_6=true
    ·subst c24;rw [if_pos rfl] at H;obtain rfl:=Option.some.inj H
     go_wp2
     go_ret
     exact ⟨by first|rfl|(simp [errW_none,errW_some]<;>rfl)|(simp [*,errW_none,errW_some]<;>rfl),pS HB.out⟩
    ·replace c24:=Bool.eq_false_iff.mpr c24;subst c24
     rw [if_neg (show ¬ (false=true) by decide)] at H
     by_cases c25:t1014=true
     ·subst c25;rw [if_pos rfl] at H;replace H:=Option.bind_eq_some_iff.mp H;obtain ⟨⟨t1015,t1018⟩,A260,H⟩:=H
      (try dsimp only at H)
      have A26:=Aside0.mk A260;clear A260;replace H:=Option.bind_eq_some_iff.mp H;obtain ⟨⟨t1022,t1025⟩,A270,H⟩:=H
      (try dsimp only at H)
      have A27:=Aside0.mk A270;clear A270;replace H:=Option.bind_eq_some_iff.mp H;obtain ⟨⟨t1026,t1029⟩,A280,H⟩:=H
      (try dsimp only at H)
      have A28:=Aside0.mk A280;clear A280;have HC29:=Aside0.mk H;clear H;obtain ⟨hcz30_0,hcz30_1,hfz30_0,hfz30_1⟩:=box2 BK1002.out;obtain ⟨Ao31,co31,eo31⟩:=Kd.R_slice HO_8.out;subst eo31
      go_upto_region 14 with (first|((with_reducible refine gate_callee (f:=30) rfl ?_);refine goesL_ (some 57) rfl rfl Try.func30 (by kernel_rfl) rfl #[.agg #[.slice Ao10 t996.length co10,.slice Ao12 t999.length co12],.slice Ao31 t1011.length co31,.bool false,.int .i64 0,.slice none 0 0] rfl bM ?_;(refine (impl_WalDo.calls kj6 _ _ t996 _ _ t999 _ _ t1011 false 0 _ _ ([]:List Int) t1015 t1018 _ ?side1 ?side2 ?side3 ?side4 ?side5 ?side6 ?side7 ?side8 A26.out).mono ?_);(case side1=>exact pC (Kd.R_reads' HO_1003000.out).2.2);(case side2=>exact (Kd.R_reads' HO_1003000.out).2.1);(case side3=>exact pC (Kd.R_reads' HO_1003001.out).2.2);(case side4=>exact (Kd.R_reads' HO_1003001.out).2.1);(case side5=>exact pC (Kd.R_reads' HO_8.out).2.2);(case side6=>exact (Kd.R_reads' HO_8.out).2.1);(case side7=>exact Kd.C_nil _ _);(case side8=>exact Nat.le_refl _);rintro e w32 ⟨v1016,v1019,rfl,ho0,ho1,hb⟩;refine ⟨_,rfl,?_⟩;have n0_:=Aside0.mk (Kd.R_elder' (pR HO_6.out) (Kd.R_base ho0) hb);have n1_:=Aside0.mk (Kd.R_below (pR HO_8.out) hb);have n2_:=Aside0.mk (Kd.R_elder' (pR HO_1003000.out) (Kd.R_base ho0) hb);have n3_:=Aside0.mk (Kd.R_elder' (pR HO_1003001.out) (Kd.R_base ho1) hb);have n4_:=Aside0.mk (Kd.R_lower (Kd.R_new' (Kd.R_new' ho0 (Kd.R_lt (pR HO_6.out))) (Kd.R_lt (pR HO_1003000.out))) (below_size (pS HB.out)));have n5_:=Aside0.mk (Kd.R_lower (Kd.R_new' ho1 (Kd.R_lt (pR HO_1003001.out))) (below_size (pS HB.out)));have n6_:=Aside0.mk (blk_below (pK BK1002.out) hb);have n7_:=Aside0.mk (below_step (pS HB.out) hb);clear HO_6;clear HO_8;clear HO_1003000;clear HO_1003001;clear BK1002;clear HB;have HO_6:=n0_;have HO_8:=n1_;have HO_1003000:=n2_;have HO_1003001:=n3_;have HO1017:=n4_;have HO1020:=n5_;have BK1002:=n6_;have HB:=n7_;clear n0_ n1_ n2_ n3_ n4_ n5_ n6_ n7_;(try clear hb);(try clear hb2);(try clear hk);(try clear hi);(try clear ho0);(try clear ho1))|((with_reducible refine gate_dst (N:=10) rfl ?_);(try (refine gate_guard (by rfl) ?_;dsimp only));refine box_event ?hg (N:=10) ?hd (cs:=#[.slice none 0 0,.slice none 0 0]) (t:=31) ?hr ?_;(case hd=>rfl);(case hg=>rfl);(case hr=>first|(go_simp;done)|(go_simp;rfl));intro gb1021 hg w33 hbox hb;have n0_:=Aside0.mk (Kd.R_below (pR HO_6.out) hb);have n1_:=Aside0.mk (Kd.R_below (pR HO_8.out) hb);have n2_:=Aside0.mk (Kd.R_below (pR HO_1003000.out) hb);have n3_:=Aside0.mk (Kd.R_below (pR HO_1003001.out) hb);have n4_:=Aside0.mk (Kd.R_below (pR HO1017.out) hb);have n5_:=Aside0.mk (Kd.R_below (pR HO1020.out) hb);have n6_:=Aside0.mk (blk_below (pK BK1002.out) hb);have n7_:=Aside0.mk (below_step (pS HB.out) hb);have n8_:=Aside0.mk (hbox);have n9_:=Aside0.mk ((by rw [hg];exact (below_size (pS HB.out)):w.heap.size≤gb1021));have n10_:=Aside0.mk ((by rw [hg];exact (below_size (pS HB.out)):w.heap.size≤gb1021));have n11_:=Aside0.mk ((by rw [hg];exact Nat.ne_of_lt (blk_lt (pK BK1002.out)):gb1002≠gb1021));have n12_:=Aside0.mk ((by rw [hg];exact Nat.ne_of_gt (blk_lt (pK BK1002.out)):gb1021≠gb1002));clear HO_6;clear HO_8;clear HO_1003000;clear HO_1003001;clear HO1017;clear HO1020;clear BK1002;clear HB;have HO_6:=n0_;have HO_8:=n1_;have HO_1003000:=n2_;have HO_1003001:=n3_;have HO1017:=n4_;have HO1020:=n5_;have BK1002:=n6_;have HB:=n7_;have BK1021:=n8_;have GW1021:=n9_;have GE1021:=n10_;have NB1002_1021:=n11_;have NB1021_1002:=n12_;clear n0_ n1_ n2_ n3_ n4_ n5_ n6_ n7_ n8_ n9_ n10_ n11_ n12_;clear hb hbox hg;obtain ⟨Ao34,co34,eo34⟩:=Kd.R_slice HO1017.out;subst eo34;have hnb35:=NB1021_1002.out;have hnc35:=NB1002_1021.out;obtain ⟨hcz36_0,hcz36_1,hfz36_0,hfz36_1⟩:=box2 BK1021.out;obtain ⟨Ao37,co37,eo37⟩:=Kd.R_slice HO1020.out;subst eo37)|((with_reducible refine gate_callee (f:=14) rfl ?_);refine goesL_ (some 60) rfl rfl Try.func14 (by kernel_rfl) rfl #[.agg #[.slice Ao34 t1015.length co34,.slice Ao37 t1018.length co37]] rfl bM ?_;(with_reducible refine (impl_WalRead.calls kj6 _ _ t1015 _ _ t1018 t1022 t1025 _ ?side1 ?side2 ?side3 ?side4 A27.out).mono ?_);(case side1=>refine (Kd.R_reads' (e:=9) (base:=w.heap.size) (ok:=fun k_=>((True∧some k_≠(v1008:Value).ownBlock)∧some k_≠(.slice Ao10 t996.length co10:Value).ownBlock)) (n:=t1015.length) (c:=co34) ?_).2.2;exact (pR (Kd.R_mono (Kd.R_far (p:=⟨gb1021,1,none⟩) (Kd.R_far (p:=⟨gb1021,0,none⟩) (Kd.R_types HO1017.out BK1021.out (by decide)) (fun _ hk=>hk.2) (.slice Ao34 t1015.length co34)) (fun _ hk=>hk.2) (.slice Ao37 t1018.length co37)) (fun _ h_=>h_.1))));(case side2=>exact (Kd.R_reads' HO1017.out).2.1);(case side3=>refine (Kd.R_reads' (e:=75) (base:=w.heap.size) (ok:=fun k_=>(True∧some k_≠(.slice Ao12 t999.length co12:Value).ownBlock)) (n:=t1018.length) (c:=co37) ?_).2.2;exact (pR (Kd.R_mono (Kd.R_far (p:=⟨gb1021,1,none⟩) (Kd.R_far (p:=⟨gb1021,0,none⟩) (Kd.R_types HO1020.out BK1021.out (by decide)) (fun _ hk=>hk.2) (.slice Ao34 t1015.length co34)) (fun _ hk=>hk.2) (.slice Ao37 t1018.length co37)) (fun _ h_=>h_.1))));(case side4=>exact (Kd.R_reads' HO1020.out).2.1);rintro e w38 ⟨v1023,rfl,ho0,hb⟩;refine ⟨_,rfl,?_⟩;have n0_:=Aside0.mk (Kd.R_elder' (pR (Kd.R_mono (Kd.R_far (p:=⟨gb1021,1,none⟩) (Kd.R_far (p:=⟨gb1021,0,none⟩) (Kd.R_types HO_6.out BK1021.out (by decide)) (fun _ hk=>hk.2) (.slice Ao34 t1015.length co34)) (fun _ hk=>hk.2) (.slice Ao37 t1018.length co37)) (fun _ h_=>h_.1))) (Kd.R_base ho0) hb);have n1_:=Aside0.mk (Kd.R_below (pR (Kd.R_mono (Kd.R_far (p:=⟨gb1021,1,none⟩) (Kd.R_far (p:=⟨gb1021,0,none⟩) (Kd.R_types HO_8.out BK1021.out (by decide)) (fun _ hk=>hk.2) (.slice Ao34 t1015.length co34)) (fun _ hk=>hk.2) (.slice Ao37 t1018.length co37)) (fun _ h_=>h_.1))) hb);have n2_:=Aside0.mk (Kd.R_elder' (pR (Kd.R_mono (Kd.R_far (p:=⟨gb1021,1,none⟩) (Kd.R_far (p:=⟨gb1021,0,none⟩) (Kd.R_types HO_1003000.out BK1021.out (by decide)) (fun _ hk=>hk.2) (.slice Ao34 t1015.length co34)) (fun _ hk=>hk.2) (.slice Ao37 t1018.length co37)) (fun _ h_=>h_.1))) (Kd.R_base ho0) hb);have n3_:=Aside0.mk (Kd.R_below (pR (Kd.R_mono (Kd.R_far (p:=⟨gb1021,1,none⟩) (Kd.R_far (p:=⟨gb1021,0,none⟩) (Kd.R_types HO_1003001.out BK1021.out (by decide)) (fun _ hk=>hk.2) (.slice Ao34 t1015.length co34)) (fun _ hk=>hk.2) (.slice Ao37 t1018.length co37)) (fun _ h_=>h_.1))) hb);have n4_:=Aside0.mk (Kd.R_elder' (pR (Kd.R_mono (Kd.R_far (p:=⟨gb1021,1,none⟩) (Kd.R_far (p:=⟨gb1021,0,none⟩) (Kd.R_types HO1017.out BK1021.out (by decide)) (fun _ hk=>hk.2) (.slice Ao34 t1015.length co34)) (fun _ hk=>hk.2) (.slice Ao37 t1018.length co37)) (fun _ h_=>h_.1))) (Kd.R_base ho0) hb);have n5_:=Aside0.mk (Kd.R_below (pR (Kd.R_mono (Kd.R_far (p:=⟨gb1021,1,none⟩) (Kd.R_far (p:=⟨gb1021,0,none⟩) (Kd.R_types HO1020.out BK1021.out (by decide)) (fun _ hk=>hk.2) (.slice Ao34 t1015.length co34)) (fun _ hk=>hk.2) (.slice Ao37 t1018.length co37)) (fun _ h_=>h_.1))) hb);have n6_:=Aside0.mk (Kd.R_lower (Kd.R_new' (Kd.R_new' (Kd.R_new' ho0 (Kd.R_lt (pR (Kd.R_mono (Kd.R_far (p:=⟨gb1021,1,none⟩) (Kd.R_far (p:=⟨gb1021,0,none⟩) (Kd.R_types HO_6.out BK1021.out (by decide)) (fun _ hk=>hk.2) (.slice Ao34 t1015.length co34)) (fun _ hk=>hk.2) (.slice Ao37 t1018.length co37)) (fun _ h_=>h_.1))))) (Kd.R_lt (pR (Kd.R_mono (Kd.R_far (p:=⟨gb1021,1,none⟩) (Kd.R_far (p:=⟨gb1021,0,none⟩) (Kd.R_types HO_1003000.out BK1021.out (by decide)) (fun _ hk=>hk.2) (.slice Ao34 t1015.length co34)) (fun _ hk=>hk.2) (.slice Ao37 t1018.length co37)) (fun _ h_=>h_.1))))) (Kd.R_lt (pR (Kd.R_mono (Kd.R_far (p:=⟨gb1021,1,none⟩) (Kd.R_far (p:=⟨gb1021,0,none⟩) (Kd.R_types HO1017.out BK1021.out (by decide)) (fun _ hk=>hk.2) (.slice Ao34 t1015.length co34)) (fun _ hk=>hk.2) (.slice Ao37 t1018.length co37)) (fun _ h_=>h_.1))))) (below_size (pS HB.out)));have n7_:=Aside0.mk (blk_below (g:=gb1002) (o:=.cells #[.slice Ao10 t996.length co10,.slice Ao12 t999.length co12] 31 (0,0)) (pF BK1002.out) hb);have n8_:=Aside0.mk (blk_below (g:=gb1021) (o:=.cells #[.slice Ao34 t1015.length co34,.slice Ao37 t1018.length co37] 31 (0,0)) (by (with_reducible repeat (first|refine blk_drewN ?_ _|refine blk_drew ?_|refine blk_alloc ?_ _));refine blk_put (cs:=#[.slice Ao34 t1015.length co34,.slice none 0 0]) ?_ 1 _ rfl;(with_reducible repeat (first|refine blk_drewN ?_ _|refine blk_drew ?_|refine blk_alloc ?_ _));refine blk_put (cs:=#[.slice none 0 0,.slice none 0 0]) ?_ 0 _ rfl;(with_reducible repeat (first|refine blk_drewN ?_ _|refine blk_drew ?_|refine blk_alloc ?_ _));exact BK1021.out) hb);have n9_:=Aside0.mk (below_step (pS HB.out) hb);clear HO_6;clear HO_8;clear HO_1003000;clear HO_1003001;clear HO1017;clear HO1020;clear BK1002;clear BK1021;clear HB;have HO_6:=n0_;have HO_8:=n1_;have HO_1003000:=n2_;have HO_1003001:=n3_;have HO1017:=n4_;have HO1020:=n5_;have HO1024:=n6_;have BK1002:=n7_;have BK1021:=n8_;have HB:=n9_;clear n0_ n1_ n2_ n3_ n4_ n5_ n6_ n7_ n8_ n9_;(try clear hb);(try clear hb2);(try clear hk);(try clear hi);(try clear ho0);obtain ⟨hcz39_0,hcz39_1,hfz39_0,hfz39_1⟩:=box2 BK1021.out)|((with_reducible refine gate_callee (f:=21) rfl ?_);refine goesL_ (some 65) rfl rfl Try.func21 (by kernel_rfl) rfl #[.agg #[.slice Ao34 t1015.length co34,.slice Ao37 t1018.length co37]] rfl bM ?_;(with_reducible refine (impl_WalMend.calls kj6 _ _ t1015 _ _ t1018 t1026 t1029 _ ?side1 ?side2 ?side3 ?side4 A28.out).mono ?_);(case side1=>exact pC (Kd.R_reads' HO1017.out).2.2);(case side2=>exact (Kd.R_reads' HO1017.out).2.1);(case side3=>exact pC (Kd.R_reads' HO1020.out).2.2);(case side4=>exact (Kd.R_reads' HO1020.out).2.1);rintro e w40 ⟨v1027,rfl,ho0,hb⟩;refine ⟨_,rfl,?_⟩;have n0_:=Aside0.mk (Kd.R_below (pR HO_6.out) hb);have n1_:=Aside0.mk (Kd.R_elder' (pR HO_8.out) (Kd.R_base ho0) hb);have n2_:=Aside0.mk (Kd.R_below (pR HO_1003000.out) hb);have n3_:=Aside0.mk (Kd.R_below (pR HO_1003001.out) hb);have n4_:=Aside0.mk (Kd.R_below (pR HO1017.out) hb);have n5_:=Aside0.mk (Kd.R_below (pR HO1020.out) hb);have n6_:=Aside0.mk (Kd.R_below (pR HO1024.out) hb);have n7_:=Aside0.mk (Kd.R_lower (Kd.R_new' ho0 (Kd.R_lt (pR HO_8.out))) (below_size (pS HB.out)));have n8_:=Aside0.mk (blk_below (pK BK1002.out) hb);have n9_:=Aside0.mk (blk_below (pK BK1021.out) hb);have n10_:=Aside0.mk (below_step (pS HB.out) hb);clear HO_6;clear HO_8;clear HO_1003000;clear HO_1003001;clear HO1017;clear HO1020;clear HO1024;clear BK1002;clear BK1021;clear HB;have HO_6:=n0_;have HO_8:=n1_;have HO_1003000:=n2_;have HO_1003001:=n3_;have HO1017:=n4_;have HO1020:=n5_;have HO1024:=n6_;have HO1028:=n7_;have BK1002:=n8_;have BK1021:=n9_;have HB:=n10_;clear n0_ n1_ n2_ n3_ n4_ n5_ n6_ n7_ n8_ n9_ n10_;(try clear hb);(try clear hb2);(try clear hk);(try clear hi);(try clear ho0)))
      (try simp only [Act.put,List.setIfInBounds_toArray,List.set_cons_zero,List.set_cons_succ])
      go_cut [2] (fun v2 wc=>∃ (kq:Nat) (x2_28:Bool),v2=.bool x2_28∧Aside0 (laws_FnWalMend.j1 kq x2_28=some r)∧Aside0 (kq≤kj6)∧Aside0 (Kd.R Kd.string 9 wc w.heap.size (fun k_=>some k_≠((.slice Ao34 t1015.length co34):Value).ownBlock) (.slice Ao10 t996.length co10) t996)∧Aside0 (Kd.R k75 75 wc w.heap.size (fun k_=>some k_≠((.slice Ao37 t1018.length co37):Value).ownBlock) (.slice Ao12 t999.length co12) t999)∧Aside0 (Kd.R Kd.string 9 wc w.heap.size (fun k_=>some k_≠((.slice Ao10 t996.length co10):Value).ownBlock) (.slice Ao34 t1015.length co34) t1015)∧Aside0 (Kd.R k75 75 wc w.heap.size (fun k_=>some k_≠((.slice Ao12 t999.length co12):Value).ownBlock) (.slice Ao37 t1018.length co37) t1018)∧Aside0 (wc.heap[gb1002]?=some (.cells #[(.slice Ao10 t996.length co10),(.slice Ao12 t999.length co12)] 31 (0,0)))∧Aside0 (wc.heap[gb1021]?=some (.cells #[(.slice Ao34 t1015.length co34),(.slice Ao37 t1018.length co37)] 31 (0,0)))∧Aside0 (Below w.heap.size w wc))
      case first =>
       have H:=HC29.out;clear HC29
       by_cases c41:t1025=true
       ·subst c41;rw [if_pos rfl] at H
        by_cases c42:t1029=true
        ·subst c42;rw [if_pos rfl] at H
         by_cases c43:(t1026.length:Int)=0
         ·rw [if_pos c43] at H;have c43b0:((t1026.length:Int) == 0)=true:=beq_iff_eq.mpr c43;have c43b1:((t1026.length:Int) != 0)=false:=bne_eq_false_iff_eq.mpr c43;clear c43
          (first|rw [c43b0]|(simp only [i64_w,i32_w];rw [c43b0])|skip)
          replace H:=Option.bind_eq_some_iff.mp H;obtain ⟨t1030,A440,H⟩:=H
          (try dsimp only at H)
          have A44:=Aside0.mk A440;clear A440;have H':=Aside0.mk H;clear H;obtain ⟨Ao45,co45,eo45⟩:=Kd.R_slice HO1028.out;subst eo45;obtain ⟨Ao46,co46,eo46⟩:=Kd.R_slice HO1024.out;subst eo46;obtain ⟨Ao47,co47,eo47⟩:=Kd.R_slice HO_6.out;subst eo47
          go_wp2_with (first|(go_at_call 31;(with_reducible refine (laws_lpTexts.calls kj6 _ _ t1022 _ _ t1007 t1030 _ ?side1 ?side2 ?side3 ?side4 A44.out).mono ?_);(case side1=>exact pC (Kd.R_reads' HO1024.out).2.2);(case side2=>exact (Kd.R_reads' HO1024.out).2.1);(case side3=>exact pC (Kd.R_reads' HO_6.out).2.2);(case side4=>exact (Kd.R_reads' HO_6.out).2.1);rintro e w' ⟨rfl,⟨nd,rfl⟩⟩))
          go_meet
          case rel=>exact ⟨_,(t1030),(by first|rfl|(simp;done)|(simp [*];done)),H',⟨by have:=HJ6.out;first|omega|exact Nat.le_refl _⟩,⟨pR (Kd.R_mono HO_1003000.out (fun _ hk=>hk.1.2))⟩,⟨pR (Kd.R_mono HO_1003001.out (fun _ hk=>hk.2))⟩,⟨pR (Kd.R_mono HO1017.out (fun _ hk=>hk.1.2))⟩,⟨pR (Kd.R_mono HO1020.out (fun _ hk=>hk.2))⟩,⟨pK BK1002.out⟩,⟨pK BK1021.out⟩,⟨pS HB.out⟩⟩
         ·rw [if_neg c43] at H;have c43b0:((t1026.length:Int) == 0)=false:=beq_eq_false_iff_ne.mpr c43;have c43b1:((t1026.length:Int) != 0)=true:=bne_iff_ne.mpr c43
          have c43b2:¬ (t1026=[]):=fun h_=>c43 (by rw [h_];rfl)
          (first|rw [c43b0]|(simp only [i64_w,i32_w];rw [c43b0])|skip)
          have H':=Aside0.mk H;clear H;obtain ⟨Ao48,co48,eo48⟩:=Kd.R_slice HO1028.out;subst eo48
          go_wp2
          go_meet
          case rel=>exact ⟨_,(false),(by first|rfl|(simp;done)|(simp [*];done)),H',⟨by have:=HJ6.out;first|omega|exact Nat.le_refl _⟩,⟨pR (Kd.R_mono HO_1003000.out (fun _ hk=>hk.1.2))⟩,⟨pR (Kd.R_mono HO_1003001.out (fun _ hk=>hk.2))⟩,⟨pR (Kd.R_mono HO1017.out (fun _ hk=>hk.1.2))⟩,⟨pR (Kd.R_mono HO1020.out (fun _ hk=>hk.2))⟩,⟨pK BK1002.out⟩,⟨pK BK1021.out⟩,⟨pS HB.out⟩⟩
        ·replace c42:=Bool.eq_false_iff.mpr c42;subst c42
         rw [if_neg (show ¬ (false=true) by decide)] at H
         have H':=Aside0.mk H;clear H
         go_wp2
         go_meet
         case rel=>exact ⟨_,(false),(by first|rfl|(simp;done)|(simp [*];done)),H',⟨by have:=HJ6.out;first|omega|exact Nat.le_refl _⟩,⟨pR (Kd.R_mono HO_1003000.out (fun _ hk=>hk.1.2))⟩,⟨pR (Kd.R_mono HO_1003001.out (fun _ hk=>hk.2))⟩,⟨pR (Kd.R_mono HO1017.out (fun _ hk=>hk.1.2))⟩,⟨pR (Kd.R_mono HO1020.out (fun _ hk=>hk.2))⟩,⟨pK BK1002.out⟩,⟨pK BK1021.out⟩,⟨pS HB.out⟩⟩
       ·replace c41:=Bool.eq_false_iff.mpr c41;subst c41
        rw [if_neg (show ¬ (false=true) by decide)] at H
        have H':=Aside0.mk H;clear H
        go_wp2
        go_meet
        case rel=>exact ⟨_,(false),(by first|rfl|(simp;done)|(simp [*];done)),H',⟨by have:=HJ6.out;first|omega|exact Nat.le_refl _⟩,⟨pR (Kd.R_mono HO_1003000.out (fun _ hk=>hk.1.2))⟩,⟨pR (Kd.R_mono HO_1003001.out (fun _ hk=>hk.2))⟩,⟨pR (Kd.R_mono HO1017.out (fun _ hk=>hk.1.2))⟩,⟨pR (Kd.R_mono HO1020.out (fun _ hk=>hk.2))⟩,⟨pK BK1002.out⟩,⟨pK BK1021.out⟩,⟨pS HB.out⟩⟩
      case rest =>
       clear HC29
       (try clear c1)
       (try clear c2)
       (try clear c2b0)
       (try clear c2b1)
       (try clear p2)
       (try clear c3)
       (try clear c4)
       (try clear c6)
       (try clear c12)
       (try clear c14)
       (try clear c18)
       (try clear c18b0)
       (try clear c18b1)
       (try clear c18b2)
       (try clear c19)
       (try clear c19b0)
       (try clear c19b1)
       (try clear c19b2)
       (try clear c20)
       (try clear c21)
       (try clear c24)
       (try clear c25)
       (try clear c29)
       (try clear c30)
       (try clear c35)
       (try clear c41)
       (try clear c42)
       (try clear c43)
       (try clear c43b0)
       (try clear c43b1)
       (try clear c43b2)
       (try clear hcz11_0)
       (try clear hcz11_1)
       (try clear hcz14_0)
       (try clear hcz14_1)
       (try clear hcz16_0)
       (try clear hcz16_1)
       (try clear hcz30_0)
       (try clear hcz30_1)
       (try clear hcz36_0)
       (try clear hcz36_1)
       (try clear hcz39_0)
       (try clear hcz39_1)
       (try clear hfz11_0)
       (try clear hfz11_1)
       (try clear hfz14_0)
       (try clear hfz14_1)
       (try clear hfz16_0)
       (try clear hfz16_1)
       (try clear hfz30_0)
       (try clear hfz30_1)
       (try clear hfz36_0)
       (try clear hfz36_1)
       (try clear hfz39_0)
       (try clear hfz39_1)
       (try clear p2)
       obtain ⟨kq,x2_28,rfl,HA,HJ28,HO_1003000,HO_1003001,HO_1022000,HO_1022001,BK1002,BK1021,HB⟩:=hcut
       cases kq with
       | zero=>exact absurd HA.out (by simp [laws_FnWalMend.j1])
       | succ kj28 =>
        have H:=HA.out;clear HA;simp only [laws_FnWalMend.j1] at H;obtain rfl:=Option.some.inj H
        go_wp2
        go_ret
        exact ⟨by first|rfl|(simp [errW_none,errW_some]<;>rfl)|(simp [*,errW_none,errW_some]<;>rfl),pS HB.out⟩
     ·replace c25:=Bool.eq_false_iff.mpr c25;subst c25
      rw [if_neg (show ¬ (false=true) by decide)] at H
      obtain rfl:=Option.some.inj H;obtain ⟨Ao49,co49,eo49⟩:=Kd.R_slice HO_8.out;subst eo49
      go_wp2
      go_ret
      exact ⟨by first|rfl|(simp [errW_none,errW_some]<;>rfl)|(simp [*,errW_none,errW_some]<;>rfl),pS HB.out⟩

/-- THE ONE PURE STATEMENT of laws_FnWalMend: yours. -/
def laws_FnWalMend.Pure : Prop := ∀ (l0 : List Int), l0.length ≤ maxLen → l0.length * 1 ≤ 140737488351232 → (∀ x ∈ l0, (Lit.int .u8 x).wf = true) → ∃ k, laws_FnWalMend.f k l0 = some true
theorem laws_FnWalMend.walk (P : laws_FnWalMend.Pure) (a0 : Option Addr) (len0 cap0 : Nat) (z0 : List Int) (w : World) (w0 : (a0 = none ∧ len0 = 0 ∧ cap0 = 0 ∧ z0 = []) ∨ ∃ x, a0 = some x ∧ len0 ≤ cap0 ∧ cap0 ≤ maxLen ∧ z0.length = cap0 ∧ (∀ i, i < z0.length → w.cell? (x.add i) = some (.int .u8 (z0.getD i 0))) ∧ ∀ n ∈ z0, (Lit.int .u8 n).wf = true) (y0 : len0 * 1 ≤ 140737488351232) :
  Calls Try.prog 6 #[.slice a0 len0 cap0] w fun e w'=>e=.returned (.bool true)∧Below w.heap.size w w':=by
 obtain ⟨l0,rfl,hr0,hm0,hw0,hc0⟩:=ReadsInt.ofRowC w0;obtain ⟨k,h⟩:=P l0 hm0 y0 hw0;refine (laws_FnWalMend.calls k _ _ l0 true w (Kd.C_of_reads (d:=(0:Int)) (h1:=fun _=>rfl) hr0) hc0 h).mono ?_;rintro e w' ⟨rfl,hd⟩
 exact ⟨rfl,hd⟩

end Go.Proofs.Ythjocaegapchaaa.P
