-- printed by pprint.py (this session's program over the kit's printer) out of the translation. Lean checks it.
import Derived.Test.YthjocaegapchaaaPx0
import Derived.Test.YthjocaegapchaaaPx2
import Derived.Test.YthjocaegapchaaaPx4
import Derived.Test.YthjocaegapchaaaPx5
namespace Go.Proofs.Ythjocaegapchaaa.P
open Go.RowKit Go.Proofs.YthjocaegapchaaaX Go.Proofs.YthjocaegapchaaaW.PrintWords Go.Proofs.YthjocaegapchaaaW.PrintLast Go.Proofs.YthjocaegapchaaaW.PrintMore
attribute [local go_sem] max2_int min2_int max_two min_two max_three min_three max_four min_four   -- for this text's walks alone
set_option linter.unusedVariables false
set_option linter.unusedSimpArgs false

section
attribute [local go_sem] Go.Instr.field Go.asAgg
/-! ### spec_SecLook: function 59 -/
def spec_SecLook.f (k : Nat) (l0_0 : List ByteArray) (l0_1 : List (S75)) (a1 : Int) : Option (ByteArray) := (spec_SecOk.f k l0_0 l0_1).bind fun t462 => (if t462 = true then ((spec_l6In.f a1 0 (wrap64 ((l0_0.length : Int) - 1))).bind fun t463 => (if t463 = true then ((spec_SecFlush.f k l0_0 l0_1).bind fun bt464 => (if 0 ≤ a1 then (if a1 < (bt464.1.length : Int) then (some (rdOf ByteArray.empty bt464.1 a1)) else (none)) else (none))) else (some (⟨#[]⟩ : ByteArray)))) else (some (⟨#[]⟩ : ByteArray)))
theorem spec_SecLook.mono : ∀ a0 a1 a2 k, LeO (spec_SecLook.f k a0 a1 a2) (spec_SecLook.f (k + 1) a0 a1 a2) := by
 intro a0 a1 a2 k
 unfold spec_SecLook.f
 repeat' first
   | (with_reducible first|exact spec_SecFlush.mono _ _ _|exact spec_SecOk.mono _ _ _|exact LeO.refl _|exact LeO.none _|refine LeO.ite ?_ ?_|refine LeO.bind ?_ (fun _=>?_))|exact spec_SecFlush.mono _ _ _|exact spec_SecOk.mono _ _ _|exact LeO.none _|refine LeO.ite ?_ ?_|refine LeO.bind ?_ (fun _=>?_)
set_option maxHeartbeats 8000000 in
set_option maxRecDepth 100000 in
theorem spec_SecLook.calls (k : Nat) (A0_0 : Option Addr) (c0_0 : Nat) (l0_0 : List ByteArray) (A0_1 : Option Addr) (c0_1 : Nat) (l0_1 : List (S75)) (a1 : Int) (r : ByteArray) (w : World) (hr0_0 : Kd.C Kd.string w A0_0 l0_0.length l0_0) (hc0_0 : l0_0.length ≤ c0_0) (hr0_1 : Kd.C k75 w A0_1 l0_1.length l0_1) (hc0_1 : l0_1.length ≤ c0_1) (h : spec_SecLook.f k l0_0 l0_1 a1 = some r) :
  Calls Try.prog 59 #[.agg #[.slice A0_0 l0_0.length c0_0,.slice A0_1 l0_1.length c0_1],.int .i64 a1] w fun e w'=>e=.returned (.string r)∧Below w.heap.size w w':=by
 have hu31:=Try.underlying31;have HR0_0:=Aside0.mk hr0_0;have HC0_0:=Aside0.mk hc0_0;clear hr0_0 hc0_0;have HR0_1:=Aside0.mk hr0_1;have HC0_1:=Aside0.mk hc0_1;clear hr0_1 hc0_1;have HB:=Aside0.mk (Below.refl w.heap.size w);have H:((spec_SecOk.f k l0_0 l0_1).bind fun t462=>(if t462=true then ((spec_l6In.f a1 0 (wrap64 ((l0_0.length:Int) - 1))).bind fun t463=>(if t463=true then ((spec_SecFlush.f k l0_0 l0_1).bind fun bt464=>(if 0≤a1 then (if a1<(bt464.1.length:Int) then (some (rdOf ByteArray.empty bt464.1 a1)) else (none)) else (none))) else (some (⟨#[]⟩:ByteArray)))) else (some (⟨#[]⟩:ByteArray))))=some r:=h;clear h;replace H:=Option.bind_eq_some_iff.mp H;obtain ⟨t462,A30,H⟩:=H
 (try dsimp only at H)
 have A3:=Aside0.mk A30;clear A30
 by_cases c4:t462=true
 ·subst c4;rw [if_pos rfl] at H;replace H:=Option.bind_eq_some_iff.mp H;obtain ⟨t463,A50,H⟩:=H
  (try dsimp only at H)
  have A5:=Aside0.mk A50;clear A50
  by_cases c6:t463=true
  ·subst c6;rw [if_pos rfl] at H;replace H:=Option.bind_eq_some_iff.mp H;obtain ⟨⟨t464,t467⟩,A70,H⟩:=H
   (try dsimp only at H)
   have A7:=Aside0.mk A70;clear A70
   by_cases c8:0≤a1
   ·rw [if_pos c8] at H;have c8b0:decide (0≤a1)=true:=decide_eq_true c8;clear c8
    by_cases c9:a1<(t464.length:Int)
    ·rw [if_pos c9] at H;have c9b0:decide (a1<(t464.length:Int))=true:=decide_eq_true c9;clear c9;obtain rfl:=Option.some.inj H
     go_enter Try.func59,Try.ntmps59
     go_wp2_with (first|((with_reducible refine gate_dst (N:=2) rfl ?_);(try (refine gate_guard (by rfl) ?_;dsimp only));refine box_event ?hg (N:=2) ?hd (cs:=#[.slice A0_0 l0_0.length c0_0,.slice A0_1 l0_1.length c0_1]) (t:=31) ?hr ?_;(case hd=>rfl);(case hg=>rfl);(case hr=>first|(go_simp;done)|(go_simp;rfl));intro gb461 hg w10 hbox hb;have n0_:=Aside0.mk (below_step (pB HB.out) hb);have n1_:=Aside0.mk (hbox);have n2_:=Aside0.mk ((by rw [hg];exact (below_size (pB HB.out)):w.heap.size≤gb461));have n3_:=Aside0.mk ((by rw [hg];exact (below_size (pB HB.out)):w.heap.size≤gb461));clear HB;have HB:=n0_;have BK461:=n1_;have GW461:=n2_;have GE461:=n3_;clear n0_ n1_ n2_ n3_;clear hb hbox hg;obtain ⟨hcz11_0,hcz11_1,hfz11_0,hfz11_1⟩:=box2 BK461.out)|((with_reducible refine gate_callee (f:=68) rfl ?_);refine goesL_ (some 6) rfl rfl Try.func68 (by kernel_rfl) rfl #[.agg #[.slice A0_0 l0_0.length c0_0,.slice A0_1 l0_1.length c0_1]] rfl bM ?_;(with_reducible refine (spec_SecOk.calls k _ _ l0_0 _ _ l0_1 true _ ?side1 ?side2 ?side3 ?side4 A3.out).mono ?_);(case side1=>exact pC (Kd.C_below HR0_0.out HB.out));(case side2=>exact HC0_0.out);(case side3=>exact pC (Kd.C_below HR0_1.out HB.out));(case side4=>exact HC0_1.out);rintro e w12 ⟨rfl,hb⟩;refine ⟨_,rfl,?_⟩;have n0_:=Aside0.mk (blk_below (pK BK461.out) hb);have n1_:=Aside0.mk (below_step (pS HB.out) hb);clear BK461;clear HB;have BK461:=n0_;have HB:=n1_;clear n0_ n1_;(try clear hb);(try clear hb2);(try clear hk);(try clear hi);obtain ⟨hcz13_0,hcz13_1,hfz13_0,hfz13_1⟩:=box2 BK461.out)|(go_at_call 84;(with_reducible refine (spec_l6In.calls a1 0 (wrap64 ((l0_0.length:Int) - 1)) true _ A5.out).mono ?_);rintro e w' ⟨rfl,⟨nd,rfl⟩⟩)|((with_reducible refine gate_callee (f:=45) rfl ?_);refine goesL_ (some 18) rfl rfl Try.func45 (by kernel_rfl) rfl #[.agg #[.slice A0_0 l0_0.length c0_0,.slice A0_1 l0_1.length c0_1]] rfl bM ?_;(with_reducible refine (spec_SecFlush.calls k _ _ l0_0 _ _ l0_1 t464 t467 _ ?side1 ?side2 ?side3 ?side4 A7.out).mono ?_);(case side1=>exact pC (Kd.C_below HR0_0.out (pS HB.out)));(case side2=>exact HC0_0.out);(case side3=>exact pC (Kd.C_below HR0_1.out (pS HB.out)));(case side4=>exact HC0_1.out);rintro e w14 ⟨v465,v468,rfl,ho0,ho1,hb⟩;refine ⟨_,rfl,?_⟩;have n0_:=Aside0.mk (Kd.R_lower ho0 (below_size (pS HB.out)));have n1_:=Aside0.mk (Kd.R_lower ho1 (below_size (pS HB.out)));have n2_:=Aside0.mk (blk_below (pK BK461.out) hb);have n3_:=Aside0.mk (below_step (pS HB.out) hb);clear BK461;clear HB;have HO466:=n0_;have HO469:=n1_;have BK461:=n2_;have HB:=n3_;clear n0_ n1_ n2_ n3_;(try clear hb);(try clear hb2);(try clear hk);(try clear hi);(try clear ho0);(try clear ho1);obtain ⟨Ao15,co15,eo15⟩:=Kd.R_slice HO466.out;subst eo15;have p470:0≤(a1:Int):=of_decide_eq_true bA;have q470:a1<(t464.length:Int):=of_decide_eq_true bA;obtain ⟨ad470,e470,hx470_0⟩:=Kd.at_string (Kd.R_reads' HO466.out).2.2 a1 p470 q470;cases e470;replace p470:=eq_true p470;replace q470:=eq_true q470))
     go_ret
     exact ⟨by first|rfl|(simp [errW_none,errW_some]<;>rfl)|(simp [*,errW_none,errW_some]<;>rfl),pS HB.out⟩
    ·rw [if_neg c9] at H
     exact absurd H (by simp)
   ·rw [if_neg c8] at H
    exact absurd H (by simp)
  ·replace c6:=Bool.eq_false_iff.mpr c6;subst c6
   rw [if_neg (show ¬ (false=true) by decide)] at H
   obtain rfl:=Option.some.inj H
   go_enter Try.func59,Try.ntmps59
   go_wp2_with (first|((with_reducible refine gate_dst (N:=2) rfl ?_);(try (refine gate_guard (by rfl) ?_;dsimp only));refine box_event ?hg (N:=2) ?hd (cs:=#[.slice A0_0 l0_0.length c0_0,.slice A0_1 l0_1.length c0_1]) (t:=31) ?hr ?_;(case hd=>rfl);(case hg=>rfl);(case hr=>first|(go_simp;done)|(go_simp;rfl));intro gb461 hg w16 hbox hb;have n0_:=Aside0.mk (below_step (pB HB.out) hb);have n1_:=Aside0.mk (hbox);have n2_:=Aside0.mk ((by rw [hg];exact (below_size (pB HB.out)):w.heap.size≤gb461));have n3_:=Aside0.mk ((by rw [hg];exact (below_size (pB HB.out)):w.heap.size≤gb461));clear HB;have HB:=n0_;have BK461:=n1_;have GW461:=n2_;have GE461:=n3_;clear n0_ n1_ n2_ n3_;clear hb hbox hg;obtain ⟨hcz17_0,hcz17_1,hfz17_0,hfz17_1⟩:=box2 BK461.out)|((with_reducible refine gate_callee (f:=68) rfl ?_);refine goesL_ (some 6) rfl rfl Try.func68 (by kernel_rfl) rfl #[.agg #[.slice A0_0 l0_0.length c0_0,.slice A0_1 l0_1.length c0_1]] rfl bM ?_;(with_reducible refine (spec_SecOk.calls k _ _ l0_0 _ _ l0_1 true _ ?side1 ?side2 ?side3 ?side4 A3.out).mono ?_);(case side1=>exact pC (Kd.C_below HR0_0.out HB.out));(case side2=>exact HC0_0.out);(case side3=>exact pC (Kd.C_below HR0_1.out HB.out));(case side4=>exact HC0_1.out);rintro e w18 ⟨rfl,hb⟩;refine ⟨_,rfl,?_⟩;have n0_:=Aside0.mk (blk_below (pK BK461.out) hb);have n1_:=Aside0.mk (below_step (pS HB.out) hb);clear BK461;clear HB;have BK461:=n0_;have HB:=n1_;clear n0_ n1_;(try clear hb);(try clear hb2);(try clear hk);(try clear hi);obtain ⟨hcz19_0,hcz19_1,hfz19_0,hfz19_1⟩:=box2 BK461.out)|(go_at_call 84;(with_reducible refine (spec_l6In.calls a1 0 (wrap64 ((l0_0.length:Int) - 1)) false _ A5.out).mono ?_);rintro e w' ⟨rfl,⟨nd,rfl⟩⟩))
   go_ret
   exact ⟨by first|rfl|(simp [errW_none,errW_some]<;>rfl)|(simp [*,errW_none,errW_some]<;>rfl),pS HB.out⟩
 ·replace c4:=Bool.eq_false_iff.mpr c4;subst c4
  rw [if_neg (show ¬ (false=true) by decide)] at H
  obtain rfl:=Option.some.inj H
  go_enter Try.func59,Try.ntmps59
  go_wp2_with (first|((with_reducible refine gate_dst (N:=2) rfl ?_);(try (refine gate_guard (by rfl) ?_;dsimp only));refine box_event ?hg (N:=2) ?hd (cs:=#[.slice A0_0 l0_0.length c0_0,.slice A0_1 l0_1.length c0_1]) (t:=31) ?hr ?_;(case hd=>rfl);(case hg=>rfl);(case hr=>first|(go_simp;done)|(go_simp;rfl));intro gb461 hg w20 hbox hb;have n0_:=Aside0.mk (below_step (pB HB.out) hb);have n1_:=Aside0.mk (hbox);have n2_:=Aside0.mk ((by rw [hg];exact (below_size (pB HB.out)):w.heap.size≤gb461));have n3_:=Aside0.mk ((by rw [hg];exact (below_size (pB HB.out)):w.heap.size≤gb461));clear HB;have HB:=n0_;have BK461:=n1_;have GW461:=n2_;have GE461:=n3_;clear n0_ n1_ n2_ n3_;clear hb hbox hg;obtain ⟨hcz21_0,hcz21_1,hfz21_0,hfz21_1⟩:=box2 BK461.out)|((with_reducible refine gate_callee (f:=68) rfl ?_);refine goesL_ (some 6) rfl rfl Try.func68 (by kernel_rfl) rfl #[.agg #[.slice A0_0 l0_0.length c0_0,.slice A0_1 l0_1.length c0_1]] rfl bM ?_;(with_reducible refine (spec_SecOk.calls k _ _ l0_0 _ _ l0_1 false _ ?side1 ?side2 ?side3 ?side4 A3.out).mono ?_);(case side1=>exact pC (Kd.C_below HR0_0.out HB.out));(case side2=>exact HC0_0.out);(case side3=>exact pC (Kd.C_below HR0_1.out HB.out));(case side4=>exact HC0_1.out);rintro e w22 ⟨rfl,hb⟩;refine ⟨_,rfl,?_⟩;have n0_:=Aside0.mk (blk_below (pK BK461.out) hb);have n1_:=Aside0.mk (below_step (pS HB.out) hb);clear BK461;clear HB;have BK461:=n0_;have HB:=n1_;clear n0_ n1_;(try clear hb);(try clear hb2);(try clear hk);(try clear hi)))
  go_ret
  exact ⟨by first|rfl|(simp [errW_none,errW_some]<;>rfl)|(simp [*,errW_none,errW_some]<;>rfl),pS HB.out⟩
end

/-! ### spec_WalSteps: function 26 -/
mutual
def spec_WalSteps.j0 : Nat → List ByteArray → List (S61) → List ByteArray → Bool → Option ((List (S61)) × Bool)
 | 0,_,_,_,_=>none
 | k+1,x1,x6,x7,x30=>if x30=true then (some (x6,false)) else (spec_WalSteps.l0 k x1 x6 x7 (([]:List (S75))) 0)
def spec_WalSteps.l0 : Nat → List ByteArray → List (S61) → List ByteArray → List (S75) → Int → Option ((List (S61)) × Bool)
 | 0,_,_,_,_,_=>none
 | k+1,x1,x6,x7,x9,x10=>if x10<(x1.length:Int) then (if 0≤x10 then (if ((rdOf ByteArray.empty x1 x10).size:Int) > 15 then (some (x6,false)) else (if x10<(x7.length:Int) then (if (rdOf ByteArray.empty x1 x10).toList=(rdOf ByteArray.empty x7 x10).toList then (spec_WalSteps.l0 k x1 x6 x7 x9 (wrap64 (x10+1))) else (if x9.length<5864062014805 then (spec_WalSteps.l0 k x1 x6 x7 (x9 ++ [(⟨x10,rdOf ByteArray.empty x1 x10⟩:S75)]) (wrap64 (x10+1))) else (none))) else (none))) else (none)) else (if (x9.length:Int)=0 then (some (x6,true)) else (spec_WalSteps.l1 k x9 (([]:List (S61))) 0))
def spec_WalSteps.l1 : Nat → List (S75) → List (S61) → Int → Option ((List (S61)) × Bool)
 | 0,_,_,_=>none
 | k+1,x9,x11,x12=>if x12<(x9.length:Int) then (if 0≤x12 then ((some (([((rd_T75 x9 x12).f0) % 256]:List Int):List Int)).bind fun y494=>(if (strOfNums y494).size+((rd_T75 x9 x12).f1).size≤9223372036854775807 then ((spec_l2Put.f (wrap64 (1+x12)) ((strOfNums y494) ++ ((rd_T75 x9 x12).f1))).bind fun bt498=>(if x11.length<4398046511104 then (spec_WalSteps.l1 k x9 (x11 ++ [(⟨bt498.1,bt498.2.1,bt498.2.2⟩:S61)]) (wrap64 (x12+1))) else (none))) else (none))) else (none)) else ((spec_l2Put.f 0 (strOfNums (([((x9.length:Int)) % 256]:List Int)))).bind fun bt507=>((some (([(⟨true,0,(⟨#[]⟩:ByteArray)⟩:S61),(⟨bt507.1,bt507.2.1,bt507.2.2⟩:S61),(⟨true,0,(⟨#[]⟩:ByteArray)⟩:S61)]:List (S61)):List (S61))).bind fun y510=>(if x11.length+y510.length<4398046511104 then ((some (x11 ++ y510:List (S61))).bind fun y513=>((spec_l2Apply.f k x9).bind fun t516=>(if y513.length+t516.length<4398046511104 then (some ((y513 ++ t516),true)) else (none)))) else (none))))
end
def spec_WalSteps.f (k : Nat) (l0_0 : List ByteArray) (l0_1 : List (S75)) (l1 : List ByteArray) : Option ((List (S61)) × Bool) := (some (([] : List (S61)) : List (S61))).bind fun y472 => ((spec_WalRead.f k l0_0 l0_1).bind fun bt475 => (if bt475.2 = true then (if (l1.length : Int) = 250 then ((spec_SecLook.f k l0_0 l0_1 0).bind fun t479 => (spec_WalSteps.j0 k l1 y472 bt475.1 (t479.toList != ([] : List UInt8)))) else (spec_WalSteps.j0 k l1 y472 bt475.1 true)) else (spec_WalSteps.j0 k l1 y472 bt475.1 true)))
theorem spec_WalSteps.mono_l : ∀ k, (∀ y0 y1 y2 y3, LeO (spec_WalSteps.j0 k y0 y1 y2 y3) (spec_WalSteps.j0 (k + 1) y0 y1 y2 y3)) ∧ (∀ y0 y1 y2 y3 y4, LeO (spec_WalSteps.l0 k y0 y1 y2 y3 y4) (spec_WalSteps.l0 (k + 1) y0 y1 y2 y3 y4)) ∧ (∀ y0 y1 y2, LeO (spec_WalSteps.l1 k y0 y1 y2) (spec_WalSteps.l1 (k + 1) y0 y1 y2))
 | 0=>⟨fun _ _ _ _ r h=>by simp [spec_WalSteps.j0] at h,fun _ _ _ _ _ r h=>by simp [spec_WalSteps.l0] at h,fun _ _ _ r h=>by simp [spec_WalSteps.l1] at h⟩
 | k+1=>by
  obtain ⟨ih0,ih1,ih2⟩:=spec_WalSteps.mono_l k;refine ⟨?_,?_,?_⟩
  ·intro y0 y1 y2 y3
   unfold spec_WalSteps.j0
   repeat' first
   | (with_reducible first|exact ih0 _ _ _ _|exact ih1 _ _ _ _ _|exact ih2 _ _ _|exact spec_SecLook.mono _ _ _ _|exact spec_WalRead.mono _ _ _|exact spec_l2Apply.mono _ _|exact LeO.refl _|exact LeO.none _|refine LeO.ite ?_ ?_|refine LeO.bind ?_ (fun _=>?_))|exact ih0 _ _ _ _|exact ih1 _ _ _ _ _|exact ih2 _ _ _|exact spec_SecLook.mono _ _ _ _|exact spec_WalRead.mono _ _ _|exact spec_l2Apply.mono _ _|exact LeO.none _|refine LeO.ite ?_ ?_|refine LeO.bind ?_ (fun _=>?_)
  ·intro y0 y1 y2 y3 y4
   unfold spec_WalSteps.l0
   repeat' first
   | (with_reducible first|exact ih0 _ _ _ _|exact ih1 _ _ _ _ _|exact ih2 _ _ _|exact spec_SecLook.mono _ _ _ _|exact spec_WalRead.mono _ _ _|exact spec_l2Apply.mono _ _|exact LeO.refl _|exact LeO.none _|refine LeO.ite ?_ ?_|refine LeO.bind ?_ (fun _=>?_))|exact ih0 _ _ _ _|exact ih1 _ _ _ _ _|exact ih2 _ _ _|exact spec_SecLook.mono _ _ _ _|exact spec_WalRead.mono _ _ _|exact spec_l2Apply.mono _ _|exact LeO.none _|refine LeO.ite ?_ ?_|refine LeO.bind ?_ (fun _=>?_)
  ·intro y0 y1 y2
   unfold spec_WalSteps.l1
   repeat' first
   | (with_reducible first|exact ih0 _ _ _ _|exact ih1 _ _ _ _ _|exact ih2 _ _ _|exact spec_SecLook.mono _ _ _ _|exact spec_WalRead.mono _ _ _|exact spec_l2Apply.mono _ _|exact LeO.refl _|exact LeO.none _|refine LeO.ite ?_ ?_|refine LeO.bind ?_ (fun _=>?_))|exact ih0 _ _ _ _|exact ih1 _ _ _ _ _|exact ih2 _ _ _|exact spec_SecLook.mono _ _ _ _|exact spec_WalRead.mono _ _ _|exact spec_l2Apply.mono _ _|exact LeO.none _|refine LeO.ite ?_ ?_|refine LeO.bind ?_ (fun _=>?_)
theorem spec_WalSteps.mono : ∀ a0 a1 a2 k, LeO (spec_WalSteps.f k a0 a1 a2) (spec_WalSteps.f (k + 1) a0 a1 a2) := by
 intro a0 a1 a2 k;obtain ⟨ih0,ih1,ih2⟩:=spec_WalSteps.mono_l k
 unfold spec_WalSteps.f
 repeat' first
   | (with_reducible first|exact ih0 _ _ _ _|exact ih1 _ _ _ _ _|exact ih2 _ _ _|exact spec_SecLook.mono _ _ _ _|exact spec_WalRead.mono _ _ _|exact spec_l2Apply.mono _ _|exact LeO.refl _|exact LeO.none _|refine LeO.ite ?_ ?_|refine LeO.bind ?_ (fun _=>?_))|exact ih0 _ _ _ _|exact ih1 _ _ _ _ _|exact ih2 _ _ _|exact spec_SecLook.mono _ _ _ _|exact spec_WalRead.mono _ _ _|exact spec_l2Apply.mono _ _|exact LeO.none _|refine LeO.ite ?_ ?_|refine LeO.bind ?_ (fun _=>?_)
def spec_WalSteps.T11 : Bool × List (List Nat × List Nat) := (true, [([], []), ([], []), ([0, 1], [0, 1]), ([2], [2]), ([], []), ([], []), ([4, 5], [4, 5]), ([6], [6]), ([3, 7], [3, 7])])
def spec_WalSteps.B11 : List Nat := [0, 0, 3, 7, 0, 0, 48, 112, 255]
theorem spec_WalSteps.tab11 : rtab .any (opsOf Try.f26 11) = spec_WalSteps.T11 := by kernel_rfl
theorem spec_WalSteps.bits11 : waitsOk spec_WalSteps.T11.2 spec_WalSteps.B11 = true := by kernel_rfl
def spec_WalSteps.T19 : Bool × List (List Nat × List Nat) := (true, [([], []), ([], []), ([1], [1]), ([], []), ([], []), ([3, 4], [3, 4]), ([5], [5]), ([6], [6]), ([7], [7]), ([8], [8]), ([9], [9]), ([], []), ([], []), ([11, 12], [11, 12]), ([13], [13]), ([14], [14]), ([10, 15], [10, 15]), ([2, 16], [2, 16]), ([17], [17]), ([0, 18, 17], [0, 18]), ([19, 19, 0, 1, 2, 3, 4, 5, 6, 7, 8, 9, 10, 11, 12, 13, 14, 15, 16, 17, 18, 19], [0, 19])])
def spec_WalSteps.B19 : List Nat := [0, 0, 2, 0, 0, 24, 56, 120, 248, 504, 1016, 0, 0, 6144, 14336, 30720, 65528, 131070, 262142, 524287, 1048575]
theorem spec_WalSteps.tab19 : rtab .any (opsOf Try.f26 19) = spec_WalSteps.T19 := by kernel_rfl
theorem spec_WalSteps.bits19 : waitsOk spec_WalSteps.T19.2 spec_WalSteps.B19 = true := by kernel_rfl
set_option maxHeartbeats 8000000 in
set_option maxRecDepth 100000 in
theorem spec_WalSteps.calls (k : Nat) (A0_0 : Option Addr) (c0_0 : Nat) (l0_0 : List ByteArray) (A0_1 : Option Addr) (c0_1 : Nat) (l0_1 : List (S75)) (A1 : Option Addr) (c1 : Nat) (l1 : List ByteArray) (r1 : List (S61)) (r2 : Bool) (w : World) (hr0_0 : Kd.C Kd.string w A0_0 l0_0.length l0_0) (hc0_0 : l0_0.length ≤ c0_0) (hr0_1 : Kd.C k75 w A0_1 l0_1.length l0_1) (hc0_1 : l0_1.length ≤ c0_1) (hr1 : Kd.C Kd.string w A1 l1.length l1) (hc1 : l1.length ≤ c1) (h : spec_WalSteps.f k l0_0 l0_1 l1 = some (r1, r2)) :
  Calls Try.prog 26 #[.agg #[.slice A0_0 l0_0.length c0_0,.slice A0_1 l0_1.length c0_1],.slice A1 l1.length c1] w fun e w'=>∃ v0_:Value,e=.returned (.tuple #[v0_,.bool r2])∧Kd.R k61 61 w' w.heap.size (fun _=>True) v0_ r1∧Below w.heap.size w w':=by
 have hu31:=Try.underlying31;have hu75:=Try.underlying75;have hu61:=Try.underlying61;have HR0_0:=Aside0.mk hr0_0;have HC0_0:=Aside0.mk hc0_0;clear hr0_0 hc0_0;have HR0_1:=Aside0.mk hr0_1;have HC0_1:=Aside0.mk hc0_1;clear hr0_1 hc0_1;have HR1:=Aside0.mk hr1;have HC1:=Aside0.mk hc1;clear hr1 hc1;have HB:=Aside0.mk (Below.refl w.heap.size w);have H:((some (([]:List (S61)):List (S61))).bind fun y472=>((spec_WalRead.f k l0_0 l0_1).bind fun bt475=>(if bt475.2=true then (if (l1.length:Int)=250 then ((spec_SecLook.f k l0_0 l0_1 0).bind fun t479=>(spec_WalSteps.j0 k l1 y472 bt475.1 (t479.toList != ([]:List UInt8)))) else (spec_WalSteps.j0 k l1 y472 bt475.1 true)) else (spec_WalSteps.j0 k l1 y472 bt475.1 true))))=some (r1,r2):=h;clear h;obtain ⟨y472,hy472⟩:∃ y_:List (S61),y_=(([]:List (S61))):=⟨_,rfl⟩
 replace H:((spec_WalRead.f k l0_0 l0_1).bind fun bt475=>(if bt475.2=true then (if (l1.length:Int)=250 then ((spec_SecLook.f k l0_0 l0_1 0).bind fun t479=>(spec_WalSteps.j0 k l1 y472 bt475.1 (t479.toList != ([]:List UInt8)))) else (spec_WalSteps.j0 k l1 y472 bt475.1 true)) else (spec_WalSteps.j0 k l1 y472 bt475.1 true)))=some (r1,r2):=by first|(rw [hy472];with_reducible exact H)|(have H2_:=(Option.bind_some _ _).symm.trans H;rw [hy472];with_reducible exact H2_)|(have H2_:=(Option.bind_some _ _).symm.trans H;with_reducible exact H2_)|with_reducible exact H|(rw [hy472];exact H)|exact H
 have Ny472:=Aside0.mk hy472;clear hy472;replace H:=Option.bind_eq_some_iff.mp H;obtain ⟨⟨t475,t478⟩,A30,H⟩:=H
 (try dsimp only at H)
 have A3:=Aside0.mk A30;clear A30;have HC4:=Aside0.mk H;clear H
 go_enter Try.func26,Try.ntmps26
 go_upto_region 3 with (first|((with_reducible refine gate_dst (N:=2) rfl ?_);(try (refine gate_guard (by rfl) ?_;dsimp only));refine box_event ?hg (N:=2) ?hd (cs:=#[.slice A0_0 l0_0.length c0_0,.slice A0_1 l0_1.length c0_1]) (t:=31) ?hr ?_;(case hd=>rfl);(case hg=>rfl);(case hr=>first|(go_simp;done)|(go_simp;rfl));intro gb471 hg w5 hbox hb;have n0_:=Aside0.mk (below_step (pB HB.out) hb);have n1_:=Aside0.mk (hbox);have n2_:=Aside0.mk ((by rw [hg];exact (below_size (pB HB.out)):w.heap.size≤gb471));have n3_:=Aside0.mk ((by rw [hg];exact (below_size (pB HB.out)):w.heap.size≤gb471));clear HB;have HB:=n0_;have BK471:=n1_;have GW471:=n2_;have GE471:=n3_;clear n0_ n1_ n2_ n3_;clear hb hbox hg)|((with_reducible refine gate_dst (N:=13) rfl ?_);(try (refine gate_guard (by rfl) ?_;dsimp only));refine Kd.R_lit k61 _ 61 ?hg (N:=13) ?hd (xs:=([]:List (S61))) (inner:=[]) (ok:=fun _=>True) (okp:=fun _=>True) ?hr ?hp (fun _ hk=>hk) trivial (Below.refl _ _) (Nat.le_refl _) (by simp) ?_;(case hd=>rfl);(case hg=>rfl);(case hr=>first|(go_simp;done)|(go_simp;rfl));(case hp=>exact (Reps.none _ _));intro v473 w6 ho7 hb hg_ hnew_;clear hg_ hnew_;(first|rw [← Ny472.out] at ho7|(simp only [Int.reduceToNat] at ho7;rw [← Ny472.out] at ho7));have n0_:=Aside0.mk (Kd.R_lower ho7 (below_size (pS HB.out)));have n1_:=Aside0.mk (blk_below (pK BK471.out) hb);have n2_:=Aside0.mk (below_step (pS HB.out) hb);clear BK471;clear HB;have HO474:=n0_;have BK471:=n1_;have HB:=n2_;clear n0_ n1_ n2_;clear hb ho7;obtain ⟨hcz8_0,hcz8_1,hfz8_0,hfz8_1⟩:=box2 BK471.out)|((with_reducible refine gate_callee (f:=12) rfl ?_);refine goesL_ (some 16) rfl rfl Try.func12 (by kernel_rfl) rfl #[.agg #[.slice A0_0 l0_0.length c0_0,.slice A0_1 l0_1.length c0_1]] rfl bM ?_;(with_reducible refine (spec_WalRead.calls k _ _ l0_0 _ _ l0_1 t475 t478 _ ?side1 ?side2 ?side3 ?side4 A3.out).mono ?_);(case side1=>exact pC (Kd.C_below HR0_0.out HB.out));(case side2=>exact HC0_0.out);(case side3=>exact pC (Kd.C_below HR0_1.out HB.out));(case side4=>exact HC0_1.out);rintro e w9 ⟨v476,rfl,ho0,hb⟩;refine ⟨_,rfl,?_⟩;have n0_:=Aside0.mk (Kd.R_below (pR HO474.out) hb);have n1_:=Aside0.mk (Kd.R_lower ho0 (below_size (pS HB.out)));have n2_:=Aside0.mk (blk_below (pK BK471.out) hb);have n3_:=Aside0.mk (below_step (pS HB.out) hb);clear HO474;clear BK471;clear HB;have HO474:=n0_;have HO477:=n1_;have BK471:=n2_;have HB:=n3_;clear n0_ n1_ n2_ n3_;(try clear hb);(try clear hb2);(try clear hk);(try clear hi);(try clear ho0)))
 (try simp only [Act.put,List.setIfInBounds_toArray,List.set_cons_zero,List.set_cons_succ])
 go_cut [30] (fun v30 wc=>∃ (kq:Nat) (x30_3:Bool),v30=.bool x30_3∧Aside0 (spec_WalSteps.j0 kq l1 y472 t475 x30_3=some (r1,r2))∧Aside0 (kq≤k)∧Aside0 (Kd.R k61 61 wc w.heap.size (fun _=>True) v473 y472)∧Aside0 (Kd.R Kd.string 9 wc w.heap.size (fun _=>True) v476 t475)∧Aside0 (wc.heap[gb471]?=some (.cells #[(.slice A0_0 l0_0.length c0_0),(.slice A0_1 l0_1.length c0_1)] 31 (0,0)))∧Aside0 (Below w.heap.size w wc))
 case first =>
  have H:=HC4.out;clear HC4
  by_cases c10:t478=true
  ·subst c10;rw [if_pos rfl] at H
   by_cases c11:(l1.length:Int)=250
   ·rw [if_pos c11] at H;have c11b0:((l1.length:Int) == 250)=true:=beq_iff_eq.mpr c11;have c11b1:((l1.length:Int) != 250)=false:=bne_eq_false_iff_eq.mpr c11;clear c11
    (first|rw [c11b0]|(simp only [i64_w,i32_w];rw [c11b0])|skip)
    replace H:=Option.bind_eq_some_iff.mp H;obtain ⟨t479,A120,H⟩:=H
    (try dsimp only at H)
    have A12:=Aside0.mk A120;clear A120;have H':=Aside0.mk H;clear H;obtain ⟨hcz13_0,hcz13_1,hfz13_0,hfz13_1⟩:=box2 BK471.out
    go_wp2_with (first|(go_at_call 59;(with_reducible refine (spec_SecLook.calls k _ _ l0_0 _ _ l0_1 0 t479 _ ?side1 ?side2 ?side3 ?side4 A12.out).mono ?_);(case side1=>exact pC (Kd.C_below HR0_0.out HB.out));(case side2=>exact HC0_0.out);(case side3=>exact pC (Kd.C_below HR0_1.out HB.out));(case side4=>exact HC0_1.out);rintro e w14 ⟨rfl,hb⟩;have n0_:=Aside0.mk (Kd.R_below (pR HO474.out) hb);have n1_:=Aside0.mk (Kd.R_below (pR HO477.out) hb);have n2_:=Aside0.mk (blk_below (pK BK471.out) hb);have n3_:=Aside0.mk (below_step (pS HB.out) hb);clear HO474;clear HO477;clear BK471;clear HB;have HO474:=n0_;have HO477:=n1_;have BK471:=n2_;have HB:=n3_;clear n0_ n1_ n2_ n3_;(try clear hb);(try clear hb2);(try clear hk);(try clear hi)))
    go_meet
    case rel=>exact ⟨_,((t479.toList != ([]:List UInt8))),(by first|rfl|(simp;done)|(simp [*];done)|(generalize t479.toList=z_;cases z_<;>first|rfl|simp)),H',⟨by first|omega|exact Nat.le_refl _⟩,⟨pR HO474.out⟩,⟨pR HO477.out⟩,⟨pK BK471.out⟩,⟨pS HB.out⟩⟩
   ·rw [if_neg c11] at H;have c11b0:((l1.length:Int) == 250)=false:=beq_eq_false_iff_ne.mpr c11;have c11b1:((l1.length:Int) != 250)=true:=bne_iff_ne.mpr c11
    (first|rw [c11b0]|(simp only [i64_w,i32_w];rw [c11b0])|skip)
    have H':=Aside0.mk H;clear H
    go_wp2
    go_meet
    case rel=>exact ⟨_,(true),(by first|rfl|(simp;done)|(simp [*];done)),H',⟨by first|omega|exact Nat.le_refl _⟩,⟨pR HO474.out⟩,⟨pR HO477.out⟩,⟨pK BK471.out⟩,⟨pS HB.out⟩⟩
  ·replace c10:=Bool.eq_false_iff.mpr c10;subst c10
   rw [if_neg (show ¬ (false=true) by decide)] at H
   have H':=Aside0.mk H;clear H
   go_wp2
   go_meet
   case rel=>exact ⟨_,(true),(by first|rfl|(simp;done)|(simp [*];done)),H',⟨by first|omega|exact Nat.le_refl _⟩,⟨pR HO474.out⟩,⟨pR HO477.out⟩,⟨pK BK471.out⟩,⟨pS HB.out⟩⟩
 case rest =>
  clear HC4
  (try clear c1)
  (try clear c2)
  (try clear p2)
  (try clear c10)
  (try clear c11)
  (try clear c11b0)
  (try clear c11b1)
  (try clear c12)
  (try clear hcz13_0)
  (try clear hcz13_1)
  (try clear hcz8_0)
  (try clear hcz8_1)
  (try clear hfz13_0)
  (try clear hfz13_1)
  (try clear hfz8_0)
  (try clear hfz8_1)
  obtain ⟨kq,x30_3,rfl,HA,HJ3,HO_6,HO_7,BK471,HB⟩:=hcut
  cases kq with
  | zero=>exact absurd HA.out (by simp [spec_WalSteps.j0])
  | succ kj3 =>
   have H:=HA.out;clear HA;simp only [spec_WalSteps.j0] at H
   by_cases c15:x30_3=true
   ·subst c15;rw [if_pos rfl] at H;simp only [Option.some.injEq,Prod.mk.injEq] at H;obtain ⟨rfl,rfl⟩:=H
    go_wp2
    go_ret2
    exact ⟨_,by first|rfl|(simp [errW_none,errW_some]<;>rfl)|(simp [*,errW_none,errW_some]<;>rfl),pR HO_6.out,pS HB.out⟩
   ·replace c15:=Bool.eq_false_iff.mpr c15;subst c15
    rw [if_neg (show ¬ (false=true) by decide)] at H
    obtain ⟨y480,hy480⟩:∃ y_:List (S75),y_=(([]:List (S75))):=⟨_,rfl⟩
    replace H:(spec_WalSteps.l0 kj3 l1 y472 t475 y480 0)=some (r1,r2):=by first|(rw [hy480];with_reducible exact H)|(have H2_:=(Option.bind_some _ _).symm.trans H;rw [hy480];with_reducible exact H2_)|(have H2_:=(Option.bind_some _ _).symm.trans H;with_reducible exact H2_)|with_reducible exact H|(rw [hy480];exact H)|exact H
    have Ny480:=Aside0.mk hy480;clear hy480;have H':=Aside0.mk H;clear H
    go_wp2_with (first|((with_reducible refine gate_dst (N:=32) rfl ?_);(try (refine gate_guard (by rfl) ?_;dsimp only));refine Kd.R_lit k75 _ 75 ?hg (N:=32) ?hd (xs:=([]:List (S75))) (inner:=[]) (ok:=fun _=>True) (okp:=fun _=>True) ?hr ?hp (fun _ hk=>hk) trivial (Below.refl _ _) (Nat.le_refl _) (by simp) ?_;(case hd=>rfl);(case hg=>rfl);(case hr=>first|(go_simp;done)|(go_simp;rfl));(case hp=>exact (Reps.none _ _));intro v481 w16 ho17 hb hg_ hnew_;clear hg_ hnew_;(first|rw [← Ny480.out] at ho17|(simp only [Int.reduceToNat] at ho17;rw [← Ny480.out] at ho17));have n0_:=Aside0.mk (Kd.R_below (pR HO_6.out) hb);have n1_:=Aside0.mk (Kd.R_below (pR HO_7.out) hb);have n2_:=Aside0.mk (Kd.R_lower ho17 (below_size (pS HB.out)));have n3_:=Aside0.mk (blk_below (pK BK471.out) hb);have n4_:=Aside0.mk (below_step (pS HB.out) hb);clear HO_6;clear HO_7;clear BK471;clear HB;have HO_6:=n0_;have HO_7:=n1_;have HO482:=n2_;have BK471:=n3_;have HB:=n4_;clear n0_ n1_ n2_ n3_ n4_;clear hb ho17))
    go_loopg [9,10] kj3 (fun kq v9 v10 w'=>∃ (x9_2:List (S75)) (x10_2:Int),v10=.int .i64 x10_2∧Aside0 (spec_WalSteps.l0 kq l1 y472 t475 x9_2 x10_2=some (r1,r2))∧Aside0 (kq≤kj3)∧Aside0 (Kd.R k61 61 w' w.heap.size (fun _=>True) v473 y472)∧Aside0 (Kd.R Kd.string 9 w' w.heap.size (fun _=>True) v476 t475)∧Aside0 (Kd.R k75 75 w' w.heap.size (fun _=>True) v9 x9_2)∧Aside0 (w'.heap[gb471]?=some (.cells #[(.slice A0_0 l0_0.length c0_0),(.slice A0_1 l0_1.length c0_1)] 31 (0,0)))∧Aside0 (Below w.heap.size w w'))
    case atStart=>exact ⟨(y480),(0),(by first|rfl|(simp;done)|(simp [*];done)),H',⟨Nat.le_refl _⟩,⟨pR HO_6.out⟩,⟨pR HO_7.out⟩,⟨pR HO482.out⟩,⟨pK BK471.out⟩,⟨pS HB.out⟩⟩
    case round =>
     clear H'
     (try clear c1)
     (try clear c2)
     (try clear p2)
     (try clear c10)
     (try clear c11)
     (try clear c11b0)
     (try clear c11b1)
     (try clear c12)
     (try clear c15)
     (try clear hcz13_0)
     (try clear hcz13_1)
     (try clear hcz8_0)
     (try clear hcz8_1)
     (try clear hfz13_0)
     (try clear hfz13_1)
     (try clear hfz8_0)
     (try clear hfz8_1)
     (try clear p2)
     obtain ⟨x9_2,x10_2,rfl,HA,HK2,HO_6,HO_7,HO_9,BK471,HB⟩:=hrel
     cases gk with
     | zero=>exact absurd HA.out (by simp [spec_WalSteps.l0])
     | succ k2 =>
      have H:=HA.out;clear HA;simp only [spec_WalSteps.l0] at H
      by_cases c18:x10_2<(l1.length:Int)
      ·rw [if_pos c18] at H;have c18b0:decide (x10_2<(l1.length:Int))=true:=decide_eq_true c18;clear c18
       by_cases c19:0≤x10_2
       ·rw [if_pos c19] at H;have c19b0:decide (0≤x10_2)=true:=decide_eq_true c19;clear c19
        by_cases c20:((rdOf ByteArray.empty l1 x10_2).size:Int) > 15
        ·rw [if_pos c20] at H;have c20b0:decide (15<((rdOf ByteArray.empty l1 x10_2).size:Int))=true:=decide_eq_true c20
         have c20b1:decide (15<(rdOf ByteArray.empty l1 x10_2).size)=true:=decide_eq_true (by omega)
         clear c20;simp only [Option.some.injEq,Prod.mk.injEq] at H;obtain ⟨rfl,rfl⟩:=H;have p483:0≤(x10_2:Int):=of_decide_eq_true bA;have q483:x10_2<(l1.length:Int):=of_decide_eq_true bA;obtain ⟨ad483,e483,hx483_0⟩:=Kd.at_string HR1.out x10_2 p483 q483;cases e483;replace hx483_0:=(HB.out.cell (World.block_lt_of_cell? w _ hx483_0)).trans hx483_0;replace p483:=eq_true p483;replace q483:=eq_true q483
         go_wp2
         go_ret2
         exact ⟨_,by first|rfl|(simp [errW_none,errW_some]<;>rfl)|(simp [*,errW_none,errW_some]<;>rfl),pR HO_6.out,pS HB.out⟩
        ·rw [if_neg c20] at H;have c20b0:decide (15<((rdOf ByteArray.empty l1 x10_2).size:Int))=false:=decide_eq_false c20
         have c20b1:decide (15<(rdOf ByteArray.empty l1 x10_2).size)=false:=decide_eq_false (by omega)
         clear c20
         by_cases c21:x10_2<(t475.length:Int)
         ·rw [if_pos c21] at H;have c21b0:decide (x10_2<(t475.length:Int))=true:=decide_eq_true c21;clear c21
          by_cases c22:(rdOf ByteArray.empty l1 x10_2).toList=(rdOf ByteArray.empty t475 x10_2).toList
          ·rw [if_pos c22] at H;have c22b0:((rdOf ByteArray.empty l1 x10_2).toList == (rdOf ByteArray.empty t475 x10_2).toList)=true:=beq_iff_eq.mpr c22;have c22b1:((rdOf ByteArray.empty l1 x10_2).toList != (rdOf ByteArray.empty t475 x10_2).toList)=false:=bne_eq_false_iff_eq.mpr c22;clear c22;have H':=Aside0.mk H;clear H;have p483:0≤(x10_2:Int):=of_decide_eq_true bA;have q483:x10_2<(l1.length:Int):=of_decide_eq_true bA;obtain ⟨ad483,e483,hx483_0⟩:=Kd.at_string HR1.out x10_2 p483 q483;cases e483;replace hx483_0:=(HB.out.cell (World.block_lt_of_cell? w _ hx483_0)).trans hx483_0;replace p483:=eq_true p483;replace q483:=eq_true q483
           try go_wp2
           have n0_:=Aside0.mk (Kd.R_drew HO_6.out);have n1_:=Aside0.mk (Kd.R_drew HO_7.out);have n2_:=Aside0.mk (Kd.R_drew HO_9.out);have n3_:=Aside0.mk (blk_drew BK471.out);have n4_:=Aside0.mk (below_drew1 HB.out);clear HO_6;clear HO_7;clear HO_9;clear BK471;clear HB;have HO_6:=n0_;have HO_7:=n1_;have HO_9:=n2_;have BK471:=n3_;have HB:=n4_;clear n0_ n1_ n2_ n3_ n4_;have p484:0≤(x10_2:Int):=of_decide_eq_true bA;have q484:x10_2<(l1.length:Int):=of_decide_eq_true bA;obtain ⟨ad484,e484,hx484_0⟩:=Kd.at_string HR1.out x10_2 p484 q484;have hw484_0:=hx484_0
           obtain rfl:ad483=ad484:=(by injection e484)
           replace hx484_0:=(HB.out.cell (World.block_lt_of_cell? w _ hx484_0)).trans hx484_0;replace p484:=eq_true p484;replace q484:=eq_true q484;obtain ⟨Ao24,co24,eo24⟩:=Kd.R_slice HO_7.out
           (first|subst eo24|(injection eo24 with f1_ f2_ f3_;have f4_:=f1_.symm;have f5_:=f3_.symm;clear f1_ f2_ f3_;subst f4_;subst f5_))
           have p485:0≤(x10_2:Int):=of_decide_eq_true bA;have q485:x10_2<(t475.length:Int):=of_decide_eq_true bA;obtain ⟨ad485,e485,hx485_0⟩:=Kd.at_string (Kd.R_reads' HO_7.out).2.2 x10_2 p485 q485;cases e485;replace p485:=eq_true p485;replace q485:=eq_true q485
           refine start_ (n:=9) (S:=fun w'=>w'.cell? (ad483.add (x10_2).toNat)=some (.string (rdOf ByteArray.empty l1 x10_2))∧w'.cell? (ad485.add (x10_2).toNat)=some (.string (rdOf ByteArray.empty t475 x10_2))) (ds:=[]) #[false,false,false,false,false,false,false,false,false] (by kernel_rfl) rfl rfl ⟨((HB.out.cell (World.block_lt_of_cell? w _ hw484_0)).trans hw484_0),hx485_0⟩ (fun hHeld=>?_);refine with_tabW spec_WalSteps.tab11 spec_WalSteps.bits11 (fun HT_ HW_=>?_)
           generalize wr.drew=w23 at HO_6 HO_7 HO_9 BK471 HB hx484_0 hx485_0 hHeld ⊢
           refine pure_ (i:=0) (N:=some 46) (v:=?_) (a':=?_) #[true,false,false,false,false,false,false,false,false] rfl rfl (any_of HT_.out (by kernel_rfl)) (fun _ _ _ h=>h) (Or.inl ⟨by rfl,?_⟩) ?_ ?_
           rotate_left
           ·intro w';go_simp;with_reducible rfl
           rotate_left
           ·simp only [Act.put,List.setIfInBounds_toArray,List.set_cons_zero,List.set_cons_succ,i64_w,i32_w];rfl
           refine pure_ (i:=1) (N:=some 47) (v:=?_) (a':=?_) #[true,true,false,false,false,false,false,false,false] rfl rfl (any_of HT_.out (by kernel_rfl)) (fun _ _ _ h=>h) (Or.inl ⟨by rfl,?_⟩) ?_ ?_
           rotate_left
           ·intro w';go_simp;with_reducible rfl
           rotate_left
           ·simp only [Act.put,List.setIfInBounds_toArray,List.set_cons_zero,List.set_cons_succ,i64_w,i32_w];rfl
           refine pure_ (i:=2) (N:=some 48) (v:=?_) (a':=?_) #[true,true,true,false,false,false,false,false,false] rfl rfl (any_of HT_.out (by kernel_rfl)) (fun _ _ _ h=>h) (Or.inl ⟨by rfl,?_⟩) ?_ ?_
           rotate_left
           ·intro w';go_simp;with_reducible rfl
           rotate_left
           ·simp only [Act.put,List.setIfInBounds_toArray,List.set_cons_zero,List.set_cons_succ,i64_w,i32_w];rfl
           refine pure_ (i:=4) (N:=some 50) (v:=?_) (a':=?_) #[true,true,true,false,true,false,false,false,false] rfl rfl (any_of HT_.out (by kernel_rfl)) (fun _ _ _ h=>h) (Or.inl ⟨by rfl,?_⟩) ?_ ?_
           rotate_left
           ·intro w';go_simp;with_reducible rfl
           rotate_left
           ·simp only [Act.put,List.setIfInBounds_toArray,List.set_cons_zero,List.set_cons_succ,i64_w,i32_w];rfl
           refine pure_ (i:=5) (N:=some 51) (v:=?_) (a':=?_) #[true,true,true,false,true,true,false,false,false] rfl rfl (any_of HT_.out (by kernel_rfl)) (fun _ _ _ h=>h) (Or.inl ⟨by rfl,?_⟩) ?_ ?_
           rotate_left
           ·intro w';go_simp;with_reducible rfl
           rotate_left
           ·simp only [Act.put,List.setIfInBounds_toArray,List.set_cons_zero,List.set_cons_succ,i64_w,i32_w];rfl
           refine pure_ (i:=6) (N:=some 52) (v:=?_) (a':=?_) #[true,true,true,false,true,true,true,false,false] rfl rfl (any_of HT_.out (by kernel_rfl)) (fun _ _ _ h=>h) (Or.inl ⟨by rfl,?_⟩) ?_ ?_
           rotate_left
           ·intro w';go_simp;with_reducible rfl
           rotate_left
           ·simp only [Act.put,List.setIfInBounds_toArray,List.set_cons_zero,List.set_cons_succ,i64_w,i32_w];rfl
           refine take_ (i:=3) (N:=some 49) (v:=?_) (a':=?_) #[true,true,true,true,true,true,true,false,false] rfl rfl (take_ofW HT_.out HW_.out (by kernel_rfl)) (fun _ _ _ h=>h) (Or.inl ⟨by rfl,?_⟩) hHeld ?_ ?_
           rotate_left
           ·rintro w' ⟨s0,s1⟩;go_simp;with_reducible rfl
           rotate_left
           ·simp only [Act.put,List.setIfInBounds_toArray,List.set_cons_zero,List.set_cons_succ,i64_w,i32_w];rfl
           refine take_ (i:=7) (N:=some 53) (v:=?_) (a':=?_) #[true,true,true,true,true,true,true,true,false] rfl rfl (take_ofW HT_.out HW_.out (by kernel_rfl)) (fun _ _ _ h=>h) (Or.inl ⟨by rfl,?_⟩) hHeld ?_ ?_
           rotate_left
           ·rintro w' ⟨s0,s1⟩;go_simp;with_reducible rfl
           rotate_left
           ·simp only [Act.put,List.setIfInBounds_toArray,List.set_cons_zero,List.set_cons_succ,i64_w,i32_w];rfl
           refine pure_ (i:=8) (N:=some 54) (v:=?_) (a':=?_) #[true,true,true,true,true,true,true,true,true] rfl rfl (any_of HT_.out (by kernel_rfl)) (fun _ _ _ h=>h) (Or.inl ⟨by rfl,?_⟩) ?_ ?_
           rotate_left
           ·intro w';go_simp;with_reducible rfl
           rotate_left
           ·simp only [Act.put,List.setIfInBounds_toArray,List.set_cons_zero,List.set_cons_succ,i64_w,i32_w];rfl
           refine done_ (done_of HT_.out (by kernel_rfl)) ?_
           try go_wp2
           go_roundg k2
           case measure=>have:=HJ3.out;have:=HK2.out;omega
           case rel=>exact ⟨(x9_2),(wrap64 (x10_2+1)),(by first|rfl|(simp;done)|(simp [*];done)),H',⟨by have:=HJ3.out;have:=HK2.out;omega⟩,⟨pR HO_6.out⟩,⟨pR HO_7.out⟩,⟨pR HO_9.out⟩,⟨pK BK471.out⟩,⟨pS HB.out⟩⟩
          ·rw [if_neg c22] at H;have c22b0:((rdOf ByteArray.empty l1 x10_2).toList == (rdOf ByteArray.empty t475 x10_2).toList)=false:=beq_eq_false_iff_ne.mpr c22;have c22b1:((rdOf ByteArray.empty l1 x10_2).toList != (rdOf ByteArray.empty t475 x10_2).toList)=true:=bne_iff_ne.mpr c22
           by_cases c25:x9_2.length<5864062014805
           ·rw [if_pos c25] at H;have LMc25:=Aside0.mk c25;clear c25;obtain ⟨y487,hy487⟩:∃ y_:List (S75),y_=(x9_2 ++ [(⟨x10_2,rdOf ByteArray.empty l1 x10_2⟩:S75)]):=⟨_,rfl⟩
            replace H:(spec_WalSteps.l0 k2 l1 y472 t475 y487 (wrap64 (x10_2+1)))=some (r1,r2):=by first|(rw [hy487];with_reducible exact H)|(have H2_:=(Option.bind_some _ _).symm.trans H;rw [hy487];with_reducible exact H2_)|(have H2_:=(Option.bind_some _ _).symm.trans H;with_reducible exact H2_)|with_reducible exact H|(rw [hy487];exact H)|exact H
            have Ny487:=Aside0.mk hy487;clear hy487;have H':=Aside0.mk H;clear H;have p483:0≤(x10_2:Int):=of_decide_eq_true bA;have q483:x10_2<(l1.length:Int):=of_decide_eq_true bA;obtain ⟨ad483,e483,hx483_0⟩:=Kd.at_string HR1.out x10_2 p483 q483;cases e483;replace hx483_0:=(HB.out.cell (World.block_lt_of_cell? w _ hx483_0)).trans hx483_0;replace p483:=eq_true p483;replace q483:=eq_true q483
            try go_wp2
            have n0_:=Aside0.mk (Kd.R_drew HO_6.out);have n1_:=Aside0.mk (Kd.R_drew HO_7.out);have n2_:=Aside0.mk (Kd.R_drew HO_9.out);have n3_:=Aside0.mk (blk_drew BK471.out);have n4_:=Aside0.mk (below_drew1 HB.out);clear HO_6;clear HO_7;clear HO_9;clear BK471;clear HB;have HO_6:=n0_;have HO_7:=n1_;have HO_9:=n2_;have BK471:=n3_;have HB:=n4_;clear n0_ n1_ n2_ n3_ n4_;have p484:0≤(x10_2:Int):=of_decide_eq_true bA;have q484:x10_2<(l1.length:Int):=of_decide_eq_true bA;obtain ⟨ad484,e484,hx484_0⟩:=Kd.at_string HR1.out x10_2 p484 q484;have hw484_0:=hx484_0
            obtain rfl:ad483=ad484:=(by injection e484)
            replace hx484_0:=(HB.out.cell (World.block_lt_of_cell? w _ hx484_0)).trans hx484_0;replace p484:=eq_true p484;replace q484:=eq_true q484;obtain ⟨Ao27,co27,eo27⟩:=Kd.R_slice HO_7.out
            (first|subst eo27|(injection eo27 with f1_ f2_ f3_;have f4_:=f1_.symm;have f5_:=f3_.symm;clear f1_ f2_ f3_;subst f4_;subst f5_))
            have p485:0≤(x10_2:Int):=of_decide_eq_true bA;have q485:x10_2<(t475.length:Int):=of_decide_eq_true bA;obtain ⟨ad485,e485,hx485_0⟩:=Kd.at_string (Kd.R_reads' HO_7.out).2.2 x10_2 p485 q485;cases e485;replace p485:=eq_true p485;replace q485:=eq_true q485
            refine start_ (n:=9) (S:=fun w'=>w'.cell? (ad483.add (x10_2).toNat)=some (.string (rdOf ByteArray.empty l1 x10_2))∧w'.cell? (ad485.add (x10_2).toNat)=some (.string (rdOf ByteArray.empty t475 x10_2))) (ds:=[]) #[false,false,false,false,false,false,false,false,false] (by kernel_rfl) rfl rfl ⟨((HB.out.cell (World.block_lt_of_cell? w _ hw484_0)).trans hw484_0),hx485_0⟩ (fun hHeld=>?_);refine with_tabW spec_WalSteps.tab11 spec_WalSteps.bits11 (fun HT_ HW_=>?_)
            generalize wr.drew=w26 at HO_6 HO_7 HO_9 BK471 HB hx484_0 hx485_0 hHeld ⊢
            refine pure_ (i:=0) (N:=some 46) (v:=?_) (a':=?_) #[true,false,false,false,false,false,false,false,false] rfl rfl (any_of HT_.out (by kernel_rfl)) (fun _ _ _ h=>h) (Or.inl ⟨by rfl,?_⟩) ?_ ?_
            rotate_left
            ·intro w';go_simp;with_reducible rfl
            rotate_left
            ·simp only [Act.put,List.setIfInBounds_toArray,List.set_cons_zero,List.set_cons_succ,i64_w,i32_w];rfl
            refine pure_ (i:=1) (N:=some 47) (v:=?_) (a':=?_) #[true,true,false,false,false,false,false,false,false] rfl rfl (any_of HT_.out (by kernel_rfl)) (fun _ _ _ h=>h) (Or.inl ⟨by rfl,?_⟩) ?_ ?_
            rotate_left
            ·intro w';go_simp;with_reducible rfl
            rotate_left
            ·simp only [Act.put,List.setIfInBounds_toArray,List.set_cons_zero,List.set_cons_succ,i64_w,i32_w];rfl
            refine pure_ (i:=2) (N:=some 48) (v:=?_) (a':=?_) #[true,true,true,false,false,false,false,false,false] rfl rfl (any_of HT_.out (by kernel_rfl)) (fun _ _ _ h=>h) (Or.inl ⟨by rfl,?_⟩) ?_ ?_
            rotate_left
            ·intro w';go_simp;with_reducible rfl
            rotate_left
            ·simp only [Act.put,List.setIfInBounds_toArray,List.set_cons_zero,List.set_cons_succ,i64_w,i32_w];rfl
            refine pure_ (i:=4) (N:=some 50) (v:=?_) (a':=?_) #[true,true,true,false,true,false,false,false,false] rfl rfl (any_of HT_.out (by kernel_rfl)) (fun _ _ _ h=>h) (Or.inl ⟨by rfl,?_⟩) ?_ ?_
            rotate_left
            ·intro w';go_simp;with_reducible rfl
            rotate_left
            ·simp only [Act.put,List.setIfInBounds_toArray,List.set_cons_zero,List.set_cons_succ,i64_w,i32_w];rfl
            refine pure_ (i:=5) (N:=some 51) (v:=?_) (a':=?_) #[true,true,true,false,true,true,false,false,false] rfl rfl (any_of HT_.out (by kernel_rfl)) (fun _ _ _ h=>h) (Or.inl ⟨by rfl,?_⟩) ?_ ?_
            rotate_left
            ·intro w';go_simp;with_reducible rfl
            rotate_left
            ·simp only [Act.put,List.setIfInBounds_toArray,List.set_cons_zero,List.set_cons_succ,i64_w,i32_w];rfl
            refine pure_ (i:=6) (N:=some 52) (v:=?_) (a':=?_) #[true,true,true,false,true,true,true,false,false] rfl rfl (any_of HT_.out (by kernel_rfl)) (fun _ _ _ h=>h) (Or.inl ⟨by rfl,?_⟩) ?_ ?_
            rotate_left
            ·intro w';go_simp;with_reducible rfl
            rotate_left
            ·simp only [Act.put,List.setIfInBounds_toArray,List.set_cons_zero,List.set_cons_succ,i64_w,i32_w];rfl
            refine take_ (i:=3) (N:=some 49) (v:=?_) (a':=?_) #[true,true,true,true,true,true,true,false,false] rfl rfl (take_ofW HT_.out HW_.out (by kernel_rfl)) (fun _ _ _ h=>h) (Or.inl ⟨by rfl,?_⟩) hHeld ?_ ?_
            rotate_left
            ·rintro w' ⟨s0,s1⟩;go_simp;with_reducible rfl
            rotate_left
            ·simp only [Act.put,List.setIfInBounds_toArray,List.set_cons_zero,List.set_cons_succ,i64_w,i32_w];rfl
            refine take_ (i:=7) (N:=some 53) (v:=?_) (a':=?_) #[true,true,true,true,true,true,true,true,false] rfl rfl (take_ofW HT_.out HW_.out (by kernel_rfl)) (fun _ _ _ h=>h) (Or.inl ⟨by rfl,?_⟩) hHeld ?_ ?_
            rotate_left
            ·rintro w' ⟨s0,s1⟩;go_simp;with_reducible rfl
            rotate_left
            ·simp only [Act.put,List.setIfInBounds_toArray,List.set_cons_zero,List.set_cons_succ,i64_w,i32_w];rfl
            refine pure_ (i:=8) (N:=some 54) (v:=?_) (a':=?_) #[true,true,true,true,true,true,true,true,true] rfl rfl (any_of HT_.out (by kernel_rfl)) (fun _ _ _ h=>h) (Or.inl ⟨by rfl,?_⟩) ?_ ?_
            rotate_left
            ·intro w';go_simp;with_reducible rfl
            rotate_left
            ·simp only [Act.put,List.setIfInBounds_toArray,List.set_cons_zero,List.set_cons_succ,i64_w,i32_w];rfl
            refine done_ (done_of HT_.out (by kernel_rfl)) ?_
            have p486:0≤(x10_2:Int):=of_decide_eq_true bA;have q486:x10_2<(l1.length:Int):=of_decide_eq_true bA;obtain ⟨ad486,e486,hx486_0⟩:=Kd.at_string HR1.out x10_2 p486 q486
            obtain rfl:ad483=ad486:=(by injection e486)
            replace hx486_0:=(HB.out.cell (World.block_lt_of_cell? w _ hx486_0)).trans hx486_0;replace p486:=eq_true p486;replace q486:=eq_true q486
            try go_wp2_with (first|((with_reducible refine gate_builtin (b:=.append) (xs:=#[.tmp 55,.tmp 62]) rfl ?_);(try (refine gate_guard (by rfl) ?_;dsimp only));at_builtin;refine Kd.R_append k75 (w0:=w) w.heap.size rfl (.tmp 55) (.tmp 62) 29 75 (.agg #[(.int .i64 0),(.string ⟨#[]⟩)]) 24 rfl Try.underlying29 info75 rfl (by decide) (by omega) u9 x9_2 (⟨x10_2,rdOf ByteArray.empty l1 x10_2⟩:S75) [.int .i64 x10_2,.string (rdOf ByteArray.empty l1 x10_2)] (fun _=>True) (fun _=>False) rfl rfl ?aP (fun _ hk=>hk.elim) ?aF ?aO ?aB ?aS ?aL ?_;(case aP=>exact k75_mkM _ _ _ (⟨x10_2,rdOf ByteArray.empty l1 x10_2⟩:S75));(case aB=>exact (pS HB.out));(case aF=>exact (fun _ _=>trivial));(case aO=>exact (pR HO_9.out));(case aS=>exact (below_size (pS HB.out)));(case aL=>have:=LMc25.out;omega);intro v488 w28 ho hb hg hat;rw [← Ny487.out] at ho;have n0_:=Aside0.mk (Kd.R_over' (pR HO_6.out) (Kd.R_typed (pR HO_9.out)) (by decide) hg);have n1_:=Aside0.mk (Kd.R_over' (pR HO_7.out) (Kd.R_typed (pR HO_9.out)) (by decide) hg);have n2_:=Aside0.mk (blk_grown (g:=gb471) (o:=.cells #[.slice A0_0 l0_0.length c0_0,.slice A0_1 l0_1.length c0_1] 31 (0,0)) (pK BK471.out) hg (Kd.R_ne HO_9.out BK471.out (by decide)));have n3_:=Aside0.mk (hb);have n4_:=Aside0.mk (ho);clear HO_6;clear HO_7;clear BK471;clear HB;clear HO_9;have HO_6:=n0_;have HO_7:=n1_;have BK471:=n2_;have HB:=n3_;have HO489:=n4_;clear n0_ n1_ n2_ n3_ n4_;clear ho hb hg hat))
            go_roundg k2
            case measure=>have:=HJ3.out;have:=HK2.out;omega
            case rel=>exact ⟨(y487),(wrap64 (x10_2+1)),(by first|rfl|(simp;done)|(simp [*];done)),H',⟨by have:=HJ3.out;have:=HK2.out;omega⟩,⟨pR HO_6.out⟩,⟨pR HO_7.out⟩,⟨pR HO489.out⟩,⟨pK BK471.out⟩,⟨pS HB.out⟩⟩
           ·rw [if_neg c25] at H
            exact absurd H (by simp)
         ·rw [if_neg c21] at H
          exact absurd H (by simp)
       ·rw [if_neg c19] at H
        exact absurd H (by simp)
      ·rw [if_neg c18] at H;have c18b0:decide (x10_2<(l1.length:Int))=false:=decide_eq_false c18;clear c18
       by_cases c29:(x9_2.length:Int)=0
       ·rw [if_pos c29] at H;have c29b0:((x9_2.length:Int) == 0)=true:=beq_iff_eq.mpr c29;have c29b1:((x9_2.length:Int) != 0)=false:=bne_eq_false_iff_eq.mpr c29;clear c29;simp only [Option.some.injEq,Prod.mk.injEq] at H;obtain ⟨rfl,rfl⟩:=H;obtain ⟨Ao30,co30,eo30⟩:=Kd.R_slice HO_9.out;subst eo30
        go_wp2
        go_ret2
        exact ⟨_,by first|rfl|(simp [errW_none,errW_some]<;>rfl)|(simp [*,errW_none,errW_some]<;>rfl),pR HO_6.out,pS HB.out⟩
       ·rw [if_neg c29] at H;have c29b0:((x9_2.length:Int) == 0)=false:=beq_eq_false_iff_ne.mpr c29;have c29b1:((x9_2.length:Int) != 0)=true:=bne_iff_ne.mpr c29
        have c29b2:¬ (x9_2=[]):=fun h_=>c29 (by rw [h_];rfl)
        obtain ⟨y490,hy490⟩:∃ y_:List (S61),y_=(([]:List (S61))):=⟨_,rfl⟩
        replace H:(spec_WalSteps.l1 k2 x9_2 y490 0)=some (r1,r2):=by first|(rw [hy490];with_reducible exact H)|(have H2_:=(Option.bind_some _ _).symm.trans H;rw [hy490];with_reducible exact H2_)|(have H2_:=(Option.bind_some _ _).symm.trans H;with_reducible exact H2_)|with_reducible exact H|(rw [hy490];exact H)|exact H
        have Ny490:=Aside0.mk hy490;clear hy490;have H':=Aside0.mk H;clear H;obtain ⟨Ao31,co31,eo31⟩:=Kd.R_slice HO_9.out;subst eo31
        go_wp2_with (first|((with_reducible refine gate_dst (N:=68) rfl ?_);(try (refine gate_guard (by rfl) ?_;dsimp only));refine Kd.R_lit k61 _ 61 ?hg (N:=68) ?hd (xs:=([]:List (S61))) (inner:=[]) (ok:=fun _=>True) (okp:=fun _=>True) ?hr ?hp (fun _ hk=>hk) trivial (Below.refl _ _) (Nat.le_refl _) (by simp) ?_;(case hd=>rfl);(case hg=>rfl);(case hr=>first|(go_simp;done)|(go_simp;rfl));(case hp=>exact (Reps.none _ _));intro v491 w32 ho33 hb hg_ hnew_;clear hg_ hnew_;(first|rw [← Ny490.out] at ho33|(simp only [Int.reduceToNat] at ho33;rw [← Ny490.out] at ho33));have n0_:=Aside0.mk (Kd.R_elder' (pR HO_6.out) (Kd.R_base ho33) hb);have n1_:=Aside0.mk (Kd.R_below (pR HO_7.out) hb);have n2_:=Aside0.mk (Kd.R_below (pR HO_9.out) hb);have n3_:=Aside0.mk (Kd.R_lower (Kd.R_new' ho33 (Kd.R_lt (pR HO_6.out))) (below_size (pS HB.out)));have n4_:=Aside0.mk (blk_below (pK BK471.out) hb);have n5_:=Aside0.mk (below_step (pS HB.out) hb);clear HO_6;clear HO_7;clear HO_9;clear BK471;clear HB;have HO_6:=n0_;have HO_7:=n1_;have HO_9:=n2_;have HO492:=n3_;have BK471:=n4_;have HB:=n5_;clear n0_ n1_ n2_ n3_ n4_ n5_;clear hb ho33))
        go_loopg [11,12] k2 (fun kq v11 v12 w'=>∃ (x11_3:List (S61)) (x12_3:Int),v12=.int .i64 x12_3∧Aside0 (spec_WalSteps.l1 kq x9_2 x11_3 x12_3=some (r1,r2))∧Aside0 (kq≤k2)∧Aside0 (Kd.R k75 75 w' w.heap.size (fun _=>True) (.slice Ao31 x9_2.length co31) x9_2)∧Aside0 (Kd.R k61 61 w' w.heap.size (fun _=>True) v11 x11_3)∧Aside0 (w'.heap[gb471]?=some (.cells #[(.slice A0_0 l0_0.length c0_0),(.slice A0_1 l0_1.length c0_1)] 31 (0,0)))∧Aside0 (Below w.heap.size w w'))
        case atStart=>exact ⟨(y490),(0),(by first|rfl|(simp;done)|(simp [*];done)),H',⟨Nat.le_refl _⟩,⟨pR HO_9.out⟩,⟨pR (Kd.R_mono HO492.out (fun _ hk=>trivial))⟩,⟨pK BK471.out⟩,⟨pS HB.out⟩⟩
        case round =>
         clear H'
         (try clear c1)
         (try clear c2)
         (try clear p2)
         (try clear p4)
         (try clear q4)
         (try clear hx4)
         (try clear p6)
         (try clear c10)
         (try clear c11)
         (try clear c11b0)
         (try clear c11b1)
         (try clear c12)
         (try clear c15)
         (try clear c18)
         (try clear c18b0)
         (try clear c19)
         (try clear c19b0)
         (try clear c20)
         (try clear c20b0)
         (try clear c20b1)
         (try clear c21)
         (try clear c21b0)
         (try clear c22)
         (try clear c22b0)
         (try clear c22b1)
         (try clear c25)
         (try clear c26)
         (try clear c29)
         (try clear c29b0)
         (try clear c29b1)
         (try clear c29b2)
         (try clear hcz13_0)
         (try clear hcz13_1)
         (try clear hcz8_0)
         (try clear hcz8_1)
         (try clear hfz13_0)
         (try clear hfz13_1)
         (try clear hfz8_0)
         (try clear hfz8_1)
         (try clear hx483_0)
         (try clear hx484_0)
         (try clear hx485_0)
         (try clear hx486_0)
         (try clear p2)
         (try clear p483)
         (try clear p484)
         (try clear p485)
         (try clear p486)
         (try clear q483)
         (try clear q484)
         (try clear q485)
         (try clear q486)
         obtain ⟨x11_3,x12_3,rfl,HA,HK3,HO_9,HO_11,BK471,HB⟩:=hrel
         cases gk with
         | zero=>exact absurd HA.out (by simp [spec_WalSteps.l1])
         | succ k3 =>
          have H:=HA.out;clear HA;simp only [spec_WalSteps.l1] at H
          by_cases c34:x12_3<(x9_2.length:Int)
          ·rw [if_pos c34] at H;have c34b0:decide (x12_3<(x9_2.length:Int))=true:=decide_eq_true c34;clear c34
           by_cases c35:0≤x12_3
           ·rw [if_pos c35] at H;have c35b0:decide (0≤x12_3)=true:=decide_eq_true c35;clear c35;obtain ⟨y494,hy494⟩:∃ y_:List Int,y_=(([((rd_T75 x9_2 x12_3).f0) % 256]:List Int)):=⟨_,rfl⟩
            replace H:(if (strOfNums y494).size+((rd_T75 x9_2 x12_3).f1).size≤9223372036854775807 then ((spec_l2Put.f (wrap64 (1+x12_3)) ((strOfNums y494) ++ ((rd_T75 x9_2 x12_3).f1))).bind fun bt498=>(if x11_3.length<4398046511104 then (spec_WalSteps.l1 k3 x9_2 (x11_3 ++ [(⟨bt498.1,bt498.2.1,bt498.2.2⟩:S61)]) (wrap64 (x12_3+1))) else (none))) else (none))=some (r1,r2):=by first|(rw [hy494];with_reducible exact H)|(have H2_:=(Option.bind_some _ _).symm.trans H;rw [hy494];with_reducible exact H2_)|(have H2_:=(Option.bind_some _ _).symm.trans H;with_reducible exact H2_)|with_reducible exact H|(rw [hy494];exact H)|exact H
            have Ny494:=Aside0.mk hy494;clear hy494
            by_cases c36:(strOfNums y494).size+((rd_T75 x9_2 x12_3).f1).size≤9223372036854775807
            ·rw [if_pos c36] at H;have c36b0:=eq_true c36;have c36b1:decide ((strOfNums y494).size+((rd_T75 x9_2 x12_3).f1).size≤9223372036854775807)=true:=decide_eq_true c36
             try have c36b2:(9223372036854775807<(strOfNums y494).size+((rd_T75 x9_2 x12_3).f1).size)=False:=eq_false (Nat.not_lt.2 c36)
             replace H:=Option.bind_eq_some_iff.mp H;obtain ⟨⟨t498,t499,t500⟩,A370,H⟩:=H
             (try dsimp only at H)
             have A37:=Aside0.mk A370;clear A370
             by_cases c38:x11_3.length<4398046511104
             ·rw [if_pos c38] at H;have LMc38:=Aside0.mk c38;clear c38;obtain ⟨y501,hy501⟩:∃ y_:List (S61),y_=(x11_3 ++ [(⟨t498,t499,t500⟩:S61)]):=⟨_,rfl⟩
              replace H:(spec_WalSteps.l1 k3 x9_2 y501 (wrap64 (x12_3+1)))=some (r1,r2):=by first|(rw [hy501];with_reducible exact H)|(have H2_:=(Option.bind_some _ _).symm.trans H;rw [hy501];with_reducible exact H2_)|(have H2_:=(Option.bind_some _ _).symm.trans H;with_reducible exact H2_)|with_reducible exact H|(rw [hy501];exact H)|exact H
              have Ny501:=Aside0.mk hy501;clear hy501;have H':=Aside0.mk H;clear H
              try go_wp2
              have n0_:=Aside0.mk (Kd.R_drew HO_9.out);have n1_:=Aside0.mk (Kd.R_drew HO_11.out);have n2_:=Aside0.mk (blk_drew BK471.out);have n3_:=Aside0.mk (below_drew1 HB.out);clear HO_9;clear HO_11;clear BK471;clear HB;have HO_9:=n0_;have HO_11:=n1_;have BK471:=n2_;have HB:=n3_;clear n0_ n1_ n2_ n3_;have p493:0≤(x12_3:Int):=of_decide_eq_true bA;have q493:x12_3<(x9_2.length:Int):=of_decide_eq_true bA;obtain ⟨ad493,e493,hx493_0,hx493_1⟩:=at_T75 (Kd.R_reads' HO_9.out).2.2 x12_3 p493 q493;cases e493;replace p493:=eq_true p493;replace q493:=eq_true q493;have p497:0≤(x12_3:Int):=of_decide_eq_true bA;have q497:x12_3<(x9_2.length:Int):=of_decide_eq_true bA;obtain ⟨ad497,e497,hx497_0,hx497_1⟩:=at_T75 (Kd.R_reads' HO_9.out).2.2 x12_3 p497 q497
              obtain rfl:ad493=ad497:=(by injection e497)
              replace p497:=eq_true p497;replace q497:=eq_true q497
              refine start_ (n:=21) (S:=fun w'=>w'.cell? (ad493.add ((x12_3).toNat * 2))=some (.int .i64 ((rd_T75 x9_2 x12_3).f0))∧w'.cell? ⟨(ad493.add ((x12_3).toNat * 2)).block,(ad493.add ((x12_3).toNat * 2)).off+1,none⟩=some (.string ((rd_T75 x9_2 x12_3).f1))∧w'.cell? (ad493.add ((x12_3).toNat * 2))=some (.int .i64 ((rd_T75 x9_2 x12_3).f0))∧w'.cell? ⟨(ad493.add ((x12_3).toNat * 2)).block,(ad493.add ((x12_3).toNat * 2)).off+1,none⟩=some (.string ((rd_T75 x9_2 x12_3).f1))) (ds:=[18,19]) #[false,false,false,false,false,false,false,false,false,false,false,false,false,false,false,false,false,false,false,false,false] (by kernel_rfl) rfl rfl ⟨hx493_0,hx493_1,hx497_0,hx497_1⟩ (fun hHeld=>?_);refine with_tabW spec_WalSteps.tab19 spec_WalSteps.bits19 (fun HT_ HW_=>?_)
              generalize wr.drew=w39 at HO_9 HO_11 BK471 HB hx493_0 hx493_1 hx497_0 hx497_1 hHeld ⊢
              refine pure_ (i:=0) (N:=some 75) (v:=?_) (a':=?_) #[true,false,false,false,false,false,false,false,false,false,false,false,false,false,false,false,false,false,false,false,false] rfl rfl (any_of HT_.out (by kernel_rfl)) (fun _ _ _ h=>h) (Or.inl ⟨by rfl,?_⟩) ?_ ?_
              rotate_left
              ·intro w';go_simp;with_reducible rfl
              rotate_left
              ·simp only [Act.put,List.setIfInBounds_toArray,List.set_cons_zero,List.set_cons_succ,i64_w,i32_w];rfl
              refine pure_ (i:=1) (N:=some 76) (v:=?_) (a':=?_) #[true,true,false,false,false,false,false,false,false,false,false,false,false,false,false,false,false,false,false,false,false] rfl rfl (any_of HT_.out (by kernel_rfl)) (fun _ _ _ h=>h) (Or.inl ⟨by rfl,?_⟩) ?_ ?_
              rotate_left
              ·intro w';go_simp;with_reducible rfl
              rotate_left
              ·simp only [Act.put,List.setIfInBounds_toArray,List.set_cons_zero,List.set_cons_succ,i64_w,i32_w];rfl
              refine pure_ (i:=2) (N:=some 77) (v:=?_) (a':=?_) #[true,true,true,false,false,false,false,false,false,false,false,false,false,false,false,false,false,false,false,false,false] rfl rfl (any_of HT_.out (by kernel_rfl)) (fun _ _ _ h=>h) (Or.inl ⟨by rfl,?_⟩) ?_ ?_
              rotate_left
              ·intro w';go_simp;with_reducible rfl
              rotate_left
              ·simp only [Act.put,List.setIfInBounds_toArray,List.set_cons_zero,List.set_cons_succ,i64_w,i32_w];rfl
              refine pure_ (i:=3) (N:=some 78) (v:=?_) (a':=?_) #[true,true,true,true,false,false,false,false,false,false,false,false,false,false,false,false,false,false,false,false,false] rfl rfl (any_of HT_.out (by kernel_rfl)) (fun _ _ _ h=>h) (Or.inl ⟨by rfl,?_⟩) ?_ ?_
              rotate_left
              ·intro w';go_simp;with_reducible rfl
              rotate_left
              ·simp only [Act.put,List.setIfInBounds_toArray,List.set_cons_zero,List.set_cons_succ,i64_w,i32_w];rfl
              refine pure_ (i:=4) (N:=some 79) (v:=?_) (a':=?_) #[true,true,true,true,true,false,false,false,false,false,false,false,false,false,false,false,false,false,false,false,false] rfl rfl (any_of HT_.out (by kernel_rfl)) (fun _ _ _ h=>h) (Or.inl ⟨by rfl,?_⟩) ?_ ?_
              rotate_left
              ·intro w';go_simp;with_reducible rfl
              rotate_left
              ·simp only [Act.put,List.setIfInBounds_toArray,List.set_cons_zero,List.set_cons_succ,i64_w,i32_w];rfl
              refine pure_ (i:=5) (N:=some 80) (v:=?_) (a':=?_) #[true,true,true,true,true,true,false,false,false,false,false,false,false,false,false,false,false,false,false,false,false] rfl rfl (any_of HT_.out (by kernel_rfl)) (fun _ _ _ h=>h) (Or.inl ⟨by rfl,?_⟩) ?_ ?_
              rotate_left
              ·intro w';go_simp;with_reducible rfl
              rotate_left
              ·simp only [Act.put,List.setIfInBounds_toArray,List.set_cons_zero,List.set_cons_succ,i64_w,i32_w];rfl
              refine pure_ (i:=6) (N:=some 81) (v:=?_) (a':=?_) #[true,true,true,true,true,true,true,false,false,false,false,false,false,false,false,false,false,false,false,false,false] rfl rfl (any_of HT_.out (by kernel_rfl)) (fun _ _ _ h=>h) (Or.inl ⟨by rfl,?_⟩) ?_ ?_
              rotate_left
              ·intro w';go_simp;with_reducible rfl
              rotate_left
              ·simp only [Act.put,List.setIfInBounds_toArray,List.set_cons_zero,List.set_cons_succ,i64_w,i32_w];rfl
              refine pure_ (i:=11) (N:=some 86) (v:=?_) (a':=?_) #[true,true,true,true,true,true,true,false,false,false,false,true,false,false,false,false,false,false,false,false,false] rfl rfl (any_of HT_.out (by kernel_rfl)) (fun _ _ _ h=>h) (Or.inl ⟨by rfl,?_⟩) ?_ ?_
              rotate_left
              ·intro w';go_simp;with_reducible rfl
              rotate_left
              ·simp only [Act.put,List.setIfInBounds_toArray,List.set_cons_zero,List.set_cons_succ,i64_w,i32_w];rfl
              refine pure_ (i:=12) (N:=some 87) (v:=?_) (a':=?_) #[true,true,true,true,true,true,true,false,false,false,false,true,true,false,false,false,false,false,false,false,false] rfl rfl (any_of HT_.out (by kernel_rfl)) (fun _ _ _ h=>h) (Or.inl ⟨by rfl,?_⟩) ?_ ?_
              rotate_left
              ·intro w';go_simp;with_reducible rfl
              rotate_left
              ·simp only [Act.put,List.setIfInBounds_toArray,List.set_cons_zero,List.set_cons_succ,i64_w,i32_w];rfl
              refine pure_ (i:=13) (N:=some 88) (v:=?_) (a':=?_) #[true,true,true,true,true,true,true,false,false,false,false,true,true,true,false,false,false,false,false,false,false] rfl rfl (any_of HT_.out (by kernel_rfl)) (fun _ _ _ h=>h) (Or.inl ⟨by rfl,?_⟩) ?_ ?_
              rotate_left
              ·intro w';go_simp;with_reducible rfl
              rotate_left
              ·simp only [Act.put,List.setIfInBounds_toArray,List.set_cons_zero,List.set_cons_succ,i64_w,i32_w];rfl
              refine pure_ (i:=14) (N:=some 89) (v:=?_) (a':=?_) #[true,true,true,true,true,true,true,false,false,false,false,true,true,true,true,false,false,false,false,false,false] rfl rfl (any_of HT_.out (by kernel_rfl)) (fun _ _ _ h=>h) (Or.inl ⟨by rfl,?_⟩) ?_ ?_
              rotate_left
              ·intro w';go_simp;with_reducible rfl
              rotate_left
              ·simp only [Act.put,List.setIfInBounds_toArray,List.set_cons_zero,List.set_cons_succ,i64_w,i32_w];rfl
              refine take_ (i:=7) (N:=some 82) (v:=?_) (a':=?_) #[true,true,true,true,true,true,true,true,false,false,false,true,true,true,true,false,false,false,false,false,false] rfl rfl (take_ofW HT_.out HW_.out (by kernel_rfl)) (fun _ _ _ h=>h) (Or.inl ⟨by rfl,?_⟩) hHeld ?_ ?_
              rotate_left
              ·rintro w' ⟨s0,s1,s2,s3⟩;go_simp;with_reducible rfl
              rotate_left
              ·simp only [Act.put,List.setIfInBounds_toArray,List.set_cons_zero,List.set_cons_succ,i64_w,i32_w];rfl
              refine pure_ (i:=8) (N:=some 83) (v:=?_) (a':=?_) #[true,true,true,true,true,true,true,true,true,false,false,true,true,true,true,false,false,false,false,false,false] rfl rfl (any_of HT_.out (by kernel_rfl)) (fun _ _ _ h=>h) (Or.inl ⟨by rfl,?_⟩) ?_ ?_
              rotate_left
              ·intro w';go_simp;with_reducible rfl
              rotate_left
              ·simp only [Act.put,List.setIfInBounds_toArray,List.set_cons_zero,List.set_cons_succ,i64_w,i32_w];rfl
              refine take_ (i:=15) (N:=some 90) (v:=?_) (a':=?_) #[true,true,true,true,true,true,true,true,true,false,false,true,true,true,true,true,false,false,false,false,false] rfl rfl (take_ofW HT_.out HW_.out (by kernel_rfl)) (fun _ _ _ h=>h) (Or.inl ⟨by rfl,?_⟩) hHeld ?_ ?_
              rotate_left
              ·rintro w' ⟨s0,s1,s2,s3⟩;go_simp;with_reducible rfl
              rotate_left
              ·simp only [Act.put,List.setIfInBounds_toArray,List.set_cons_zero,List.set_cons_succ,i64_w,i32_w];rfl
              refine one_ (i:=9) (N:=some 84) #[true,true,true,true,true,true,true,true,true,true,false,true,true,true,true,true,false,false,false,false,false] rfl rfl (one_of HT_.out (by kernel_rfl)) (by decide) (fun K hK=>?_)
              refine Kd.R_lit_step (Kd.int .u8) _ 5 ?hg (N:=84) ?hd (xs:=([((rd_T75 x9_2 x12_3).f0) % 256]:List Int)) (inner:=[.int .u8 (((rd_T75 x9_2 x12_3).f0) % 256)]) (ok:=fun _=>True) (okp:=fun _=>True) ?hr ?hp (fun _ hk=>hk) trivial (Below.refl _ _) (Nat.le_refl _) (by simp) ?_;(case hd=>rfl);(case hg=>rfl);(case hr=>first|(go_simp;done)|(go_simp;rfl));(case hp=>exact (Reps.one (show Kd.M (Kd.int .u8) _ _ _ (((rd_T75 x9_2 x12_3).f0) % 256) [.int .u8 (((rd_T75 x9_2 x12_3).f0) % 256)] from rfl) (Reps.none _ _)))
              intro v495 w40 ho41 hb hg_ hnew_;have HS0_:=(hb.cell (World.block_lt_of_cell? _ _ (hHeld.1))).trans (hHeld.1);have HS1_:=(hb.cell (World.block_lt_of_cell? _ _ (hHeld.2.1))).trans (hHeld.2.1);have HS2_:=(hb.cell (World.block_lt_of_cell? _ _ (hHeld.2.2.1))).trans (hHeld.2.2.1);have HS3_:=(hb.cell (World.block_lt_of_cell? _ _ (hHeld.2.2.2))).trans (hHeld.2.2.2);clear hg_ hnew_
              (first|rw [← Ny494.out] at ho41|(simp only [Int.reduceToNat] at ho41;rw [← Ny494.out] at ho41))
              have n0_:=Aside0.mk (Kd.R_below (pR HO_9.out) hb);have n1_:=Aside0.mk (Kd.R_below (pR HO_11.out) hb);have n2_:=Aside0.mk (Kd.R_lower ho41 (below_size (pS HB.out)));have n3_:=Aside0.mk (blk_below (pK BK471.out) hb);have n4_:=Aside0.mk (below_step (pS HB.out) hb);clear HO_9;clear HO_11;clear BK471;clear HB;have HO_9:=n0_;have HO_11:=n1_;have HO496:=n2_;have BK471:=n3_;have HB:=n4_;clear n0_ n1_ n2_ n3_ n4_;clear hb ho41;refine hK.out _ _ ⟨HS0_,HS1_,HS2_,HS3_⟩ (fun hHeld=>?_);clear hK K;refine norm_ (a':=?_) ?_ ?_;rotate_left
              ·show Act.put _ (some 84) _=_
               simp only [Act.put,List.setIfInBounds_toArray,List.set_cons_zero,List.set_cons_succ,i64_w,i32_w];rfl
              refine one_ (i:=10) (N:=some 85) #[true,true,true,true,true,true,true,true,true,true,true,true,true,true,true,true,false,false,false,false,false] rfl rfl (one_of HT_.out (by kernel_rfl)) (by decide) (fun K hK=>?_)
              have hcv42:=own_string (P:=Try.prog) Try.underlying46 Try.underlying5 Try.underlying9 (Kd.own_of_R HO496.out)
              refine value_ (w1:=?_) (v:=?_) (by rfl) rfl ?_ ?_
              rotate_left 2
              ·go_simp
               constructor
               ·rfl
               ·rfl
              clear hcv42;refine hK.out _ _ ⟨hHeld.1,hHeld.2.1,hHeld.2.2.1,hHeld.2.2.2⟩ (fun hHeld=>?_);clear hK K;refine norm_ (a':=?_) ?_ ?_;rotate_left
              ·show Act.put _ (some 85) _=_
               simp only [Act.put,List.setIfInBounds_toArray,List.set_cons_zero,List.set_cons_succ,i64_w,i32_w];rfl
              refine pure_ (i:=16) (N:=some 91) (v:=?_) (a':=?_) #[true,true,true,true,true,true,true,true,true,true,true,true,true,true,true,true,true,false,false,false,false] rfl rfl (any_of HT_.out (by kernel_rfl)) (fun _ _ _ h=>h) (Or.inl ⟨by rfl,?_⟩) ?_ ?_
              rotate_left
              ·intro w';go_simp;with_reducible rfl
              rotate_left
              ·simp only [Act.put,List.setIfInBounds_toArray,List.set_cons_zero,List.set_cons_succ,i64_w,i32_w];rfl
              refine one_ (i:=17) (N:=some 92) #[true,true,true,true,true,true,true,true,true,true,true,true,true,true,true,true,true,true,false,false,false] rfl rfl (one_of HT_.out (by kernel_rfl)) (by decide) (fun K hK=>?_)
              refine goes_ Try.func60 (by kernel_rfl) rfl #[.int .i64 (wrap64 (1+x12_3)),.string ((strOfNums y494) ++ ((rd_T75 x9_2 x12_3).f1))] (by rfl) rfl rfl bM ?_
              with_reducible refine (spec_l2Put.calls (wrap64 (1+x12_3)) ((strOfNums y494) ++ ((rd_T75 x9_2 x12_3).f1)) t498 t499 t500 _ A37.out).mono ?_
              rintro e w43 ⟨rfl,hb⟩;have HS0_:=(hb.cell (World.block_lt_of_cell? _ _ (hHeld.1))).trans (hHeld.1);have HS1_:=(hb.cell (World.block_lt_of_cell? _ _ (hHeld.2.1))).trans (hHeld.2.1);have HS2_:=(hb.cell (World.block_lt_of_cell? _ _ (hHeld.2.2.1))).trans (hHeld.2.2.1);have HS3_:=(hb.cell (World.block_lt_of_cell? _ _ (hHeld.2.2.2))).trans (hHeld.2.2.2);refine ⟨_,rfl,?_⟩;have n0_:=Aside0.mk (Kd.R_below (pR HO_9.out) hb);have n1_:=Aside0.mk (Kd.R_below (pR HO_11.out) hb);have n2_:=Aside0.mk (Kd.R_below (pR HO496.out) hb);have n3_:=Aside0.mk (blk_below (pK BK471.out) hb);have n4_:=Aside0.mk (below_step (pS HB.out) hb);clear HO_9;clear HO_11;clear HO496;clear BK471;clear HB;have HO_9:=n0_;have HO_11:=n1_;have HO496:=n2_;have BK471:=n3_;have HB:=n4_;clear n0_ n1_ n2_ n3_ n4_
              (try clear hb)
              (try clear hb2)
              (try clear hk)
              (try clear hi)
              refine hK.out _ _ ⟨HS0_,HS1_,HS2_,HS3_⟩ (fun hHeld=>?_);clear hK K;refine norm_ (a':=?_) ?_ ?_;rotate_left
              ·show Act.put _ (some 92) _=_
               simp only [Act.put,List.setIfInBounds_toArray,List.set_cons_zero,List.set_cons_succ,i64_w,i32_w];rfl
              refine last_ (i:=18) (N:=some 93) #[true,true,true,true,true,true,true,true,true,true,true,true,true,true,true,true,true,true,true,false,false] rfl rfl (one_of HT_.out (by kernel_rfl)) (by decide) (fun K hK=>?_)
              refine value_ (w1:=?_) (v:=?_) (by rfl) rfl ?_ ?_
              rotate_left 2
              ·go_simp
               constructor
               ·rfl
               ·rfl
              refine hK.out _ _ ?_;clear hK K;refine norm_ (a':=?_) ?_ ?_;rotate_left
              ·show Act.put _ (some 93) _=_
               simp only [Act.put,List.setIfInBounds_toArray,List.set_cons_zero,List.set_cons_succ,i64_w,i32_w];rfl
              refine last_ (i:=19) (N:=some 94) #[true,true,true,true,true,true,true,true,true,true,true,true,true,true,true,true,true,true,true,true,false] rfl rfl (one_of HT_.out (by kernel_rfl)) (by decide) (fun K hK=>?_)
              refine Kd.R_append_step k61 (w0:=w) w.heap.size (by rfl) (.tmp 75) (.tmp 93) 38 61 (.agg #[(.bool false),(.int .i64 0),(.string ⟨#[]⟩)]) 32 rfl Try.underlying38 info61 rfl (by decide) (by omega) u11 x11_3 (⟨t498,t499,t500⟩:S61) [.bool t498,.int .i64 t499,.string t500] (fun _=>True) (fun _=>False) rfl rfl ?aP (fun _ hk=>hk.elim) ?aF ?aO ?aB ?aS ?aL ?_
              (case aP=>exact k61_mkM _ _ _ (⟨t498,t499,t500⟩:S61))
              (case aB=>exact (pS HB.out))
              (case aF=>exact (fun _ _=>trivial))
              (case aO=>exact (pR HO_11.out))
              (case aS=>exact (below_size (pS HB.out)))
              (case aL=>have:=LMc38.out;omega)
              intro v502 w44 ho hb hg hat;rw [← Ny501.out] at ho
              have n0_:=Aside0.mk (Kd.R_over' (pR HO_9.out) (Kd.R_typed (pR HO_11.out)) (by decide) hg)
              have n1_:=Aside0.mk (blk_grown (g:=gb471) (o:=.cells #[.slice A0_0 l0_0.length c0_0,.slice A0_1 l0_1.length c0_1] 31 (0,0)) (pK BK471.out) hg (Kd.R_ne HO_11.out BK471.out (by decide)))
              have n2_:=Aside0.mk (Kd.R_over' (pR HO496.out) (Kd.R_typed (pR HO_11.out)) (by decide) hg)
              have n3_:=Aside0.mk (hb);have n4_:=Aside0.mk (ho);clear HO_9;clear BK471;clear HO496;clear HB;clear HO_11;have HO_9:=n0_;have BK471:=n1_;have HO496:=n2_;have HB:=n3_;have HO503:=n4_;clear n0_ n1_ n2_ n3_ n4_;clear ho hb hg hat;refine hK.out _ _ ?_;clear hK K;refine norm_ (a':=?_) ?_ ?_;rotate_left
              ·show Act.put _ (some 94) _=_
               simp only [Act.put,List.setIfInBounds_toArray,List.set_cons_zero,List.set_cons_succ,i64_w,i32_w];rfl
              refine pure_ (i:=20) (N:=some 11) (v:=?_) (a':=?_) #[true,true,true,true,true,true,true,true,true,true,true,true,true,true,true,true,true,true,true,true,true] rfl rfl (any_of HT_.out (by kernel_rfl)) (fun _ _ _ h=>h) (Or.inl ⟨by rfl,?_⟩) ?_ ?_
              rotate_left
              ·intro w';go_simp;with_reducible rfl
              rotate_left
              ·simp only [Act.put,List.setIfInBounds_toArray,List.set_cons_zero,List.set_cons_succ,i64_w,i32_w];rfl
              refine done_ (done_of HT_.out (by kernel_rfl)) ?_
              try go_wp2
              go_roundg k3
              case measure=>have:=HJ3.out;have:=HK2.out;have:=HK3.out;omega
              case rel=>exact ⟨(y501),(wrap64 (x12_3+1)),(by first|rfl|(simp;done)|(simp [*];done)),H',⟨by have:=HJ3.out;have:=HK2.out;have:=HK3.out;omega⟩,⟨pR HO_9.out⟩,⟨pR HO503.out⟩,⟨pK BK471.out⟩,⟨pS HB.out⟩⟩
             ·rw [if_neg c38] at H
              exact absurd H (by simp)
            ·rw [if_neg c36] at H
             exact absurd H (by simp)
           ·rw [if_neg c35] at H
            exact absurd H (by simp)
          ·rw [if_neg c34] at H;have c34b0:decide (x12_3<(x9_2.length:Int))=false:=decide_eq_false c34;clear c34;obtain ⟨y504,hy504⟩:∃ y_:List Int,y_=(([((x9_2.length:Int)) % 256]:List Int)):=⟨_,rfl⟩
           replace H:((spec_l2Put.f 0 (strOfNums y504)).bind fun bt507=>((some (([(⟨true,0,(⟨#[]⟩:ByteArray)⟩:S61),(⟨bt507.1,bt507.2.1,bt507.2.2⟩:S61),(⟨true,0,(⟨#[]⟩:ByteArray)⟩:S61)]:List (S61)):List (S61))).bind fun y510=>(if x11_3.length+y510.length<4398046511104 then ((some (x11_3 ++ y510:List (S61))).bind fun y513=>((spec_l2Apply.f k3 x9_2).bind fun t516=>(if y513.length+t516.length<4398046511104 then (some ((y513 ++ t516),true)) else (none)))) else (none))))=some (r1,r2):=by first|(rw [hy504];with_reducible exact H)|(have H2_:=(Option.bind_some _ _).symm.trans H;rw [hy504];with_reducible exact H2_)|(have H2_:=(Option.bind_some _ _).symm.trans H;with_reducible exact H2_)|with_reducible exact H|(rw [hy504];exact H)|exact H
           have Ny504:=Aside0.mk hy504;clear hy504;replace H:=Option.bind_eq_some_iff.mp H;obtain ⟨⟨t507,t508,t509⟩,A450,H⟩:=H
           (try dsimp only at H)
           have A45:=Aside0.mk A450;clear A450;obtain ⟨y510,hy510⟩:∃ y_:List (S61),y_=(([(⟨true,0,(⟨#[]⟩:ByteArray)⟩:S61),(⟨t507,t508,t509⟩:S61),(⟨true,0,(⟨#[]⟩:ByteArray)⟩:S61)]:List (S61))):=⟨_,rfl⟩
           replace H:(if x11_3.length+y510.length<4398046511104 then ((some (x11_3 ++ y510:List (S61))).bind fun y513=>((spec_l2Apply.f k3 x9_2).bind fun t516=>(if y513.length+t516.length<4398046511104 then (some ((y513 ++ t516),true)) else (none)))) else (none))=some (r1,r2):=by first|(rw [hy510];with_reducible exact H)|(have H2_:=(Option.bind_some _ _).symm.trans H;rw [hy510];with_reducible exact H2_)|(have H2_:=(Option.bind_some _ _).symm.trans H;with_reducible exact H2_)|with_reducible exact H|(rw [hy510];exact H)|exact H
           have Ny510:=Aside0.mk hy510;clear hy510
           by_cases c46:x11_3.length+y510.length<4398046511104
           ·rw [if_pos c46] at H;have LMc46:=Aside0.mk c46;clear c46;obtain ⟨y513,hy513⟩:∃ y_:List (S61),y_=(x11_3 ++ y510):=⟨_,rfl⟩
            replace H:((spec_l2Apply.f k3 x9_2).bind fun t516=>(if y513.length+t516.length<4398046511104 then (some ((y513 ++ t516),true)) else (none)))=some (r1,r2):=by first|(rw [hy513];with_reducible exact H)|(have H2_:=(Option.bind_some _ _).symm.trans H;rw [hy513];with_reducible exact H2_)|(have H2_:=(Option.bind_some _ _).symm.trans H;with_reducible exact H2_)|with_reducible exact H|(rw [hy513];exact H)|exact H
            have Ny513:=Aside0.mk hy513;clear hy513;replace H:=Option.bind_eq_some_iff.mp H;obtain ⟨t516,A470,H⟩:=H
            (try dsimp only at H)
            have A47:=Aside0.mk A470;clear A470
            by_cases c48:y513.length+t516.length<4398046511104
            ·rw [if_pos c48] at H;have LMc48:=Aside0.mk c48;clear c48;obtain ⟨y519,hy519⟩:∃ y_:List (S61),y_=(y513 ++ t516):=⟨_,rfl⟩
             replace H:(some (y519,true))=some (r1,r2):=by first|(rw [hy519];with_reducible exact H)|(have H2_:=(Option.bind_some _ _).symm.trans H;rw [hy519];with_reducible exact H2_)|(have H2_:=(Option.bind_some _ _).symm.trans H;with_reducible exact H2_)|with_reducible exact H|(rw [hy519];exact H)|exact H
             have Ny519:=Aside0.mk hy519;clear hy519;simp only [Option.some.injEq,Prod.mk.injEq] at H;obtain ⟨rfl,rfl⟩:=H
             go_wp2_with (first|((with_reducible refine gate_dst (N:=100) rfl ?_);(try (refine gate_guard (by rfl) ?_;dsimp only));refine Kd.R_lit (Kd.int .u8) _ 5 ?hg (N:=100) ?hd (xs:=([((x9_2.length:Int)) % 256]:List Int)) (inner:=[.int .u8 (((x9_2.length:Int)) % 256)]) (ok:=fun _=>True) (okp:=fun _=>True) ?hr ?hp (fun _ hk=>hk) trivial (Below.refl _ _) (Nat.le_refl _) (by simp) ?_;(case hd=>rfl);(case hg=>rfl);(case hr=>first|(go_simp;done)|(go_simp;rfl));(case hp=>exact (Reps.one (show Kd.M (Kd.int .u8) _ _ _ (((x9_2.length:Int)) % 256) [.int .u8 (((x9_2.length:Int)) % 256)] from rfl) (Reps.none _ _)));intro v505 w49 ho50 hb hg_ hnew_;clear hg_ hnew_;(first|rw [← Ny504.out] at ho50|(simp only [Int.reduceToNat] at ho50;rw [← Ny504.out] at ho50));have n0_:=Aside0.mk (Kd.R_below (pR HO_9.out) hb);have n1_:=Aside0.mk (Kd.R_below (pR HO_11.out) hb);have n2_:=Aside0.mk (Kd.R_lower ho50 (below_size (pS HB.out)));have n3_:=Aside0.mk (blk_below (pK BK471.out) hb);have n4_:=Aside0.mk (below_step (pS HB.out) hb);clear HO_9;clear HO_11;clear BK471;clear HB;have HO_9:=n0_;have HO_11:=n1_;have HO506:=n2_;have BK471:=n3_;have HB:=n4_;clear n0_ n1_ n2_ n3_ n4_;clear hb ho50;have hcv51:=own_string (P:=Try.prog) Try.underlying46 Try.underlying5 Try.underlying9 (Kd.own_of_R HO506.out))|((with_reducible refine gate_callee (f:=60) rfl ?_);refine goesL_ (some 102) rfl rfl Try.func60 (by kernel_rfl) rfl #[.int .i64 0,.string (strOfNums y504)] rfl bM ?_;(with_reducible refine (spec_l2Put.calls 0 (strOfNums y504) t507 t508 t509 _ A45.out).mono ?_);rintro e w52 ⟨rfl,hb⟩;refine ⟨_,rfl,?_⟩;have n0_:=Aside0.mk (Kd.R_below (pR HO_9.out) hb);have n1_:=Aside0.mk (Kd.R_below (pR HO_11.out) hb);have n2_:=Aside0.mk (Kd.R_below (pR HO506.out) hb);have n3_:=Aside0.mk (blk_below (pK BK471.out) hb);have n4_:=Aside0.mk (below_step (pS HB.out) hb);clear HO_9;clear HO_11;clear HO506;clear BK471;clear HB;have HO_9:=n0_;have HO_11:=n1_;have HO506:=n2_;have BK471:=n3_;have HB:=n4_;clear n0_ n1_ n2_ n3_ n4_;(try clear hb);(try clear hb2);(try clear hk);(try clear hi))|((with_reducible refine gate_dst (N:=104) rfl ?_);(try (refine gate_guard (by rfl) ?_;dsimp only));refine Kd.R_lit k61 _ 61 ?hg (N:=104) ?hd (xs:=([(⟨true,0,(⟨#[]⟩:ByteArray)⟩:S61),(⟨t507,t508,t509⟩:S61),(⟨true,0,(⟨#[]⟩:ByteArray)⟩:S61)]:List (S61))) (inner:=[.bool true,.int .i64 0,.string (⟨#[]⟩:ByteArray),.bool t507,.int .i64 t508,.string t509,.bool true,.int .i64 0,.string (⟨#[]⟩:ByteArray)]) (ok:=fun _=>True) (okp:=fun _=>True) ?hr ?hp (fun _ hk=>hk) trivial (Below.refl _ _) (Nat.le_refl _) (by simp) ?_;(case hd=>rfl);(case hg=>rfl);(case hr=>first|(go_simp;done)|(go_simp;rfl));(case hp=>exact (Reps.c3 (show Kd.M k61 _ _ _ (⟨true,0,(⟨#[]⟩:ByteArray)⟩:S61) [.bool true,.int .i64 0,.string (⟨#[]⟩:ByteArray)] from (k61_mkM _ _ _ (⟨true,0,(⟨#[]⟩:ByteArray)⟩:S61) )) (Reps.c3 (show Kd.M k61 _ _ _ (⟨t507,t508,t509⟩:S61) [.bool t507,.int .i64 t508,.string t509] from (k61_mkM _ _ _ (⟨t507,t508,t509⟩:S61) )) (Reps.c3 (show Kd.M k61 _ _ _ (⟨true,0,(⟨#[]⟩:ByteArray)⟩:S61) [.bool true,.int .i64 0,.string (⟨#[]⟩:ByteArray)] from (k61_mkM _ _ _ (⟨true,0,(⟨#[]⟩:ByteArray)⟩:S61) )) (Reps.none _ _)))));intro v511 w53 ho54 hb hg_ hnew_;clear hg_ hnew_;(first|rw [← Ny510.out] at ho54|(simp only [Int.reduceToNat] at ho54;rw [← Ny510.out] at ho54));have n0_:=Aside0.mk (Kd.R_below (pR HO_9.out) hb);have n1_:=Aside0.mk (Kd.R_elder' (pR HO_11.out) (Kd.R_base ho54) hb);have n2_:=Aside0.mk (Kd.R_below (pR HO506.out) hb);have n3_:=Aside0.mk (Kd.R_lower (Kd.R_new' ho54 (Kd.R_lt (pR HO_11.out))) (below_size (pS HB.out)));have n4_:=Aside0.mk (blk_below (pK BK471.out) hb);have n5_:=Aside0.mk (below_step (pS HB.out) hb);clear HO_9;clear HO_11;clear HO506;clear BK471;clear HB;have HO_9:=n0_;have HO_11:=n1_;have HO506:=n2_;have HO512:=n3_;have BK471:=n4_;have HB:=n5_;clear n0_ n1_ n2_ n3_ n4_ n5_;clear hb ho54;obtain ⟨Ao56,co56,eo56⟩:=Kd.R_slice HO512.out;subst eo56)|((with_reducible refine gate_builtin (b:=.append) (xs:=#[.tmp 95,.tmp 104]) rfl ?_);(try (refine gate_guard (by rfl) ?_;dsimp only));at_builtin;refine Kd.R_append_rows k61 (w0:=w) w.heap.size rfl (.tmp 95) (.tmp 104) 38 61 (.agg #[(.bool false),(.int .i64 0),(.string ⟨#[]⟩)]) 32 rfl Try.underlying38 info61 rfl (by decide) (by omega) u11 x11_3 y510 _ _ _ (fun k_=>some k_≠(.slice Ao56 y510.length co56:Value).ownBlock) (fun _=>False) rfl rfl ?aO ?aR (fun _ _ h=>h) (fun _ h=>h.elim) ?aF ?aB ?aS ?aL ?_;(case aR=>exact pC (Kd.R_reads' HO512.out).2.2);(case aB=>exact (pS HB.out));(case aF=>exact (fun k_ hk=>Kd.fresh' (Kd.R_lt (pR HO512.out)) k_ hk));(case aO=>exact (pR (Kd.R_mono HO_11.out (fun _ hk=>hk.2))));(case aS=>exact (below_size (pS HB.out)));(case aL=>have:=LMc46.out;omega);intro v514 w55 ho hb hg hat;rw [← Ny513.out] at ho;have n0_:=Aside0.mk (Kd.R_over' (pR HO_9.out) (Kd.R_typed (pR HO_11.out)) (by decide) hg);have n1_:=Aside0.mk (blk_grown (g:=gb471) (o:=.cells #[.slice A0_0 l0_0.length c0_0,.slice A0_1 l0_1.length c0_1] 31 (0,0)) (pK BK471.out) hg (Kd.R_ne HO_11.out BK471.out (by decide)));have n2_:=Aside0.mk (Kd.R_over' (pR HO506.out) (Kd.R_typed (pR HO_11.out)) (by decide) hg);have n3_:=Aside0.mk (Kd.R_after (ok:=(fun _=>True)) (pR HO512.out) hg hat);have n4_:=Aside0.mk (hb);have n5_:=Aside0.mk (ho);clear HO_9;clear BK471;clear HO506;clear HO512;clear HB;clear HO_11;have HO_9:=n0_;have BK471:=n1_;have HO506:=n2_;have HO512:=n3_;have HB:=n4_;have HO515:=n5_;clear n0_ n1_ n2_ n3_ n4_ n5_;clear ho hb hg hat)|((with_reducible refine gate_callee (f:=55) rfl ?_);refine goesL_ (some 108) rfl rfl Try.func55 (by kernel_rfl) rfl #[.slice Ao31 x9_2.length co31] rfl bM ?_;(with_reducible refine (spec_l2Apply.calls k3 _ _ x9_2 t516 _ ?side1 ?side2 A47.out).mono ?_);(case side1=>exact pC (Kd.R_reads' HO_9.out).2.2);(case side2=>exact (Kd.R_reads' HO_9.out).2.1);rintro e w57 ⟨v517,rfl,ho0,hb⟩;refine ⟨_,rfl,?_⟩;have n0_:=Aside0.mk (Kd.R_below (pR HO_9.out) hb);have n1_:=Aside0.mk (Kd.R_below (pR HO506.out) hb);have n2_:=Aside0.mk (Kd.R_elder' (pR HO512.out) (Kd.R_base ho0) hb);have n3_:=Aside0.mk (Kd.R_elder' (pR HO515.out) (Kd.R_base ho0) hb);have n4_:=Aside0.mk (Kd.R_lower (Kd.R_new' (Kd.R_new' ho0 (Kd.R_lt (pR HO512.out))) (Kd.R_lt (pR HO515.out))) (below_size (pS HB.out)));have n5_:=Aside0.mk (blk_below (pK BK471.out) hb);have n6_:=Aside0.mk (below_step (pS HB.out) hb);clear HO_9;clear HO506;clear HO512;clear HO515;clear BK471;clear HB;have HO_9:=n0_;have HO506:=n1_;have HO512:=n2_;have HO515:=n3_;have HO518:=n4_;have BK471:=n5_;have HB:=n6_;clear n0_ n1_ n2_ n3_ n4_ n5_ n6_;(try clear hb);(try clear hb2);(try clear hk);(try clear hi);(try clear ho0);obtain ⟨Ao59,co59,eo59⟩:=Kd.R_slice HO518.out;subst eo59)|((with_reducible refine gate_builtin (b:=.append) (xs:=#[.tmp 106,.tmp 108]) rfl ?_);(try (refine gate_guard (by rfl) ?_;dsimp only));at_builtin;refine Kd.R_append_rows k61 (w0:=w) w.heap.size rfl (.tmp 106) (.tmp 108) 38 61 (.agg #[(.bool false),(.int .i64 0),(.string ⟨#[]⟩)]) 32 rfl Try.underlying38 info61 rfl (by decide) (by omega) v514 y513 t516 _ _ _ (fun k_=>some k_≠(.slice Ao56 y510.length co56:Value).ownBlock∧some k_≠(.slice Ao59 t516.length co59:Value).ownBlock) (fun _=>False) rfl rfl ?aO ?aR (fun _ _ h=>h) (fun _ h=>h.elim) ?aF ?aB ?aS ?aL ?_;(case aR=>exact pC (Kd.R_reads' HO518.out).2.2);(case aB=>exact (pS HB.out));(case aF=>exact (fun k_ hk=>⟨Kd.fresh' (Kd.R_lt (pR HO512.out)) k_ hk,Kd.fresh' (Kd.R_lt (pR HO518.out)) k_ hk⟩));(case aO=>exact (pR HO515.out));(case aS=>exact (below_size (pS HB.out)));(case aL=>have:=LMc48.out;omega);intro v520 w58 ho hb hg hat;rw [← Ny519.out] at ho;have n0_:=Aside0.mk (Kd.R_over' (pR HO_9.out) (Kd.R_typed (pR HO515.out)) (by decide) hg);have n1_:=Aside0.mk (blk_grown (g:=gb471) (o:=.cells #[.slice A0_0 l0_0.length c0_0,.slice A0_1 l0_1.length c0_1] 31 (0,0)) (pK BK471.out) hg (Kd.R_ne HO515.out BK471.out (by decide)));have n2_:=Aside0.mk (Kd.R_over' (pR HO506.out) (Kd.R_typed (pR HO515.out)) (by decide) hg);have n3_:=Aside0.mk (Kd.R_after (ok:=(fun k_=>some k_≠(.slice Ao59 t516.length co59:Value).ownBlock)) (pR (Kd.R_mono HO512.out (fun _ hk=>⟨hk.2,hk.1.2⟩))) hg hat);have n4_:=Aside0.mk (Kd.R_after (ok:=(fun k_=>some k_≠(.slice Ao56 y510.length co56:Value).ownBlock)) (pR (Kd.R_mono HO518.out (fun _ hk=>⟨hk.1.2,hk.2⟩))) hg hat);have n5_:=Aside0.mk (hb);have n6_:=Aside0.mk (ho);clear HO_9;clear BK471;clear HO506;clear HO512;clear HO518;clear HB;clear HO515;have HO_9:=n0_;have BK471:=n1_;have HO506:=n2_;have HO512:=n3_;have HO518:=n4_;have HB:=n5_;have HO521:=n6_;clear n0_ n1_ n2_ n3_ n4_ n5_ n6_;clear ho hb hg hat))
             go_ret2
             exact ⟨_,by first|rfl|(simp [errW_none,errW_some]<;>rfl)|(simp [*,errW_none,errW_some]<;>rfl),pR (Kd.R_mono HO521.out (fun _ hk=>trivial)),pS HB.out⟩
            ·rw [if_neg c48] at H
             exact absurd H (by simp)
           ·rw [if_neg c46] at H
            exact absurd H (by simp)

end Go.Proofs.Ythjocaegapchaaa.P
