-- printed by pprint.py (this session's program over the kit's printer) out of the translation. Lean checks it.
import Derived.Test.YthjocaegapchaaaPx0
import Derived.Test.YthjocaegapchaaaPx2
import Derived.Test.YthjocaegapchaaaPx4
import Derived.Test.YthjocaegapchaaaPx5
namespace Go.Proofs.Ythjocaegapchaaa.P
open Go.RowKit Go.Proofs.YthjocaegapchaaaX Go.Proofs.YthjocaegapchaaaW.PrintWords Go.Proofs.YthjocaegapchaaaW.PrintLast Go.Proofs.YthjocaegapchaaaW.PrintMore
attribute [local go_sem] max2_int min2_int max_two min_two max_three min_three max_four min_four   -- for this text's walks alone
set_option linter.unusedVariables false
set_option linter.unusedSimpArgs false

section
attribute [local go_sem] Go.Instr.field Go.asAgg
/-! ### spec_SecLook: function 59 -/
def spec_SecLook.f (k : Nat) (l0_0 : List ByteArray) (l0_1 : List (S75)) (a1 : Int) : Option (ByteArray) := (spec_SecOk.f k l0_0 l0_1).bind fun t462 => (if t462 = true then ((spec_l6In.f a1 0 (wrap64 ((l0_0.length : Int) - 1))).bind fun t463 => (if t463 = true then ((spec_SecFlush.f k l0_0 l0_1).bind fun bt464 => (if 0 ≤ a1 then (if a1 < (bt464.1.length : Int) then (some (rdOf ByteArray.empty bt464.1 a1)) else (none)) else (none))) else (some (⟨#[]⟩ : ByteArray)))) else (some (⟨#[]⟩ : ByteArray)))
theorem spec_SecLook.mono : ∀ a0 a1 a2 k, LeO (spec_SecLook.f k a0 a1 a2) (spec_SecLook.f (k + 1) a0 a1 a2) := by
 intro a0 a1 a2 k
 unfold spec_SecLook.f
 repeat' first
   | (with_reducible first|exact spec_SecFlush.mono _ _ _|exact spec_SecOk.mono _ _ _|exact LeO.refl _|exact LeO.none _|refine LeO.ite ?_ ?_|refine LeO.bind ?_ (fun _=>?_))|exact spec_SecFlush.mono _ _ _|exact spec_SecOk.mono _ _ _|exact LeO.none _|refine LeO.ite ?_ ?_|refine LeO.bind ?_ (fun _=>?_)
set_option maxHeartbeats 8000000 in
set_option maxRecDepth 100000 in
theorem spec_SecLook.calls (k : Nat) (A0_0 : Option Addr) (c0_0 : Nat) (l0_0 : List ByteArray) (A0_1 : Option Addr) (c0_1 : Nat) (l0_1 : List (S75)) (a1 : Int) (r : ByteArray) (w : World) (hr0_0 : Kd.C Kd.string w A0_0 l0_0.length l0_0) (hc0_0 : l0_0.length ≤ c0_0) (hr0_1 : Kd.C k75 w A0_1 l0_1.length l0_1) (hc0_1 : l0_1.length ≤ c0_1) (h : spec_SecLook.f k l0_0 l0_1 a1 = some r) :
  Calls Try.prog 59 #[.agg #[.slice A0_0 l0_0.length c0_0,.slice A0_1 l0_1.length c0_1],.int .i64 a1] w fun e w'=>e=.returned (.string r)∧Below w.heap.size w w':=by
 have hu31:=Try.underlying31;have HR0_0:=mA hr0_0;have HC0_0:=mA hc0_0;clear hr0_0 hc0_0;have HR0_1:=mA hr0_1;have HC0_1:=mA hc0_1;clear hr0_1 hc0_1;have HB:=mA (Below.refl w.heap.size w);have H:((spec_SecOk.f k l0_0 l0_1).bind fun t462=>(if t462=true then ((spec_l6In.f a1 0 (wrap64 ((l0_0.length:Int) - 1))).bind fun t463=>(if t463=true then ((spec_SecFlush.f k l0_0 l0_1).bind fun bt464=>(if 0≤a1 then (if a1<(bt464.1.length:Int) then (some (rdOf ByteArray.empty bt464.1 a1)) else (none)) else (none))) else (some (⟨#[]⟩:ByteArray)))) else (some (⟨#[]⟩:ByteArray))))=some r:=h;clear h;obtain ⟨t462,A3,H⟩:=bI H;(try dsimp only at H)
 by_cases c4:t462=true
 ·subst c4;rw [if_pos rfl] at H;obtain ⟨t463,A5,H⟩:=bI H;(try dsimp only at H)
  by_cases c6:t463=true
  ·subst c6;rw [if_pos rfl] at H;obtain ⟨⟨t464,t467⟩,A7,H⟩:=bI H;(try dsimp only at H)
   by_cases c8:0≤a1
   ·rw [if_pos c8] at H;have c8b0:decide (0≤a1)=true:=decide_eq_true c8;clear c8
    by_cases c9:a1<(t464.length:Int)
    ·rw [if_pos c9] at H;have c9b0:decide (a1<(t464.length:Int))=true:=decide_eq_true c9;clear c9;obtain rfl:=Option.some.inj H
     go_enter Try.func59,Try.ntmps59
     go_wp2_with (first|((with_reducible refine gate_dst (N:=2) rfl ?_);(try (refine gate_guard (by rfl) ?_;dsimp only));refine bE 2 #[.slice A0_0 l0_0.length c0_0,.slice A0_1 l0_1.length c0_1] 31 ?_;intro gb461 hg w10 hbox hb;have BK461:=mA hbox;have GW461:=gbpB HB hg;have GE461:=gbpB HB hg;replace HB:=spB HB hb;clear hb hbox hg;obtain ⟨hcz11_0,hcz11_1,hfz11_0,hfz11_1⟩:=box2 BK461.out)|(refine gL (some 6) Try.func68 #[.agg #[.slice A0_0 l0_0.length c0_0,.slice A0_1 l0_1.length c0_1]] ?_;(with_reducible refine (spec_SecOk.calls k _ _ l0_0 _ _ l0_1 true _ ?s1 ?s2 ?s3 ?s4 A3.out).mono ?_);(case s1=>exact cB HR0_0 HB);(case s2=>exact HC0_0.out);(case s3=>exact cB HR0_1 HB);(case s4=>exact HC0_1.out);rintro e w12 ⟨rfl,hb⟩;refine ⟨_,rfl,?_⟩;replace BK461:=bK BK461 hb;replace HB:=spS HB hb;(try clear hb);obtain ⟨hcz13_0,hcz13_1,hfz13_0,hfz13_1⟩:=box2 BK461.out)|(go_at_call 84;(with_reducible refine (spec_l6In.calls a1 0 (wrap64 ((l0_0.length:Int) - 1)) true _ A5.out).mono ?_);rintro e w' ⟨rfl,⟨nd,rfl⟩⟩)|(refine gL (some 18) Try.func45 #[.agg #[.slice A0_0 l0_0.length c0_0,.slice A0_1 l0_1.length c0_1]] ?_;(with_reducible refine (spec_SecFlush.calls k _ _ l0_0 _ _ l0_1 t464 t467 _ ?s1 ?s2 ?s3 ?s4 A7.out).mono ?_);(case s1=>exact pC (Kd.C_below HR0_0.out (pS HB.out)));(case s2=>exact HC0_0.out);(case s3=>exact pC (Kd.C_below HR0_1.out (pS HB.out)));(case s4=>exact HC0_1.out);rintro e w14 ⟨v465,v468,rfl,ho0,ho1,hb⟩;refine ⟨_,rfl,?_⟩;have HO466:=mA (Kd.R_lower ho0 (bpS HB));have HO469:=mA (Kd.R_lower ho1 (bpS HB));replace BK461:=bK BK461 hb;replace HB:=spS HB hb;(try clear hb);(try clear ho0);(try clear ho1);obtain ⟨Ao15,co15,rfl⟩:=Kd.R_slice HO466.out;have p470:0≤(a1:Int):=of_decide_eq_true bA;have q470:a1<(t464.length:Int):=of_decide_eq_true bA;obtain ⟨ad470,e470,hx470_0⟩:=Kd.at_string (Kd.R_reads' HO466.out).2.2 a1 p470 q470;cases e470;replace p470:=eq_true p470;replace q470:=eq_true q470))
     go_ret
     exact ⟨by first|rfl|(simp [errW_none,errW_some]<;>rfl)|(simp [*,errW_none,errW_some]<;>rfl),pS HB.out⟩
    ·rw [if_neg c9] at H
     exact absurd H (by simp)
   ·rw [if_neg c8] at H
    exact absurd H (by simp)
  ·replace c6:=Bool.eq_false_iff.mpr c6;subst c6
   rw [if_neg nFT] at H
   obtain rfl:=Option.some.inj H
   go_enter Try.func59,Try.ntmps59
   go_wp2_with (first|((with_reducible refine gate_dst (N:=2) rfl ?_);(try (refine gate_guard (by rfl) ?_;dsimp only));refine bE 2 #[.slice A0_0 l0_0.length c0_0,.slice A0_1 l0_1.length c0_1] 31 ?_;intro gb461 hg w16 hbox hb;have BK461:=mA hbox;have GW461:=gbpB HB hg;have GE461:=gbpB HB hg;replace HB:=spB HB hb;clear hb hbox hg;obtain ⟨hcz17_0,hcz17_1,hfz17_0,hfz17_1⟩:=box2 BK461.out)|(refine gL (some 6) Try.func68 #[.agg #[.slice A0_0 l0_0.length c0_0,.slice A0_1 l0_1.length c0_1]] ?_;(with_reducible refine (spec_SecOk.calls k _ _ l0_0 _ _ l0_1 true _ ?s1 ?s2 ?s3 ?s4 A3.out).mono ?_);(case s1=>exact cB HR0_0 HB);(case s2=>exact HC0_0.out);(case s3=>exact cB HR0_1 HB);(case s4=>exact HC0_1.out);rintro e w18 ⟨rfl,hb⟩;refine ⟨_,rfl,?_⟩;replace BK461:=bK BK461 hb;replace HB:=spS HB hb;(try clear hb);obtain ⟨hcz19_0,hcz19_1,hfz19_0,hfz19_1⟩:=box2 BK461.out)|(go_at_call 84;(with_reducible refine (spec_l6In.calls a1 0 (wrap64 ((l0_0.length:Int) - 1)) false _ A5.out).mono ?_);rintro e w' ⟨rfl,⟨nd,rfl⟩⟩))
   go_ret
   exact ⟨by first|rfl|(simp [errW_none,errW_some]<;>rfl)|(simp [*,errW_none,errW_some]<;>rfl),pS HB.out⟩
 ·replace c4:=Bool.eq_false_iff.mpr c4;subst c4
  rw [if_neg nFT] at H
  obtain rfl:=Option.some.inj H
  go_enter Try.func59,Try.ntmps59
  go_wp2_with (first|((with_reducible refine gate_dst (N:=2) rfl ?_);(try (refine gate_guard (by rfl) ?_;dsimp only));refine bE 2 #[.slice A0_0 l0_0.length c0_0,.slice A0_1 l0_1.length c0_1] 31 ?_;intro gb461 hg w20 hbox hb;have BK461:=mA hbox;have GW461:=gbpB HB hg;have GE461:=gbpB HB hg;replace HB:=spB HB hb;clear hb hbox hg;obtain ⟨hcz21_0,hcz21_1,hfz21_0,hfz21_1⟩:=box2 BK461.out)|(refine gL (some 6) Try.func68 #[.agg #[.slice A0_0 l0_0.length c0_0,.slice A0_1 l0_1.length c0_1]] ?_;(with_reducible refine (spec_SecOk.calls k _ _ l0_0 _ _ l0_1 false _ ?s1 ?s2 ?s3 ?s4 A3.out).mono ?_);(case s1=>exact cB HR0_0 HB);(case s2=>exact HC0_0.out);(case s3=>exact cB HR0_1 HB);(case s4=>exact HC0_1.out);rintro e w22 ⟨rfl,hb⟩;refine ⟨_,rfl,?_⟩;replace BK461:=bK BK461 hb;replace HB:=spS HB hb;(try clear hb)))
  go_ret
  exact ⟨by first|rfl|(simp [errW_none,errW_some]<;>rfl)|(simp [*,errW_none,errW_some]<;>rfl),pS HB.out⟩
end

/-! ### spec_WalSteps: function 26 -/
mutual
def spec_WalSteps.j0 : Nat → List ByteArray → List (S61) → List ByteArray → Bool → Option ((List (S61)) × Bool)
 | 0,_,_,_,_=>none
 | k+1,x1,x6,x7,x30=>if x30=true then (some (x6,false)) else (spec_WalSteps.l0 k x1 x6 x7 (([]:List (S75))) 0)
def spec_WalSteps.l0 : Nat → List ByteArray → List (S61) → List ByteArray → List (S75) → Int → Option ((List (S61)) × Bool)
 | 0,_,_,_,_,_=>none
 | k+1,x1,x6,x7,x9,x10=>if x10<(x1.length:Int) then (if 0≤x10 then (if ((rdOf ByteArray.empty x1 x10).size:Int) > 15 then (some (x6,false)) else (if x10<(x7.length:Int) then (if (rdOf ByteArray.empty x1 x10).toList=(rdOf ByteArray.empty x7 x10).toList then (spec_WalSteps.l0 k x1 x6 x7 x9 (wrap64 (x10+1))) else (if x9.length<5864062014805 then (spec_WalSteps.l0 k x1 x6 x7 (x9 ++ [(⟨x10,rdOf ByteArray.empty x1 x10⟩:S75)]) (wrap64 (x10+1))) else (none))) else (none))) else (none)) else (if (x9.length:Int)=0 then (some (x6,true)) else (spec_WalSteps.l1 k x9 (([]:List (S61))) 0))
def spec_WalSteps.l1 : Nat → List (S75) → List (S61) → Int → Option ((List (S61)) × Bool)
 | 0,_,_,_=>none
 | k+1,x9,x11,x12=>if x12<(x9.length:Int) then (if 0≤x12 then ((some (([((rd_T75 x9 x12).f0) % 256]:List Int):List Int)).bind fun y494=>(if (strOfNums y494).size+((rd_T75 x9 x12).f1).size≤9223372036854775807 then ((spec_l2Put.f (wrap64 (1+x12)) ((strOfNums y494) ++ ((rd_T75 x9 x12).f1))).bind fun bt498=>(if x11.length<4398046511104 then (spec_WalSteps.l1 k x9 (x11 ++ [(⟨bt498.1,bt498.2.1,bt498.2.2⟩:S61)]) (wrap64 (x12+1))) else (none))) else (none))) else (none)) else ((spec_l2Put.f 0 (strOfNums (([((x9.length:Int)) % 256]:List Int)))).bind fun bt507=>((some (([(⟨true,0,(⟨#[]⟩:ByteArray)⟩:S61),(⟨bt507.1,bt507.2.1,bt507.2.2⟩:S61),(⟨true,0,(⟨#[]⟩:ByteArray)⟩:S61)]:List (S61)):List (S61))).bind fun y510=>(if x11.length+y510.length<4398046511104 then ((some (x11 ++ y510:List (S61))).bind fun y513=>((spec_l2Apply.f k x9).bind fun t516=>(if y513.length+t516.length<4398046511104 then (some ((y513 ++ t516),true)) else (none)))) else (none))))
end
def spec_WalSteps.f (k : Nat) (l0_0 : List ByteArray) (l0_1 : List (S75)) (l1 : List ByteArray) : Option ((List (S61)) × Bool) := (some (([] : List (S61)) : List (S61))).bind fun y472 => ((spec_WalRead.f k l0_0 l0_1).bind fun bt475 => (if bt475.2 = true then (if (l1.length : Int) = 250 then ((spec_SecLook.f k l0_0 l0_1 0).bind fun t479 => (spec_WalSteps.j0 k l1 y472 bt475.1 (t479.toList != ([] : List UInt8)))) else (spec_WalSteps.j0 k l1 y472 bt475.1 true)) else (spec_WalSteps.j0 k l1 y472 bt475.1 true)))
theorem spec_WalSteps.mono_l : ∀ k, (∀ y0 y1 y2 y3, LeO (spec_WalSteps.j0 k y0 y1 y2 y3) (spec_WalSteps.j0 (k + 1) y0 y1 y2 y3)) ∧ (∀ y0 y1 y2 y3 y4, LeO (spec_WalSteps.l0 k y0 y1 y2 y3 y4) (spec_WalSteps.l0 (k + 1) y0 y1 y2 y3 y4)) ∧ (∀ y0 y1 y2, LeO (spec_WalSteps.l1 k y0 y1 y2) (spec_WalSteps.l1 (k + 1) y0 y1 y2))
 | 0=>⟨fun _ _ _ _ r h=>by simp [spec_WalSteps.j0] at h,fun _ _ _ _ _ r h=>by simp [spec_WalSteps.l0] at h,fun _ _ _ r h=>by simp [spec_WalSteps.l1] at h⟩
 | k+1=>by
  obtain ⟨ih0,ih1,ih2⟩:=spec_WalSteps.mono_l k;refine ⟨?_,?_,?_⟩
  ·intro y0 y1 y2 y3
   unfold spec_WalSteps.j0
   repeat' first
   | (with_reducible first|exact ih0 _ _ _ _|exact ih1 _ _ _ _ _|exact ih2 _ _ _|exact spec_SecLook.mono _ _ _ _|exact spec_WalRead.mono _ _ _|exact spec_l2Apply.mono _ _|exact LeO.refl _|exact LeO.none _|refine LeO.ite ?_ ?_|refine LeO.bind ?_ (fun _=>?_))|exact ih0 _ _ _ _|exact ih1 _ _ _ _ _|exact ih2 _ _ _|exact spec_SecLook.mono _ _ _ _|exact spec_WalRead.mono _ _ _|exact spec_l2Apply.mono _ _|exact LeO.none _|refine LeO.ite ?_ ?_|refine LeO.bind ?_ (fun _=>?_)
  ·intro y0 y1 y2 y3 y4
   unfold spec_WalSteps.l0
   repeat' first
   | (with_reducible first|exact ih0 _ _ _ _|exact ih1 _ _ _ _ _|exact ih2 _ _ _|exact spec_SecLook.mono _ _ _ _|exact spec_WalRead.mono _ _ _|exact spec_l2Apply.mono _ _|exact LeO.refl _|exact LeO.none _|refine LeO.ite ?_ ?_|refine LeO.bind ?_ (fun _=>?_))|exact ih0 _ _ _ _|exact ih1 _ _ _ _ _|exact ih2 _ _ _|exact spec_SecLook.mono _ _ _ _|exact spec_WalRead.mono _ _ _|exact spec_l2Apply.mono _ _|exact LeO.none _|refine LeO.ite ?_ ?_|refine LeO.bind ?_ (fun _=>?_)
  ·intro y0 y1 y2
   unfold spec_WalSteps.l1
   repeat' first
   | (with_reducible first|exact ih0 _ _ _ _|exact ih1 _ _ _ _ _|exact ih2 _ _ _|exact spec_SecLook.mono _ _ _ _|exact spec_WalRead.mono _ _ _|exact spec_l2Apply.mono _ _|exact LeO.refl _|exact LeO.none _|refine LeO.ite ?_ ?_|refine LeO.bind ?_ (fun _=>?_))|exact ih0 _ _ _ _|exact ih1 _ _ _ _ _|exact ih2 _ _ _|exact spec_SecLook.mono _ _ _ _|exact spec_WalRead.mono _ _ _|exact spec_l2Apply.mono _ _|exact LeO.none _|refine LeO.ite ?_ ?_|refine LeO.bind ?_ (fun _=>?_)
theorem spec_WalSteps.mono : ∀ a0 a1 a2 k, LeO (spec_WalSteps.f k a0 a1 a2) (spec_WalSteps.f (k + 1) a0 a1 a2) := by
 intro a0 a1 a2 k;obtain ⟨ih0,ih1,ih2⟩:=spec_WalSteps.mono_l k
 unfold spec_WalSteps.f
 repeat' first
   | (with_reducible first|exact ih0 _ _ _ _|exact ih1 _ _ _ _ _|exact ih2 _ _ _|exact spec_SecLook.mono _ _ _ _|exact spec_WalRead.mono _ _ _|exact spec_l2Apply.mono _ _|exact LeO.refl _|exact LeO.none _|refine LeO.ite ?_ ?_|refine LeO.bind ?_ (fun _=>?_))|exact ih0 _ _ _ _|exact ih1 _ _ _ _ _|exact ih2 _ _ _|exact spec_SecLook.mono _ _ _ _|exact spec_WalRead.mono _ _ _|exact spec_l2Apply.mono _ _|exact LeO.none _|refine LeO.ite ?_ ?_|refine LeO.bind ?_ (fun _=>?_)
def spec_WalSteps.T11 : Bool × List (List Nat × List Nat) := (true, [([], []), ([], []), ([0, 1], [0, 1]), ([2], [2]), ([], []), ([], []), ([4, 5], [4, 5]), ([6], [6]), ([3, 7], [3, 7])])
def spec_WalSteps.B11 : List Nat := [0, 0, 3, 7, 0, 0, 48, 112, 255]
theorem spec_WalSteps.tab11 : rtab .any (opsOf Try.f26 11) = spec_WalSteps.T11 := by kernel_rfl
theorem spec_WalSteps.bits11 : waitsOk spec_WalSteps.T11.2 spec_WalSteps.B11 = true := by kernel_rfl
def spec_WalSteps.T19 : Bool × List (List Nat × List Nat) := (true, [([], []), ([], []), ([1], [1]), ([], []), ([], []), ([3, 4], [3, 4]), ([5], [5]), ([6], [6]), ([7], [7]), ([8], [8]), ([9], [9]), ([], []), ([], []), ([11, 12], [11, 12]), ([13], [13]), ([14], [14]), ([10, 15], [10, 15]), ([2, 16], [2, 16]), ([17], [17]), ([0, 18, 17], [0, 18]), ([19, 19, 0, 1, 2, 3, 4, 5, 6, 7, 8, 9, 10, 11, 12, 13, 14, 15, 16, 17, 18, 19], [0, 19])])
def spec_WalSteps.B19 : List Nat := [0, 0, 2, 0, 0, 24, 56, 120, 248, 504, 1016, 0, 0, 6144, 14336, 30720, 65528, 131070, 262142, 524287, 1048575]
theorem spec_WalSteps.tab19 : rtab .any (opsOf Try.f26 19) = spec_WalSteps.T19 := by kernel_rfl
theorem spec_WalSteps.bits19 : waitsOk spec_WalSteps.T19.2 spec_WalSteps.B19 = true := by kernel_rfl
set_option maxHeartbeats 8000000 in
set_option maxRecDepth 100000 in
theorem spec_WalSteps.calls (k : Nat) (A0_0 : Option Addr) (c0_0 : Nat) (l0_0 : List ByteArray) (A0_1 : Option Addr) (c0_1 : Nat) (l0_1 : List (S75)) (A1 : Option Addr) (c1 : Nat) (l1 : List ByteArray) (r1 : List (S61)) (r2 : Bool) (w : World) (hr0_0 : Kd.C Kd.string w A0_0 l0_0.length l0_0) (hc0_0 : l0_0.length ≤ c0_0) (hr0_1 : Kd.C k75 w A0_1 l0_1.length l0_1) (hc0_1 : l0_1.length ≤ c0_1) (hr1 : Kd.C Kd.string w A1 l1.length l1) (hc1 : l1.length ≤ c1) (h : spec_WalSteps.f k l0_0 l0_1 l1 = some (r1, r2)) :
  Calls Try.prog 26 #[.agg #[.slice A0_0 l0_0.length c0_0,.slice A0_1 l0_1.length c0_1],.slice A1 l1.length c1] w fun e w'=>∃ v0_:Value,e=.returned (.tuple #[v0_,.bool r2])∧Kd.R k61 61 w' w.heap.size (fun _=>True) v0_ r1∧Below w.heap.size w w':=by
 have hu31:=Try.underlying31;have hu75:=Try.underlying75;have hu61:=Try.underlying61;have HR0_0:=mA hr0_0;have HC0_0:=mA hc0_0;clear hr0_0 hc0_0;have HR0_1:=mA hr0_1;have HC0_1:=mA hc0_1;clear hr0_1 hc0_1;have HR1:=mA hr1;have HC1:=mA hc1;clear hr1 hc1;have HB:=mA (Below.refl w.heap.size w);have H:((some (([]:List (S61)):List (S61))).bind fun y472=>((spec_WalRead.f k l0_0 l0_1).bind fun bt475=>(if bt475.2=true then (if (l1.length:Int)=250 then ((spec_SecLook.f k l0_0 l0_1 0).bind fun t479=>(spec_WalSteps.j0 k l1 y472 bt475.1 (t479.toList != ([]:List UInt8)))) else (spec_WalSteps.j0 k l1 y472 bt475.1 true)) else (spec_WalSteps.j0 k l1 y472 bt475.1 true))))=some (r1,r2):=h;clear h;obtain ⟨y472,hy472⟩:∃ y_:List (S61),y_=(([]:List (S61))):=⟨_,rfl⟩
 replace H:((spec_WalRead.f k l0_0 l0_1).bind fun bt475=>(if bt475.2=true then (if (l1.length:Int)=250 then ((spec_SecLook.f k l0_0 l0_1 0).bind fun t479=>(spec_WalSteps.j0 k l1 y472 bt475.1 (t479.toList != ([]:List UInt8)))) else (spec_WalSteps.j0 k l1 y472 bt475.1 true)) else (spec_WalSteps.j0 k l1 y472 bt475.1 true)))=some (r1,r2):=qH hy472 H
 have Ny472:=mA hy472;clear hy472;obtain ⟨⟨t475,t478⟩,A3,H⟩:=bI H;(try dsimp only at H);have HC4:=mA H;clear H
 go_enter Try.func26,Try.ntmps26
 go_upto_region 3 with (first|((with_reducible refine gate_dst (N:=2) rfl ?_);(try (refine gate_guard (by rfl) ?_;dsimp only));refine bE 2 #[.slice A0_0 l0_0.length c0_0,.slice A0_1 l0_1.length c0_1] 31 ?_;intro gb471 hg w5 hbox hb;have BK471:=mA hbox;have GW471:=gbpB HB hg;have GE471:=gbpB HB hg;replace HB:=spB HB hb;clear hb hbox hg)|((with_reducible refine gate_dst (N:=13) rfl ?_);(try (refine gate_guard (by rfl) ?_;dsimp only));refine Kd.R_lit k61 _ 61 ?hg (N:=13) ?hd (xs:=([]:List (S61))) (inner:=[]) (ok:=fun _=>True) (okp:=fun _=>True) ?hr ?hp (fun _ hk=>hk) trivial (Below.refl _ _) (Nat.le_refl _) (by simp) ?_;(case hd=>rfl);(case hg=>rfl);(case hr=>first|(go_simp;done)|(go_simp;rfl));(case hp=>exact (Reps.none _ _));intro v473 w6 ho7 hb hg_ hnew_;clear hg_ hnew_;(first|rw [← Ny472.out] at ho7|(simp only [Int.reduceToNat] at ho7;rw [← Ny472.out] at ho7));have HO474:=mA (Kd.R_lower ho7 (bpS HB));replace BK471:=bK BK471 hb;replace HB:=spS HB hb;clear hb ho7;obtain ⟨hcz8_0,hcz8_1,hfz8_0,hfz8_1⟩:=box2 BK471.out)|(refine gL (some 16) Try.func12 #[.agg #[.slice A0_0 l0_0.length c0_0,.slice A0_1 l0_1.length c0_1]] ?_;(with_reducible refine (spec_WalRead.calls k _ _ l0_0 _ _ l0_1 t475 t478 _ ?s1 ?s2 ?s3 ?s4 A3.out).mono ?_);(case s1=>exact cB HR0_0 HB);(case s2=>exact HC0_0.out);(case s3=>exact cB HR0_1 HB);(case s4=>exact HC0_1.out);rintro e w9 ⟨v476,rfl,ho0,hb⟩;refine ⟨_,rfl,?_⟩;replace HO474:=rB HO474 hb;have HO477:=mA (Kd.R_lower ho0 (bpS HB));replace BK471:=bK BK471 hb;replace HB:=spS HB hb;(try clear hb);(try clear ho0)))
 (try simp only [Act.put,List.setIfInBounds_toArray,List.set_cons_zero,List.set_cons_succ])
 go_cut [30] (fun v30 wc=>∃ (kq:Nat) (x30_3:Bool),v30=.bool x30_3∧Aside0 (spec_WalSteps.j0 kq l1 y472 t475 x30_3=some (r1,r2))∧Aside0 (kq≤k)∧Aside0 (Kd.R k61 61 wc w.heap.size (fun _=>True) v473 y472)∧Aside0 (Kd.R Kd.string 9 wc w.heap.size (fun _=>True) v476 t475)∧Aside0 (wc.heap[gb471]?=some (.cells #[(.slice A0_0 l0_0.length c0_0),(.slice A0_1 l0_1.length c0_1)] 31 (0,0)))∧Aside0 (Below w.heap.size w wc))
 case first =>
  have H:=HC4.out;clear HC4
  by_cases c10:t478=true
  ·subst c10;rw [if_pos rfl] at H
   by_cases c11:(l1.length:Int)=250
   ·rw [if_pos c11] at H;obtain ⟨c11b0,c11b1⟩:=eqB c11;clear c11
    (first|rw [c11b0]|(simp only [i64_w,i32_w];rw [c11b0])|skip)
    obtain ⟨t479,A12,H⟩:=bI H;(try dsimp only at H);have H':=mA H;clear H;obtain ⟨hcz13_0,hcz13_1,hfz13_0,hfz13_1⟩:=box2 BK471.out
    go_wp2_with (first|(go_at_call 59;(with_reducible refine (spec_SecLook.calls k _ _ l0_0 _ _ l0_1 0 t479 _ ?s1 ?s2 ?s3 ?s4 A12.out).mono ?_);(case s1=>exact cB HR0_0 HB);(case s2=>exact HC0_0.out);(case s3=>exact cB HR0_1 HB);(case s4=>exact HC0_1.out);rintro e w14 ⟨rfl,hb⟩;replace HO474:=rB HO474 hb;replace HO477:=rB HO477 hb;replace BK471:=bK BK471 hb;replace HB:=spS HB hb;(try clear hb)))
    go_meet
    case rel=>exact ⟨_,((t479.toList != ([]:List UInt8))),(by first|rfl|(simp;done)|(simp [*];done)|(generalize t479.toList=z_;cases z_<;>first|rfl|simp)),H',⟨by first|omega|exact Nat.le_refl _⟩,⟨pR HO474.out⟩,⟨pR HO477.out⟩,⟨pK BK471.out⟩,⟨pS HB.out⟩⟩
   ·rw [if_neg c11] at H;have c11b0:((l1.length:Int) == 250)=false:=beq_eq_false_iff_ne.mpr c11;have c11b1:((l1.length:Int) != 250)=true:=bne_iff_ne.mpr c11
    (first|rw [c11b0]|(simp only [i64_w,i32_w];rw [c11b0])|skip)
    have H':=mA H;clear H
    go_wp2
    go_meet
    case rel=>exact ⟨_,(true),bZ,H',⟨by first|omega|exact Nat.le_refl _⟩,⟨pR HO474.out⟩,⟨pR HO477.out⟩,⟨pK BK471.out⟩,⟨pS HB.out⟩⟩
  ·replace c10:=Bool.eq_false_iff.mpr c10;subst c10
   rw [if_neg nFT] at H
   have H':=mA H;clear H
   go_wp2
   go_meet
   case rel=>exact ⟨_,(true),bZ,H',⟨by first|omega|exact Nat.le_refl _⟩,⟨pR HO474.out⟩,⟨pR HO477.out⟩,⟨pK BK471.out⟩,⟨pS HB.out⟩⟩
 case rest =>
  clear HC4
  (try clear hcz8_0);(try clear hcz8_1);(try clear hfz8_0);(try clear hfz8_1)
  obtain ⟨kq,x30_3,rfl,HA,HJ3,HO_6,HO_7,BK471,HB⟩:=hcut
  cases kq with
  | zero=>exact absurd HA.out (by simp [spec_WalSteps.j0])
  | succ kj3 =>
   have H:=HA.out;clear HA;simp only [spec_WalSteps.j0] at H
   by_cases c15:x30_3=true
   ·subst c15;rw [if_pos rfl] at H;simp only [Option.some.injEq,Prod.mk.injEq] at H;obtain ⟨rfl,rfl⟩:=H
    go_wp2
    go_ret2
    exact ⟨_,by first|rfl|(simp [errW_none,errW_some]<;>rfl)|(simp [*,errW_none,errW_some]<;>rfl),pR HO_6.out,pS HB.out⟩
   ·replace c15:=Bool.eq_false_iff.mpr c15;subst c15
    rw [if_neg nFT] at H
    obtain ⟨y480,hy480⟩:∃ y_:List (S75),y_=(([]:List (S75))):=⟨_,rfl⟩
    replace H:(spec_WalSteps.l0 kj3 l1 y472 t475 y480 0)=some (r1,r2):=qH hy480 H
    have Ny480:=mA hy480;clear hy480;have H':=mA H;clear H
    go_wp2_with (first|((with_reducible refine gate_dst (N:=32) rfl ?_);(try (refine gate_guard (by rfl) ?_;dsimp only));refine Kd.R_lit k75 _ 75 ?hg (N:=32) ?hd (xs:=([]:List (S75))) (inner:=[]) (ok:=fun _=>True) (okp:=fun _=>True) ?hr ?hp (fun _ hk=>hk) trivial (Below.refl _ _) (Nat.le_refl _) (by simp) ?_;(case hd=>rfl);(case hg=>rfl);(case hr=>first|(go_simp;done)|(go_simp;rfl));(case hp=>exact (Reps.none _ _));intro v481 w16 ho17 hb hg_ hnew_;clear hg_ hnew_;(first|rw [← Ny480.out] at ho17|(simp only [Int.reduceToNat] at ho17;rw [← Ny480.out] at ho17));replace HO_6:=rB HO_6 hb;replace HO_7:=rB HO_7 hb;have HO482:=mA (Kd.R_lower ho17 (bpS HB));replace BK471:=bK BK471 hb;replace HB:=spS HB hb;clear hb ho17))
    go_loopg [9,10] kj3 (fun kq v9 v10 w'=>∃ (x9_2:List (S75)) (x10_2:Int),v10=.int .i64 x10_2∧Aside0 (spec_WalSteps.l0 kq l1 y472 t475 x9_2 x10_2=some (r1,r2))∧Aside0 (kq≤kj3)∧Aside0 (Kd.R k61 61 w' w.heap.size (fun _=>True) v473 y472)∧Aside0 (Kd.R Kd.string 9 w' w.heap.size (fun _=>True) v476 t475)∧Aside0 (Kd.R k75 75 w' w.heap.size (fun _=>True) v9 x9_2)∧Aside0 (w'.heap[gb471]?=some (.cells #[(.slice A0_0 l0_0.length c0_0),(.slice A0_1 l0_1.length c0_1)] 31 (0,0)))∧Aside0 (Below w.heap.size w w'))
    case atStart=>exact ⟨(y480),(0),bZ,H',⟨Nat.le_refl _⟩,⟨pR HO_6.out⟩,⟨pR HO_7.out⟩,⟨pR HO482.out⟩,⟨pK BK471.out⟩,⟨pS HB.out⟩⟩
    case round =>
     clear H'
     (try clear c15);(try clear hcz8_0);(try clear hcz8_1);(try clear hfz8_0);(try clear hfz8_1)
     obtain ⟨x9_2,x10_2,rfl,HA,HK2,HO_6,HO_7,HO_9,BK471,HB⟩:=hrel
     cases gk with
     | zero=>exact absurd HA.out (by simp [spec_WalSteps.l0])
     | succ k2 =>
      have H:=HA.out;clear HA;simp only [spec_WalSteps.l0] at H
      by_cases c18:x10_2<(l1.length:Int)
      ·rw [if_pos c18] at H;have c18b0:decide (x10_2<(l1.length:Int))=true:=decide_eq_true c18;clear c18
       by_cases c19:0≤x10_2
       ·rw [if_pos c19] at H;have c19b0:decide (0≤x10_2)=true:=decide_eq_true c19;clear c19
        by_cases c20:((rdOf ByteArray.empty l1 x10_2).size:Int) > 15
        ·rw [if_pos c20] at H;have c20b0:decide (15<((rdOf ByteArray.empty l1 x10_2).size:Int))=true:=decide_eq_true c20
         have c20b1:decide (15<(rdOf ByteArray.empty l1 x10_2).size)=true:=decide_eq_true (by omega)
         clear c20;simp only [Option.some.injEq,Prod.mk.injEq] at H;obtain ⟨rfl,rfl⟩:=H;have p483:0≤(x10_2:Int):=of_decide_eq_true bA;have q483:x10_2<(l1.length:Int):=of_decide_eq_true bA;obtain ⟨ad483,e483,hx483_0⟩:=Kd.at_string HR1.out x10_2 p483 q483;cases e483;replace hx483_0:=hC HB hx483_0;replace p483:=eq_true p483;replace q483:=eq_true q483
         go_wp2
         go_ret2
         exact ⟨_,by first|rfl|(simp [errW_none,errW_some]<;>rfl)|(simp [*,errW_none,errW_some]<;>rfl),pR HO_6.out,pS HB.out⟩
        ·rw [if_neg c20] at H;have c20b0:decide (15<((rdOf ByteArray.empty l1 x10_2).size:Int))=false:=decide_eq_false c20
         have c20b1:decide (15<(rdOf ByteArray.empty l1 x10_2).size)=false:=decide_eq_false (by omega)
         clear c20
         by_cases c21:x10_2<(t475.length:Int)
         ·rw [if_pos c21] at H;have c21b0:decide (x10_2<(t475.length:Int))=true:=decide_eq_true c21;clear c21
          by_cases c22:(rdOf ByteArray.empty l1 x10_2).toList=(rdOf ByteArray.empty t475 x10_2).toList
          ·rw [if_pos c22] at H;obtain ⟨c22b0,c22b1⟩:=eqB c22;clear c22;have H':=mA H;clear H;have p483:0≤(x10_2:Int):=of_decide_eq_true bA;have q483:x10_2<(l1.length:Int):=of_decide_eq_true bA;obtain ⟨ad483,e483,hx483_0⟩:=Kd.at_string HR1.out x10_2 p483 q483;cases e483;replace hx483_0:=hC HB hx483_0;replace p483:=eq_true p483;replace q483:=eq_true q483
           try go_wp2
           replace HO_6:=rD HO_6;replace HO_7:=rD HO_7;replace HO_9:=rD HO_9;replace BK471:=mA (blk_drew BK471.out);replace HB:=mA (below_drew1 HB.out);have p484:0≤(x10_2:Int):=of_decide_eq_true bA;have q484:x10_2<(l1.length:Int):=of_decide_eq_true bA;obtain ⟨ad484,e484,hx484_0⟩:=Kd.at_string HR1.out x10_2 p484 q484;have hw484_0:=hx484_0
           obtain rfl:ad483=ad484:=(by injection e484)
           replace hx484_0:=hC HB hx484_0;replace p484:=eq_true p484;replace q484:=eq_true q484;obtain ⟨Ao24,co24,eo24⟩:=Kd.R_slice HO_7.out
           (first|subst eo24|(injection eo24 with f1_ f2_ f3_;have f4_:=f1_.symm;have f5_:=f3_.symm;clear f1_ f2_ f3_;subst f4_;subst f5_))
           have p485:0≤(x10_2:Int):=of_decide_eq_true bA;have q485:x10_2<(t475.length:Int):=of_decide_eq_true bA;obtain ⟨ad485,e485,hx485_0⟩:=Kd.at_string (Kd.R_reads' HO_7.out).2.2 x10_2 p485 q485;cases e485;replace p485:=eq_true p485;replace q485:=eq_true q485
           refine start_ (n:=9) (S:=fun w'=>w'.cell? (ad483.add (x10_2).toNat)=some (.string (rdOf ByteArray.empty l1 x10_2))∧w'.cell? (ad485.add (x10_2).toNat)=some (.string (rdOf ByteArray.empty t475 x10_2))) (ds:=[]) _ aK rfl rfl ⟨((HB.out.cell (World.block_lt_of_cell? w _ hw484_0)).trans hw484_0),hx485_0⟩ (fun hHeld=>?_);refine with_tabW spec_WalSteps.tab11 spec_WalSteps.bits11 (fun HT_ HW_=>?_)
           generalize wr.drew=w23 at HO_6 HO_7 HO_9 BK471 HB hx484_0 hx485_0 hHeld ⊢
           refine pu_ 0 (some 46) (aT HT_) ?_
           refine pu_ 1 (some 47) (aT HT_) ?_
           refine pu_ 2 (some 48) (aT HT_) ?_
           refine pu_ 4 (some 50) (aT HT_) ?_
           refine pu_ 5 (some 51) (aT HT_) ?_
           refine pu_ 6 (some 52) (aT HT_) ?_
           refine ta2_ 3 (some 49) (tT HT_ HW_) hHeld ?_
           refine ta2_ 7 (some 53) (tT HT_ HW_) hHeld ?_
           refine pu_ 8 (some 54) (aT HT_) ?_
           refine done_ (done_of HT_.out aK) ?_
           try go_wp2
           go_roundg k2
           case measure=>have:=HJ3.out;have:=HK2.out;omega
           case rel=>exact ⟨(x9_2),(wrap64 (x10_2+1)),bZ,H',⟨by have:=HJ3.out;have:=HK2.out;omega⟩,⟨pR HO_6.out⟩,⟨pR HO_7.out⟩,⟨pR HO_9.out⟩,⟨pK BK471.out⟩,⟨pS HB.out⟩⟩
          ·rw [if_neg c22] at H;have c22b0:((rdOf ByteArray.empty l1 x10_2).toList == (rdOf ByteArray.empty t475 x10_2).toList)=false:=beq_eq_false_iff_ne.mpr c22;have c22b1:((rdOf ByteArray.empty l1 x10_2).toList != (rdOf ByteArray.empty t475 x10_2).toList)=true:=bne_iff_ne.mpr c22
           by_cases c25:x9_2.length<5864062014805
           ·rw [if_pos c25] at H;have LMc25:=mA c25;clear c25;obtain ⟨y487,hy487⟩:∃ y_:List (S75),y_=(x9_2 ++ [(⟨x10_2,rdOf ByteArray.empty l1 x10_2⟩:S75)]):=⟨_,rfl⟩
            replace H:(spec_WalSteps.l0 k2 l1 y472 t475 y487 (wrap64 (x10_2+1)))=some (r1,r2):=qH hy487 H
            have Ny487:=mA hy487;clear hy487;have H':=mA H;clear H;have p483:0≤(x10_2:Int):=of_decide_eq_true bA;have q483:x10_2<(l1.length:Int):=of_decide_eq_true bA;obtain ⟨ad483,e483,hx483_0⟩:=Kd.at_string HR1.out x10_2 p483 q483;cases e483;replace hx483_0:=hC HB hx483_0;replace p483:=eq_true p483;replace q483:=eq_true q483
            try go_wp2
            replace HO_6:=rD HO_6;replace HO_7:=rD HO_7;replace HO_9:=rD HO_9;replace BK471:=mA (blk_drew BK471.out);replace HB:=mA (below_drew1 HB.out);have p484:0≤(x10_2:Int):=of_decide_eq_true bA;have q484:x10_2<(l1.length:Int):=of_decide_eq_true bA;obtain ⟨ad484,e484,hx484_0⟩:=Kd.at_string HR1.out x10_2 p484 q484;have hw484_0:=hx484_0
            obtain rfl:ad483=ad484:=(by injection e484)
            replace hx484_0:=hC HB hx484_0;replace p484:=eq_true p484;replace q484:=eq_true q484;obtain ⟨Ao27,co27,eo27⟩:=Kd.R_slice HO_7.out
            (first|subst eo27|(injection eo27 with f1_ f2_ f3_;have f4_:=f1_.symm;have f5_:=f3_.symm;clear f1_ f2_ f3_;subst f4_;subst f5_))
            have p485:0≤(x10_2:Int):=of_decide_eq_true bA;have q485:x10_2<(t475.length:Int):=of_decide_eq_true bA;obtain ⟨ad485,e485,hx485_0⟩:=Kd.at_string (Kd.R_reads' HO_7.out).2.2 x10_2 p485 q485;cases e485;replace p485:=eq_true p485;replace q485:=eq_true q485
            refine start_ (n:=9) (S:=fun w'=>w'.cell? (ad483.add (x10_2).toNat)=some (.string (rdOf ByteArray.empty l1 x10_2))∧w'.cell? (ad485.add (x10_2).toNat)=some (.string (rdOf ByteArray.empty t475 x10_2))) (ds:=[]) _ aK rfl rfl ⟨((HB.out.cell (World.block_lt_of_cell? w _ hw484_0)).trans hw484_0),hx485_0⟩ (fun hHeld=>?_);refine with_tabW spec_WalSteps.tab11 spec_WalSteps.bits11 (fun HT_ HW_=>?_)
            generalize wr.drew=w26 at HO_6 HO_7 HO_9 BK471 HB hx484_0 hx485_0 hHeld ⊢
            refine pu_ 0 (some 46) (aT HT_) ?_
            refine pu_ 1 (some 47) (aT HT_) ?_
            refine pu_ 2 (some 48) (aT HT_) ?_
            refine pu_ 4 (some 50) (aT HT_) ?_
            refine pu_ 5 (some 51) (aT HT_) ?_
            refine pu_ 6 (some 52) (aT HT_) ?_
            refine ta2_ 3 (some 49) (tT HT_ HW_) hHeld ?_
            refine ta2_ 7 (some 53) (tT HT_ HW_) hHeld ?_
            refine pu_ 8 (some 54) (aT HT_) ?_
            refine done_ (done_of HT_.out aK) ?_
            have p486:0≤(x10_2:Int):=of_decide_eq_true bA;have q486:x10_2<(l1.length:Int):=of_decide_eq_true bA;obtain ⟨ad486,e486,hx486_0⟩:=Kd.at_string HR1.out x10_2 p486 q486
            obtain rfl:ad483=ad486:=(by injection e486)
            replace hx486_0:=hC HB hx486_0;replace p486:=eq_true p486;replace q486:=eq_true q486
            try go_wp2_with (first|((with_reducible refine gate_builtin (b:=.append) (xs:=#[.tmp 55,.tmp 62]) rfl ?_);(try (refine gate_guard (by rfl) ?_;dsimp only));at_builtin;refine Kd.R_append k75 (w0:=w) w.heap.size rfl (.tmp 55) (.tmp 62) 29 75 (.agg #[(.int .i64 0),(.string ⟨#[]⟩)]) 24 rfl Try.underlying29 info75 rfl aD (by omega) u9 x9_2 (⟨x10_2,rdOf ByteArray.empty l1 x10_2⟩:S75) [.int .i64 x10_2,.string (rdOf ByteArray.empty l1 x10_2)] (fun _=>True) (fun _=>False) rfl rfl ?aP (fun _ hk=>hk.elim) ?aF ?aO ?aB ?aS ?aL ?_;(case aP=>exact k75_mkM _ _ _ (⟨x10_2,rdOf ByteArray.empty l1 x10_2⟩:S75));(case aB=>exact (pS HB.out));(case aF=>exact (fun _ _=>trivial));(case aO=>exact (pR HO_9.out));(case aS=>exact (bpS HB));(case aL=>have:=LMc25.out;omega);intro v488 w28 ho hb hg hat;rw [← Ny487.out] at ho;replace HO_6:=mA (Kd.R_over' (pR HO_6.out) (Kd.R_typed (pR HO_9.out)) aD hg);replace HO_7:=mA (Kd.R_over' (pR HO_7.out) (Kd.R_typed (pR HO_9.out)) aD hg);have HO489:=mA ho;replace BK471:=mA (blk_grown (pK BK471.out) hg (rN HO_9 BK471));replace HB:=mA hb;clear HO_9;clear ho hb hg hat))
            go_roundg k2
            case measure=>have:=HJ3.out;have:=HK2.out;omega
            case rel=>exact ⟨(y487),(wrap64 (x10_2+1)),bZ,H',⟨by have:=HJ3.out;have:=HK2.out;omega⟩,⟨pR HO_6.out⟩,⟨pR HO_7.out⟩,⟨pR HO489.out⟩,⟨pK BK471.out⟩,⟨pS HB.out⟩⟩
           ·rw [if_neg c25] at H
            exact absurd H (by simp)
         ·rw [if_neg c21] at H
          exact absurd H (by simp)
       ·rw [if_neg c19] at H
        exact absurd H (by simp)
      ·rw [if_neg c18] at H;have c18b0:decide (x10_2<(l1.length:Int))=false:=decide_eq_false c18;clear c18
       by_cases c29:(x9_2.length:Int)=0
       ·rw [if_pos c29] at H;obtain ⟨c29b0,c29b1⟩:=eqB c29;clear c29;simp only [Option.some.injEq,Prod.mk.injEq] at H;obtain ⟨rfl,rfl⟩:=H;obtain ⟨Ao30,co30,rfl⟩:=Kd.R_slice HO_9.out
        go_wp2
        go_ret2
        exact ⟨_,by first|rfl|(simp [errW_none,errW_some]<;>rfl)|(simp [*,errW_none,errW_some]<;>rfl),pR HO_6.out,pS HB.out⟩
       ·rw [if_neg c29] at H;have c29b0:((x9_2.length:Int) == 0)=false:=beq_eq_false_iff_ne.mpr c29;have c29b1:((x9_2.length:Int) != 0)=true:=bne_iff_ne.mpr c29
        have c29b2:¬ (x9_2=[]):=fun h_=>c29 (by rw [h_];rfl)
        obtain ⟨y490,hy490⟩:∃ y_:List (S61),y_=(([]:List (S61))):=⟨_,rfl⟩
        replace H:(spec_WalSteps.l1 k2 x9_2 y490 0)=some (r1,r2):=qH hy490 H
        have Ny490:=mA hy490;clear hy490;have H':=mA H;clear H;obtain ⟨Ao31,co31,rfl⟩:=Kd.R_slice HO_9.out
        go_wp2_with (first|((with_reducible refine gate_dst (N:=68) rfl ?_);(try (refine gate_guard (by rfl) ?_;dsimp only));refine Kd.R_lit k61 _ 61 ?hg (N:=68) ?hd (xs:=([]:List (S61))) (inner:=[]) (ok:=fun _=>True) (okp:=fun _=>True) ?hr ?hp (fun _ hk=>hk) trivial (Below.refl _ _) (Nat.le_refl _) (by simp) ?_;(case hd=>rfl);(case hg=>rfl);(case hr=>first|(go_simp;done)|(go_simp;rfl));(case hp=>exact (Reps.none _ _));intro v491 w32 ho33 hb hg_ hnew_;clear hg_ hnew_;(first|rw [← Ny490.out] at ho33|(simp only [Int.reduceToNat] at ho33;rw [← Ny490.out] at ho33));replace HO_7:=rB HO_7 hb;replace HO_9:=rB HO_9 hb;have HO492:=mA (Kd.R_lower (Kd.R_new' ho33 (rL HO_6)) (bpS HB));replace HO_6:=rE HO_6 ho33 hb;replace BK471:=bK BK471 hb;replace HB:=spS HB hb;clear hb ho33))
        go_loopg [11,12] k2 (fun kq v11 v12 w'=>∃ (x11_3:List (S61)) (x12_3:Int),v12=.int .i64 x12_3∧Aside0 (spec_WalSteps.l1 kq x9_2 x11_3 x12_3=some (r1,r2))∧Aside0 (kq≤k2)∧Aside0 (Kd.R k75 75 w' w.heap.size (fun _=>True) (.slice Ao31 x9_2.length co31) x9_2)∧Aside0 (Kd.R k61 61 w' w.heap.size (fun _=>True) v11 x11_3)∧Aside0 (w'.heap[gb471]?=some (.cells #[(.slice A0_0 l0_0.length c0_0),(.slice A0_1 l0_1.length c0_1)] 31 (0,0)))∧Aside0 (Below w.heap.size w w'))
        case atStart=>exact ⟨(y490),(0),bZ,H',⟨Nat.le_refl _⟩,⟨pR HO_9.out⟩,⟨pR (Kd.R_mono HO492.out (fun _ hk=>trivial))⟩,⟨pK BK471.out⟩,⟨pS HB.out⟩⟩
        case round =>
         clear H'
         (try clear c15);(try clear c18);(try clear c18b0);(try clear c29);(try clear c29b0);(try clear c29b1);(try clear c29b2);(try clear hcz8_0);(try clear hcz8_1);(try clear hfz8_0);(try clear hfz8_1)
         obtain ⟨x11_3,x12_3,rfl,HA,HK3,HO_9,HO_11,BK471,HB⟩:=hrel
         cases gk with
         | zero=>exact absurd HA.out (by simp [spec_WalSteps.l1])
         | succ k3 =>
          have H:=HA.out;clear HA;simp only [spec_WalSteps.l1] at H
          by_cases c34:x12_3<(x9_2.length:Int)
          ·rw [if_pos c34] at H;have c34b0:decide (x12_3<(x9_2.length:Int))=true:=decide_eq_true c34;clear c34
           by_cases c35:0≤x12_3
           ·rw [if_pos c35] at H;have c35b0:decide (0≤x12_3)=true:=decide_eq_true c35;clear c35;obtain ⟨y494,hy494⟩:∃ y_:List Int,y_=(([((rd_T75 x9_2 x12_3).f0) % 256]:List Int)):=⟨_,rfl⟩
            replace H:(if (strOfNums y494).size+((rd_T75 x9_2 x12_3).f1).size≤9223372036854775807 then ((spec_l2Put.f (wrap64 (1+x12_3)) ((strOfNums y494) ++ ((rd_T75 x9_2 x12_3).f1))).bind fun bt498=>(if x11_3.length<4398046511104 then (spec_WalSteps.l1 k3 x9_2 (x11_3 ++ [(⟨bt498.1,bt498.2.1,bt498.2.2⟩:S61)]) (wrap64 (x12_3+1))) else (none))) else (none))=some (r1,r2):=qH hy494 H
            have Ny494:=mA hy494;clear hy494
            by_cases c36:(strOfNums y494).size+((rd_T75 x9_2 x12_3).f1).size≤9223372036854775807
            ·rw [if_pos c36] at H;have c36b0:=eq_true c36;have c36b1:decide ((strOfNums y494).size+((rd_T75 x9_2 x12_3).f1).size≤9223372036854775807)=true:=decide_eq_true c36
             try have c36b2:(9223372036854775807<(strOfNums y494).size+((rd_T75 x9_2 x12_3).f1).size)=False:=eq_false (Nat.not_lt.2 c36)
             obtain ⟨⟨t498,t499,t500⟩,A37,H⟩:=bI H;(try dsimp only at H)
             by_cases c38:x11_3.length<4398046511104
             ·rw [if_pos c38] at H;have LMc38:=mA c38;clear c38;obtain ⟨y501,hy501⟩:∃ y_:List (S61),y_=(x11_3 ++ [(⟨t498,t499,t500⟩:S61)]):=⟨_,rfl⟩
              replace H:(spec_WalSteps.l1 k3 x9_2 y501 (wrap64 (x12_3+1)))=some (r1,r2):=qH hy501 H
              have Ny501:=mA hy501;clear hy501;have H':=mA H;clear H
              try go_wp2
              replace HO_9:=rD HO_9;replace HO_11:=rD HO_11;replace BK471:=mA (blk_drew BK471.out);replace HB:=mA (below_drew1 HB.out);have p493:0≤(x12_3:Int):=of_decide_eq_true bA;have q493:x12_3<(x9_2.length:Int):=of_decide_eq_true bA;obtain ⟨ad493,e493,hx493_0,hx493_1⟩:=at_T75 (Kd.R_reads' HO_9.out).2.2 x12_3 p493 q493;cases e493;replace p493:=eq_true p493;replace q493:=eq_true q493;have p497:0≤(x12_3:Int):=of_decide_eq_true bA;have q497:x12_3<(x9_2.length:Int):=of_decide_eq_true bA;obtain ⟨ad497,e497,hx497_0,hx497_1⟩:=at_T75 (Kd.R_reads' HO_9.out).2.2 x12_3 p497 q497
              obtain rfl:ad493=ad497:=(by injection e497)
              replace p497:=eq_true p497;replace q497:=eq_true q497
              refine start_ (n:=21) (S:=fun w'=>w'.cell? (ad493.add ((x12_3).toNat * 2))=some (.int .i64 ((rd_T75 x9_2 x12_3).f0))∧w'.cell? ⟨(ad493.add ((x12_3).toNat * 2)).block,(ad493.add ((x12_3).toNat * 2)).off+1,none⟩=some (.string ((rd_T75 x9_2 x12_3).f1))∧w'.cell? (ad493.add ((x12_3).toNat * 2))=some (.int .i64 ((rd_T75 x9_2 x12_3).f0))∧w'.cell? ⟨(ad493.add ((x12_3).toNat * 2)).block,(ad493.add ((x12_3).toNat * 2)).off+1,none⟩=some (.string ((rd_T75 x9_2 x12_3).f1))) (ds:=[18,19]) _ aK rfl rfl ⟨hx493_0,hx493_1,hx497_0,hx497_1⟩ (fun hHeld=>?_);refine with_tabW spec_WalSteps.tab19 spec_WalSteps.bits19 (fun HT_ HW_=>?_)
              generalize wr.drew=w39 at HO_9 HO_11 BK471 HB hx493_0 hx493_1 hx497_0 hx497_1 hHeld ⊢
              refine pu_ 0 (some 75) (aT HT_) ?_
              refine pu_ 1 (some 76) (aT HT_) ?_
              refine pu_ 2 (some 77) (aT HT_) ?_
              refine pu_ 3 (some 78) (aT HT_) ?_
              refine pu_ 4 (some 79) (aT HT_) ?_
              refine pu_ 5 (some 80) (aT HT_) ?_
              refine pu_ 6 (some 81) (aT HT_) ?_
              refine pu_ 11 (some 86) (aT HT_) ?_
              refine pu_ 12 (some 87) (aT HT_) ?_
              refine pu_ 13 (some 88) (aT HT_) ?_
              refine pu_ 14 (some 89) (aT HT_) ?_
              refine ta4_ 7 (some 82) (tT HT_ HW_) hHeld ?_
              refine pu_ 8 (some 83) (aT HT_) ?_
              refine ta4_ 15 (some 90) (tT HT_ HW_) hHeld ?_
              refine on_ 9 (some 84) (oT HT_) ?_;intro K hK
              refine Kd.R_lit_step (Kd.int .u8) _ 5 ?hg (N:=84) ?hd (xs:=([((rd_T75 x9_2 x12_3).f0) % 256]:List Int)) (inner:=[.int .u8 (((rd_T75 x9_2 x12_3).f0) % 256)]) (ok:=fun _=>True) (okp:=fun _=>True) ?hr ?hp (fun _ hk=>hk) trivial (Below.refl _ _) (Nat.le_refl _) (by simp) ?_;(case hd=>rfl);(case hg=>rfl);(case hr=>first|(go_simp;done)|(go_simp;rfl));(case hp=>exact (Reps.one (show Kd.M (Kd.int .u8) _ _ _ (((rd_T75 x9_2 x12_3).f0) % 256) [.int .u8 (((rd_T75 x9_2 x12_3).f0) % 256)] from rfl) (Reps.none _ _)))
              intro v495 w40 ho41 hb hg_ hnew_;have HS0_:=(hb.cell (World.block_lt_of_cell? _ _ (hHeld.1))).trans (hHeld.1);have HS1_:=(hb.cell (World.block_lt_of_cell? _ _ (hHeld.2.1))).trans (hHeld.2.1);have HS2_:=(hb.cell (World.block_lt_of_cell? _ _ (hHeld.2.2.1))).trans (hHeld.2.2.1);have HS3_:=(hb.cell (World.block_lt_of_cell? _ _ (hHeld.2.2.2))).trans (hHeld.2.2.2);clear hg_ hnew_
              (first|rw [← Ny494.out] at ho41|(simp only [Int.reduceToNat] at ho41;rw [← Ny494.out] at ho41))
              replace HO_9:=rB HO_9 hb;replace HO_11:=rB HO_11 hb;have HO496:=mA (Kd.R_lower ho41 (bpS HB));replace BK471:=bK BK471 hb;replace HB:=spS HB hb;clear hb ho41;refine hK.out _ _ ⟨HS0_,HS1_,HS2_,HS3_⟩ (fun hHeld=>?_);clear hK K;refine no_ (some 84) ?_
              refine on_ 10 (some 85) (oT HT_) ?_;intro K hK
              have hcv42:=own_string (P:=Try.prog) Try.underlying46 Try.underlying5 Try.underlying9 (Kd.own_of_R HO496.out)
              refine value_ (w1:=?_) (v:=?_) (by rfl) rfl ?_ ?_
              rotate_left 2
              ·go_simp
               constructor
               ·rfl
               ·rfl
              clear hcv42;refine hK.out _ _ ⟨hHeld.1,hHeld.2.1,hHeld.2.2.1,hHeld.2.2.2⟩ (fun hHeld=>?_);clear hK K;refine no_ (some 85) ?_
              refine pu_ 16 (some 91) (aT HT_) ?_
              refine on_ 17 (some 92) (oT HT_) ?_;intro K hK
              refine gS Try.func60 #[.int .i64 (wrap64 (1+x12_3)),.string ((strOfNums y494) ++ ((rd_T75 x9_2 x12_3).f1))] ?_
              with_reducible refine (spec_l2Put.calls (wrap64 (1+x12_3)) ((strOfNums y494) ++ ((rd_T75 x9_2 x12_3).f1)) t498 t499 t500 _ A37.out).mono ?_
              rintro e w43 ⟨rfl,hb⟩;have HS0_:=(hb.cell (World.block_lt_of_cell? _ _ (hHeld.1))).trans (hHeld.1);have HS1_:=(hb.cell (World.block_lt_of_cell? _ _ (hHeld.2.1))).trans (hHeld.2.1);have HS2_:=(hb.cell (World.block_lt_of_cell? _ _ (hHeld.2.2.1))).trans (hHeld.2.2.1);have HS3_:=(hb.cell (World.block_lt_of_cell? _ _ (hHeld.2.2.2))).trans (hHeld.2.2.2);refine ⟨_,rfl,?_⟩;replace HO_9:=rB HO_9 hb;replace HO_11:=rB HO_11 hb;replace HO496:=rB HO496 hb;replace BK471:=bK BK471 hb;replace HB:=spS HB hb
              (try clear hb)
              refine hK.out _ _ ⟨HS0_,HS1_,HS2_,HS3_⟩ (fun hHeld=>?_);clear hK K;refine no_ (some 92) ?_
              refine last_ (i:=18) (N:=some 93) #[true,true,true,true,true,true,true,true,true,true,true,true,true,true,true,true,true,true,true,false,false] rfl rfl (oT HT_) aD (fun K hK=>?_)
              refine value_ (w1:=?_) (v:=?_) (by rfl) rfl ?_ ?_
              rotate_left 2
              ·go_simp
               constructor
               ·rfl
               ·rfl
              refine hK.out _ _ ?_;clear hK K;refine no_ (some 93) ?_
              refine last_ (i:=19) (N:=some 94) #[true,true,true,true,true,true,true,true,true,true,true,true,true,true,true,true,true,true,true,true,false] rfl rfl (oT HT_) aD (fun K hK=>?_)
              refine Kd.R_append_step k61 (w0:=w) w.heap.size (by rfl) (.tmp 75) (.tmp 93) 38 61 (.agg #[(.bool false),(.int .i64 0),(.string ⟨#[]⟩)]) 32 rfl Try.underlying38 info61 rfl aD (by omega) u11 x11_3 (⟨t498,t499,t500⟩:S61) [.bool t498,.int .i64 t499,.string t500] (fun _=>True) (fun _=>False) rfl rfl ?aP (fun _ hk=>hk.elim) ?aF ?aO ?aB ?aS ?aL ?_
              (case aP=>exact k61_mkM _ _ _ (⟨t498,t499,t500⟩:S61))
              (case aB=>exact (pS HB.out))
              (case aF=>exact (fun _ _=>trivial))
              (case aO=>exact (pR HO_11.out))
              (case aS=>exact (bpS HB))
              (case aL=>have:=LMc38.out;omega)
              intro v502 w44 ho hb hg hat;rw [← Ny501.out] at ho
              replace HO_9:=mA (Kd.R_over' (pR HO_9.out) (Kd.R_typed (pR HO_11.out)) aD hg);replace HO496:=mA (Kd.R_over' (pR HO496.out) (Kd.R_typed (pR HO_11.out)) aD hg);have HO503:=mA ho;replace BK471:=mA (blk_grown (pK BK471.out) hg (rN HO_11 BK471));replace HB:=mA hb;clear HO_11;clear ho hb hg hat;refine hK.out _ _ ?_;clear hK K;refine no_ (some 94) ?_
              refine pu_ 20 (some 11) (aT HT_) ?_
              refine done_ (done_of HT_.out aK) ?_
              try go_wp2
              go_roundg k3
              case measure=>have:=HJ3.out;have:=HK2.out;have:=HK3.out;omega
              case rel=>exact ⟨(y501),(wrap64 (x12_3+1)),bZ,H',⟨by have:=HJ3.out;have:=HK2.out;have:=HK3.out;omega⟩,⟨pR HO_9.out⟩,⟨pR HO503.out⟩,⟨pK BK471.out⟩,⟨pS HB.out⟩⟩
             ·rw [if_neg c38] at H
              exact absurd H (by simp)
            ·rw [if_neg c36] at H
             exact absurd H (by simp)
           ·rw [if_neg c35] at H
            exact absurd H (by simp)
          ·rw [if_neg c34] at H;have c34b0:decide (x12_3<(x9_2.length:Int))=false:=decide_eq_false c34;clear c34;obtain ⟨y504,hy504⟩:∃ y_:List Int,y_=(([((x9_2.length:Int)) % 256]:List Int)):=⟨_,rfl⟩
           replace H:((spec_l2Put.f 0 (strOfNums y504)).bind fun bt507=>((some (([(⟨true,0,(⟨#[]⟩:ByteArray)⟩:S61),(⟨bt507.1,bt507.2.1,bt507.2.2⟩:S61),(⟨true,0,(⟨#[]⟩:ByteArray)⟩:S61)]:List (S61)):List (S61))).bind fun y510=>(if x11_3.length+y510.length<4398046511104 then ((some (x11_3 ++ y510:List (S61))).bind fun y513=>((spec_l2Apply.f k3 x9_2).bind fun t516=>(if y513.length+t516.length<4398046511104 then (some ((y513 ++ t516),true)) else (none)))) else (none))))=some (r1,r2):=qH hy504 H
           have Ny504:=mA hy504;clear hy504;obtain ⟨⟨t507,t508,t509⟩,A45,H⟩:=bI H;(try dsimp only at H);obtain ⟨y510,hy510⟩:∃ y_:List (S61),y_=(([(⟨true,0,(⟨#[]⟩:ByteArray)⟩:S61),(⟨t507,t508,t509⟩:S61),(⟨true,0,(⟨#[]⟩:ByteArray)⟩:S61)]:List (S61))):=⟨_,rfl⟩
           replace H:(if x11_3.length+y510.length<4398046511104 then ((some (x11_3 ++ y510:List (S61))).bind fun y513=>((spec_l2Apply.f k3 x9_2).bind fun t516=>(if y513.length+t516.length<4398046511104 then (some ((y513 ++ t516),true)) else (none)))) else (none))=some (r1,r2):=qH hy510 H
           have Ny510:=mA hy510;clear hy510
           by_cases c46:x11_3.length+y510.length<4398046511104
           ·rw [if_pos c46] at H;have LMc46:=mA c46;clear c46;obtain ⟨y513,hy513⟩:∃ y_:List (S61),y_=(x11_3 ++ y510):=⟨_,rfl⟩
            replace H:((spec_l2Apply.f k3 x9_2).bind fun t516=>(if y513.length+t516.length<4398046511104 then (some ((y513 ++ t516),true)) else (none)))=some (r1,r2):=qH hy513 H
            have Ny513:=mA hy513;clear hy513;obtain ⟨t516,A47,H⟩:=bI H;(try dsimp only at H)
            by_cases c48:y513.length+t516.length<4398046511104
            ·rw [if_pos c48] at H;have LMc48:=mA c48;clear c48;obtain ⟨y519,hy519⟩:∃ y_:List (S61),y_=(y513 ++ t516):=⟨_,rfl⟩
             replace H:(some (y519,true))=some (r1,r2):=qH hy519 H
             have Ny519:=mA hy519;clear hy519;simp only [Option.some.injEq,Prod.mk.injEq] at H;obtain ⟨rfl,rfl⟩:=H
             go_wp2_with (first|((with_reducible refine gate_dst (N:=100) rfl ?_);(try (refine gate_guard (by rfl) ?_;dsimp only));refine Kd.R_lit (Kd.int .u8) _ 5 ?hg (N:=100) ?hd (xs:=([((x9_2.length:Int)) % 256]:List Int)) (inner:=[.int .u8 (((x9_2.length:Int)) % 256)]) (ok:=fun _=>True) (okp:=fun _=>True) ?hr ?hp (fun _ hk=>hk) trivial (Below.refl _ _) (Nat.le_refl _) (by simp) ?_;(case hd=>rfl);(case hg=>rfl);(case hr=>first|(go_simp;done)|(go_simp;rfl));(case hp=>exact (Reps.one (show Kd.M (Kd.int .u8) _ _ _ (((x9_2.length:Int)) % 256) [.int .u8 (((x9_2.length:Int)) % 256)] from rfl) (Reps.none _ _)));intro v505 w49 ho50 hb hg_ hnew_;clear hg_ hnew_;(first|rw [← Ny504.out] at ho50|(simp only [Int.reduceToNat] at ho50;rw [← Ny504.out] at ho50));replace HO_9:=rB HO_9 hb;replace HO_11:=rB HO_11 hb;have HO506:=mA (Kd.R_lower ho50 (bpS HB));replace BK471:=bK BK471 hb;replace HB:=spS HB hb;clear hb ho50;have hcv51:=own_string (P:=Try.prog) Try.underlying46 Try.underlying5 Try.underlying9 (Kd.own_of_R HO506.out))|(refine gL (some 102) Try.func60 #[.int .i64 0,.string (strOfNums y504)] ?_;(with_reducible refine (spec_l2Put.calls 0 (strOfNums y504) t507 t508 t509 _ A45.out).mono ?_);rintro e w52 ⟨rfl,hb⟩;refine ⟨_,rfl,?_⟩;replace HO_9:=rB HO_9 hb;replace HO_11:=rB HO_11 hb;replace HO506:=rB HO506 hb;replace BK471:=bK BK471 hb;replace HB:=spS HB hb;(try clear hb))|((with_reducible refine gate_dst (N:=104) rfl ?_);(try (refine gate_guard (by rfl) ?_;dsimp only));refine Kd.R_lit k61 _ 61 ?hg (N:=104) ?hd (xs:=([(⟨true,0,(⟨#[]⟩:ByteArray)⟩:S61),(⟨t507,t508,t509⟩:S61),(⟨true,0,(⟨#[]⟩:ByteArray)⟩:S61)]:List (S61))) (inner:=[.bool true,.int .i64 0,.string (⟨#[]⟩:ByteArray),.bool t507,.int .i64 t508,.string t509,.bool true,.int .i64 0,.string (⟨#[]⟩:ByteArray)]) (ok:=fun _=>True) (okp:=fun _=>True) ?hr ?hp (fun _ hk=>hk) trivial (Below.refl _ _) (Nat.le_refl _) (by simp) ?_;(case hd=>rfl);(case hg=>rfl);(case hr=>first|(go_simp;done)|(go_simp;rfl));(case hp=>exact (Reps.c3 (show Kd.M k61 _ _ _ (⟨true,0,(⟨#[]⟩:ByteArray)⟩:S61) [.bool true,.int .i64 0,.string (⟨#[]⟩:ByteArray)] from (k61_mkM _ _ _ (⟨true,0,(⟨#[]⟩:ByteArray)⟩:S61) )) (Reps.c3 (show Kd.M k61 _ _ _ (⟨t507,t508,t509⟩:S61) [.bool t507,.int .i64 t508,.string t509] from (k61_mkM _ _ _ (⟨t507,t508,t509⟩:S61) )) (Reps.c3 (show Kd.M k61 _ _ _ (⟨true,0,(⟨#[]⟩:ByteArray)⟩:S61) [.bool true,.int .i64 0,.string (⟨#[]⟩:ByteArray)] from (k61_mkM _ _ _ (⟨true,0,(⟨#[]⟩:ByteArray)⟩:S61) )) (Reps.none _ _)))));intro v511 w53 ho54 hb hg_ hnew_;clear hg_ hnew_;(first|rw [← Ny510.out] at ho54|(simp only [Int.reduceToNat] at ho54;rw [← Ny510.out] at ho54));replace HO_9:=rB HO_9 hb;replace HO506:=rB HO506 hb;have HO512:=mA (Kd.R_lower (Kd.R_new' ho54 (rL HO_11)) (bpS HB));replace HO_11:=rE HO_11 ho54 hb;replace BK471:=bK BK471 hb;replace HB:=spS HB hb;clear hb ho54;obtain ⟨Ao56,co56,rfl⟩:=Kd.R_slice HO512.out)|((with_reducible refine gate_builtin (b:=.append) (xs:=#[.tmp 95,.tmp 104]) rfl ?_);(try (refine gate_guard (by rfl) ?_;dsimp only));at_builtin;refine Kd.R_append_rows k61 (w0:=w) w.heap.size rfl (.tmp 95) (.tmp 104) 38 61 (.agg #[(.bool false),(.int .i64 0),(.string ⟨#[]⟩)]) 32 rfl Try.underlying38 info61 rfl aD (by omega) u11 x11_3 y510 _ _ _ (fun k_=>some k_≠(.slice Ao56 y510.length co56:Value).ownBlock) (fun _=>False) rfl rfl ?aO ?aR (fun _ _ h=>h) (fun _ h=>h.elim) ?aF ?aB ?aS ?aL ?_;(case aR=>exact cR HO512);(case aB=>exact (pS HB.out));(case aF=>exact (fun k_ hk=>Kd.fresh' (rL HO512) k_ hk));(case aO=>exact (pR (Kd.R_mono HO_11.out (fun _ hk=>hk.2))));(case aS=>exact (bpS HB));(case aL=>have:=LMc46.out;omega);intro v514 w55 ho hb hg hat;rw [← Ny513.out] at ho;replace HO_9:=mA (Kd.R_over' (pR HO_9.out) (Kd.R_typed (pR HO_11.out)) aD hg);replace HO506:=mA (Kd.R_over' (pR HO506.out) (Kd.R_typed (pR HO_11.out)) aD hg);replace HO512:=mA (Kd.R_after (ok:=(fun _=>True)) (pR HO512.out) hg hat);have HO515:=mA ho;replace BK471:=mA (blk_grown (pK BK471.out) hg (rN HO_11 BK471));replace HB:=mA hb;clear HO_11;clear ho hb hg hat)|(refine gL (some 108) Try.func55 #[.slice Ao31 x9_2.length co31] ?_;(with_reducible refine (spec_l2Apply.calls k3 _ _ x9_2 t516 _ ?s1 ?s2 A47.out).mono ?_);(case s1=>exact cR HO_9);(case s2=>exact cL HO_9);rintro e w57 ⟨v517,rfl,ho0,hb⟩;refine ⟨_,rfl,?_⟩;replace HO_9:=rB HO_9 hb;replace HO506:=rB HO506 hb;have HO518:=mA (Kd.R_lower (Kd.R_new' (Kd.R_new' ho0 (rL HO512)) (rL HO515)) (bpS HB));replace HO512:=rE HO512 ho0 hb;replace HO515:=rE HO515 ho0 hb;replace BK471:=bK BK471 hb;replace HB:=spS HB hb;(try clear hb);(try clear ho0);obtain ⟨Ao59,co59,rfl⟩:=Kd.R_slice HO518.out)|((with_reducible refine gate_builtin (b:=.append) (xs:=#[.tmp 106,.tmp 108]) rfl ?_);(try (refine gate_guard (by rfl) ?_;dsimp only));at_builtin;refine Kd.R_append_rows k61 (w0:=w) w.heap.size rfl (.tmp 106) (.tmp 108) 38 61 (.agg #[(.bool false),(.int .i64 0),(.string ⟨#[]⟩)]) 32 rfl Try.underlying38 info61 rfl aD (by omega) v514 y513 t516 _ _ _ (fun k_=>some k_≠(.slice Ao56 y510.length co56:Value).ownBlock∧some k_≠(.slice Ao59 t516.length co59:Value).ownBlock) (fun _=>False) rfl rfl ?aO ?aR (fun _ _ h=>h) (fun _ h=>h.elim) ?aF ?aB ?aS ?aL ?_;(case aR=>exact cR HO518);(case aB=>exact (pS HB.out));(case aF=>exact (fun k_ hk=>⟨Kd.fresh' (rL HO512) k_ hk,Kd.fresh' (rL HO518) k_ hk⟩));(case aO=>exact (pR HO515.out));(case aS=>exact (bpS HB));(case aL=>have:=LMc48.out;omega);intro v520 w58 ho hb hg hat;rw [← Ny519.out] at ho;replace HO_9:=mA (Kd.R_over' (pR HO_9.out) (Kd.R_typed (pR HO515.out)) aD hg);replace HO506:=mA (Kd.R_over' (pR HO506.out) (Kd.R_typed (pR HO515.out)) aD hg);replace HO512:=mA (Kd.R_after (ok:=(fun k_=>some k_≠(.slice Ao59 t516.length co59:Value).ownBlock)) (pR (Kd.R_mono HO512.out (fun _ hk=>⟨hk.2,hk.1.2⟩))) hg hat);replace HO518:=mA (Kd.R_after (ok:=(fun k_=>some k_≠(.slice Ao56 y510.length co56:Value).ownBlock)) (pR (Kd.R_mono HO518.out (fun _ hk=>⟨hk.1.2,hk.2⟩))) hg hat);have HO521:=mA ho;replace BK471:=mA (blk_grown (pK BK471.out) hg (rN HO515 BK471));replace HB:=mA hb;clear HO515;clear ho hb hg hat))
             go_ret2
             exact ⟨_,by first|rfl|(simp [errW_none,errW_some]<;>rfl)|(simp [*,errW_none,errW_some]<;>rfl),pR (Kd.R_mono HO521.out (fun _ hk=>trivial)),pS HB.out⟩
            ·rw [if_neg c48] at H
             exact absurd H (by simp)
           ·rw [if_neg c46] at H
            exact absurd H (by simp)

end Go.Proofs.Ythjocaegapchaaa.P
