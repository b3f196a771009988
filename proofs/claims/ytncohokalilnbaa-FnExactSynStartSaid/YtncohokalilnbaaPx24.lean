-- printed by pprint.py (this session's program over the kit's printer) out of the translation. Lean checks it.
import Derived.Test.YtncohokalilnbaaPx0
import Derived.Test.YtncohokalilnbaaPx20
import Derived.Test.YtncohokalilnbaaPx21
import Derived.Test.YtncohokalilnbaaPx23
namespace Go.Proofs.Ytncohokalilnbaa.P
open Go.RowKit Go.Proofs.YtncohokalilnbaaX Go.Proofs.YtncohokalilnbaaW.PrintWords Go.Proofs.YtncohokalilnbaaW.PrintLast Go.Proofs.YtncohokalilnbaaW.PrintMore
attribute [local go_sem] max2_int min2_int max_two min_two max_three min_three max_four min_four   -- for this text's walks alone
set_option linter.unusedVariables false
set_option linter.unusedSimpArgs false

/-! ### laws_heldSynCouncil: function 14 -/
def laws_heldSynCouncil.f (k : Nat) (l0_0 : List (S84)) (l0_1 : List Int) (l0_2 : List (S88)) (a0_3 : Unit) (a0_4 : Unit) (a1 : Int) : Option (Int) := (laws_heldSynVoterS.f k l0_0 a1).bind fun t340 => (if t340 < 0 then (some (-1)) else ((laws_heldIntS.f k l0_1 t340).bind fun t341 => (if t341 < 0 then (some (-1)) else ((laws_heldSynSeekerS.f k l0_2 t341).bind fun t342 => (if t342 < 0 then (some (-1)) else ((laws_heldWordS.f k ([] : List (S93)) t342).bind fun t343 => (if t343 < 0 then (some (-1)) else ((laws_heldSynPaperS.f k ([] : List (S53)) t343).bind fun t344 => (if t344 < 0 then (some (-1)) else (some t344))))))))))
theorem laws_heldSynCouncil.mono : ∀ a0 a1 a2 a3 a4 a5 k, LeO (laws_heldSynCouncil.f k a0 a1 a2 a3 a4 a5) (laws_heldSynCouncil.f (k + 1) a0 a1 a2 a3 a4 a5) := by
 intro a0 a1 a2 a3 a4 a5 k
 unfold laws_heldSynCouncil.f
 repeat' first
   | (with_reducible first|apply laws_heldIntS.mono|apply laws_heldSynPaperS.mono|apply laws_heldSynSeekerS.mono|apply laws_heldSynVoterS.mono|apply laws_heldWordS.mono|exact LeO.refl _|exact LeO.none _|refine LeO.ite ?_ ?_|refine LeO.bind ?_ (fun _=>?_))|exact LeO.none _|refine LeO.ite ?_ ?_|refine LeO.bind ?_ (fun _=>?_)
set_option maxHeartbeats 8000000 in
set_option maxRecDepth 100000 in
theorem laws_heldSynCouncil.calls {k : Nat} {A0_0 : Option Addr} {c0_0 : Nat} {l0_0 : List (S84)} {A0_1 : Option Addr} {c0_1 : Nat} {l0_1 : List Int} {A0_2 : Option Addr} {c0_2 : Nat} {l0_2 : List (S88)} {a0_3 a0_4 : Unit} {a1 r : Int} {w : World} (hr0_0 : Kd.C k84 w A0_0 l0_0.length l0_0) (hc0_0 : l0_0.length ≤ c0_0) (hr0_1 : Kd.C (Kd.int .i64) w A0_1 l0_1.length l0_1) (hc0_1 : l0_1.length ≤ c0_1) (hr0_2 : Kd.C k88 w A0_2 l0_2.length l0_2) (hc0_2 : l0_2.length ≤ c0_2) (h : laws_heldSynCouncil.f k l0_0 l0_1 l0_2 a0_3 a0_4 a1 = some r) :
  Calls Try.prog 14 #[.agg #[.slice A0_0 l0_0.length c0_0,.slice A0_1 l0_1.length c0_1,.slice A0_2 l0_2.length c0_2,.slice none 0 0,.slice none 0 0],.int .i64 a1] w fun e w'=>e=.returned (.int .i64 r)∧Below w.heap.size w w':=by
 have hu28:=Try.underlying28;have HR0_0:=mA hr0_0;have HC0_0:=mA hc0_0;clear hr0_0 hc0_0;have HR0_1:=mA hr0_1;have HC0_1:=mA hc0_1;clear hr0_1 hc0_1;have HR0_2:=mA hr0_2;have HC0_2:=mA hc0_2;clear hr0_2 hc0_2;have HB:=mA (Below.refl w.heap.size w);have H:((laws_heldSynVoterS.f k l0_0 a1).bind fun t340=>(if t340<0 then (some (-1)) else ((laws_heldIntS.f k l0_1 t340).bind fun t341=>(if t341<0 then (some (-1)) else ((laws_heldSynSeekerS.f k l0_2 t341).bind fun t342=>(if t342<0 then (some (-1)) else ((laws_heldWordS.f k ([]:List (S93)) t342).bind fun t343=>(if t343<0 then (some (-1)) else ((laws_heldSynPaperS.f k ([]:List (S53)) t343).bind fun t344=>(if t344<0 then (some (-1)) else (some t344)))))))))))=some r:=h;clear h;obtain ⟨t340,A3,H⟩:=bI H;(try dsimp only at H)
 by_cases c4:t340<0
 ·rw [if_pos c4] at H;have c4b0:decide (t340<0)=true:=decide_eq_true c4;clear c4;obtain rfl:=Option.some.inj H
  go_enter Try.func14,Try.ntmps14
  go_wp2_with (first|((with_reducible refine gT 2 rfl ?_);refine bX 2 ?_;intro gb339 hg w5 hbox hb;have BK339:=mA hbox;have GW339:=gbpB HB hg;have GE339:=gbpB HB hg;replace HB:=spB HB hb;clear hb hbox hg;obtain ⟨hcz6_0,hcz6_1,hcz6_2,hcz6_3,hcz6_4,hfz6_0,hfz6_1,hfz6_2,hfz6_3,hfz6_4⟩:=box5 BK339.out)|((with_reducible refine gT 8 rfl ?_);refine gC (some 8) Try.func44 (laws_heldSynVoterS.calls (cB HR0_0 HB) HC0_0.out A3.out) ?_;rintro e w' ⟨rfl,⟨nd,rfl⟩⟩;refine ⟨_,rfl,?_⟩))
  go_ret
  exact rZ (pS HB.out)
 ·rw [if_neg c4] at H;have c4b0:decide (t340<0)=false:=decide_eq_false c4;clear c4;obtain ⟨t341,A7,H⟩:=bI H;(try dsimp only at H)
  by_cases c8:t341<0
  ·rw [if_pos c8] at H;have c8b0:decide (t341<0)=true:=decide_eq_true c8;clear c8;obtain rfl:=Option.some.inj H
   go_enter Try.func14,Try.ntmps14
   go_wp2_with (first|((with_reducible refine gT 2 rfl ?_);refine bX 2 ?_;intro gb339 hg w9 hbox hb;have BK339:=mA hbox;have GW339:=gbpB HB hg;have GE339:=gbpB HB hg;replace HB:=spB HB hb;clear hb hbox hg;obtain ⟨hcz10_0,hcz10_1,hcz10_2,hcz10_3,hcz10_4,hfz10_0,hfz10_1,hfz10_2,hfz10_3,hfz10_4⟩:=box5 BK339.out)|((with_reducible refine gT 8 rfl ?_);refine gC (some 8) Try.func44 (laws_heldSynVoterS.calls (cB HR0_0 HB) HC0_0.out A3.out) ?_;rintro e w' ⟨rfl,⟨nd,rfl⟩⟩;refine ⟨_,rfl,?_⟩)|((with_reducible refine gT 14 rfl ?_);refine gC (some 14) Try.func45 (laws_heldIntS.calls (pC (Kd.C_below HR0_1.out (pS HB.out))) HC0_1.out A7.out) ?_;rintro e w' ⟨rfl,⟨nd,rfl⟩⟩;refine ⟨_,rfl,?_⟩))
   go_ret
   exact rZ (pS HB.out)
  ·rw [if_neg c8] at H;have c8b0:decide (t341<0)=false:=decide_eq_false c8;clear c8;obtain ⟨t342,A11,H⟩:=bI H;(try dsimp only at H)
   by_cases c12:t342<0
   ·rw [if_pos c12] at H;have c12b0:decide (t342<0)=true:=decide_eq_true c12;clear c12;obtain rfl:=Option.some.inj H
    go_enter Try.func14,Try.ntmps14
    go_wp2_with (first|((with_reducible refine gT 2 rfl ?_);refine bX 2 ?_;intro gb339 hg w13 hbox hb;have BK339:=mA hbox;have GW339:=gbpB HB hg;have GE339:=gbpB HB hg;replace HB:=spB HB hb;clear hb hbox hg;obtain ⟨hcz14_0,hcz14_1,hcz14_2,hcz14_3,hcz14_4,hfz14_0,hfz14_1,hfz14_2,hfz14_3,hfz14_4⟩:=box5 BK339.out)|((with_reducible refine gT 8 rfl ?_);refine gC (some 8) Try.func44 (laws_heldSynVoterS.calls (cB HR0_0 HB) HC0_0.out A3.out) ?_;rintro e w' ⟨rfl,⟨nd,rfl⟩⟩;refine ⟨_,rfl,?_⟩)|((with_reducible refine gT 14 rfl ?_);refine gC (some 14) Try.func45 (laws_heldIntS.calls (pC (Kd.C_below HR0_1.out (pS HB.out))) HC0_1.out A7.out) ?_;rintro e w' ⟨rfl,⟨nd,rfl⟩⟩;refine ⟨_,rfl,?_⟩)|((with_reducible refine gT 20 rfl ?_);refine gC (some 20) Try.func46 (laws_heldSynSeekerS.calls (pC (Kd.C_below HR0_2.out (pS HB.out))) HC0_2.out A11.out) ?_;rintro e w' ⟨rfl,⟨nd,rfl⟩⟩;refine ⟨_,rfl,?_⟩))
    go_ret
    exact rZ (pS HB.out)
   ·rw [if_neg c12] at H;have c12b0:decide (t342<0)=false:=decide_eq_false c12;clear c12;obtain ⟨t343,A15,H⟩:=bI H;(try dsimp only at H)
    by_cases c16:t343<0
    ·rw [if_pos c16] at H;have c16b0:decide (t343<0)=true:=decide_eq_true c16;clear c16;obtain rfl:=Option.some.inj H
     go_enter Try.func14,Try.ntmps14
     go_wp2_with (first|((with_reducible refine gT 2 rfl ?_);refine bX 2 ?_;intro gb339 hg w17 hbox hb;have BK339:=mA hbox;have GW339:=gbpB HB hg;have GE339:=gbpB HB hg;replace HB:=spB HB hb;clear hb hbox hg;obtain ⟨hcz18_0,hcz18_1,hcz18_2,hcz18_3,hcz18_4,hfz18_0,hfz18_1,hfz18_2,hfz18_3,hfz18_4⟩:=box5 BK339.out)|((with_reducible refine gT 8 rfl ?_);refine gC (some 8) Try.func44 (laws_heldSynVoterS.calls (cB HR0_0 HB) HC0_0.out A3.out) ?_;rintro e w' ⟨rfl,⟨nd,rfl⟩⟩;refine ⟨_,rfl,?_⟩)|((with_reducible refine gT 14 rfl ?_);refine gC (some 14) Try.func45 (laws_heldIntS.calls (pC (Kd.C_below HR0_1.out (pS HB.out))) HC0_1.out A7.out) ?_;rintro e w' ⟨rfl,⟨nd,rfl⟩⟩;refine ⟨_,rfl,?_⟩)|((with_reducible refine gT 20 rfl ?_);refine gC (some 20) Try.func46 (laws_heldSynSeekerS.calls (pC (Kd.C_below HR0_2.out (pS HB.out))) HC0_2.out A11.out) ?_;rintro e w' ⟨rfl,⟨nd,rfl⟩⟩;refine ⟨_,rfl,?_⟩)|(refine gL (some 26) Try.func47 #[.slice none 0 0,.int .i64 t342] ?_;(refine (laws_heldWordS.calls ?s1 ?s2 A15.out).mono ?_);(case s1=>exact Kd.C_nil _ _);(case s2=>exact Nat.le_refl _);rintro e w' ⟨rfl,⟨nd,rfl⟩⟩;refine ⟨_,rfl,?_⟩))
     go_ret
     exact rZ (pS HB.out)
    ·rw [if_neg c16] at H;have c16b0:decide (t343<0)=false:=decide_eq_false c16;clear c16;obtain ⟨t344,A19,H⟩:=bI H;(try dsimp only at H)
     by_cases c20:t344<0
     ·rw [if_pos c20] at H;have c20b0:decide (t344<0)=true:=decide_eq_true c20;clear c20;obtain rfl:=Option.some.inj H
      go_enter Try.func14,Try.ntmps14
      go_wp2_with (first|((with_reducible refine gT 2 rfl ?_);refine bX 2 ?_;intro gb339 hg w21 hbox hb;have BK339:=mA hbox;have GW339:=gbpB HB hg;have GE339:=gbpB HB hg;replace HB:=spB HB hb;clear hb hbox hg;obtain ⟨hcz22_0,hcz22_1,hcz22_2,hcz22_3,hcz22_4,hfz22_0,hfz22_1,hfz22_2,hfz22_3,hfz22_4⟩:=box5 BK339.out)|((with_reducible refine gT 8 rfl ?_);refine gC (some 8) Try.func44 (laws_heldSynVoterS.calls (cB HR0_0 HB) HC0_0.out A3.out) ?_;rintro e w' ⟨rfl,⟨nd,rfl⟩⟩;refine ⟨_,rfl,?_⟩)|((with_reducible refine gT 14 rfl ?_);refine gC (some 14) Try.func45 (laws_heldIntS.calls (pC (Kd.C_below HR0_1.out (pS HB.out))) HC0_1.out A7.out) ?_;rintro e w' ⟨rfl,⟨nd,rfl⟩⟩;refine ⟨_,rfl,?_⟩)|((with_reducible refine gT 20 rfl ?_);refine gC (some 20) Try.func46 (laws_heldSynSeekerS.calls (pC (Kd.C_below HR0_2.out (pS HB.out))) HC0_2.out A11.out) ?_;rintro e w' ⟨rfl,⟨nd,rfl⟩⟩;refine ⟨_,rfl,?_⟩)|(refine gL (some 26) Try.func47 #[.slice none 0 0,.int .i64 t342] ?_;(refine (laws_heldWordS.calls ?s1 ?s2 A15.out).mono ?_);(case s1=>exact Kd.C_nil _ _);(case s2=>exact Nat.le_refl _);rintro e w' ⟨rfl,⟨nd,rfl⟩⟩;refine ⟨_,rfl,?_⟩)|(refine gL (some 32) Try.func48 #[.slice none 0 0,.int .i64 t343] ?_;(refine (laws_heldSynPaperS.calls ?s1 ?s2 A19.out).mono ?_);(case s1=>exact Kd.C_nil _ _);(case s2=>exact Nat.le_refl _);rintro e w' ⟨rfl,⟨nd,rfl⟩⟩;refine ⟨_,rfl,?_⟩))
      go_ret
      exact rZ (pS HB.out)
     ·rw [if_neg c20] at H;have c20b0:decide (t344<0)=false:=decide_eq_false c20;clear c20;obtain rfl:=Option.some.inj H
      go_enter Try.func14,Try.ntmps14
      go_wp2_with (first|((with_reducible refine gT 2 rfl ?_);refine bX 2 ?_;intro gb339 hg w23 hbox hb;have BK339:=mA hbox;have GW339:=gbpB HB hg;have GE339:=gbpB HB hg;replace HB:=spB HB hb;clear hb hbox hg;obtain ⟨hcz24_0,hcz24_1,hcz24_2,hcz24_3,hcz24_4,hfz24_0,hfz24_1,hfz24_2,hfz24_3,hfz24_4⟩:=box5 BK339.out)|((with_reducible refine gT 8 rfl ?_);refine gC (some 8) Try.func44 (laws_heldSynVoterS.calls (cB HR0_0 HB) HC0_0.out A3.out) ?_;rintro e w' ⟨rfl,⟨nd,rfl⟩⟩;refine ⟨_,rfl,?_⟩)|((with_reducible refine gT 14 rfl ?_);refine gC (some 14) Try.func45 (laws_heldIntS.calls (pC (Kd.C_below HR0_1.out (pS HB.out))) HC0_1.out A7.out) ?_;rintro e w' ⟨rfl,⟨nd,rfl⟩⟩;refine ⟨_,rfl,?_⟩)|((with_reducible refine gT 20 rfl ?_);refine gC (some 20) Try.func46 (laws_heldSynSeekerS.calls (pC (Kd.C_below HR0_2.out (pS HB.out))) HC0_2.out A11.out) ?_;rintro e w' ⟨rfl,⟨nd,rfl⟩⟩;refine ⟨_,rfl,?_⟩)|(refine gL (some 26) Try.func47 #[.slice none 0 0,.int .i64 t342] ?_;(refine (laws_heldWordS.calls ?s1 ?s2 A15.out).mono ?_);(case s1=>exact Kd.C_nil _ _);(case s2=>exact Nat.le_refl _);rintro e w' ⟨rfl,⟨nd,rfl⟩⟩;refine ⟨_,rfl,?_⟩)|(refine gL (some 32) Try.func48 #[.slice none 0 0,.int .i64 t343] ?_;(refine (laws_heldSynPaperS.calls ?s1 ?s2 A19.out).mono ?_);(case s1=>exact Kd.C_nil _ _);(case s2=>exact Nat.le_refl _);rintro e w' ⟨rfl,⟨nd,rfl⟩⟩;refine ⟨_,rfl,?_⟩))
      go_ret
      exact rZ (pS HB.out)

end Go.Proofs.Ytncohokalilnbaa.P
