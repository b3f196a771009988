-- printed by pprint.py (this session's program over the kit's printer) out of the translation. Lean checks it.
import Derived.Test.YtncohokalilnbaaPx0
import Derived.Test.YtncohokalilnbaaPx8
import Derived.Test.YtncohokalilnbaaPx9
import Derived.Test.YtncohokalilnbaaPx10
namespace Go.Proofs.Ytncohokalilnbaa.P
open Go.RowKit Go.Proofs.YtncohokalilnbaaX Go.Proofs.YtncohokalilnbaaW.PrintWords Go.Proofs.YtncohokalilnbaaW.PrintLast Go.Proofs.YtncohokalilnbaaW.PrintMore
attribute [local go_sem] max2_int min2_int max_two min_two max_three min_three max_four min_four   -- for this text's walks alone
set_option linter.unusedVariables false
set_option linter.unusedSimpArgs false

/-! ### impl_SynCouncilOk: function 18 -/
mutual
def impl_SynCouncilOk.j0 : Nat → Bool → List (S84) → List Int → List (S88) → List (S93) → List (S53) → Option (Bool)
 | 0,_,_,_,_,_,_=>none
 | k+1,x35,x572000,x572001,x572002,x572003,x572004=>if x35=true then (some false) else (impl_SynCouncilOk.l0 k (x572000.length:Int) 0 x572000 x572001 x572002 x572003 x572004)
def impl_SynCouncilOk.l0 : Nat → Int → Int → List (S84) → List Int → List (S88) → List (S93) → List (S53) → Option (Bool)
 | 0,_,_,_,_,_,_,_=>none
 | k+1,x38,x39,x572000,x572001,x572002,x572003,x572004=>if x39<x38 then (if 0≤x39 then (if x39<(x572000.length:Int) then ((impl_SynVoterOk.f k ((rd_T84 x572000 x39).f0) ((rd_T84 x572000 x39).f1)).bind fun t573=>(if t573=true then (if x39<(x572001.length:Int) then ((impl_in.f (rd x572001 x39) 0 12498).bind fun t575=>(if t575=true then (if x39<(x572002.length:Int) then ((impl_SynSeekerOk.f k ((rd_T88 x572002 x39).f0) ((rd_T88 x572002 x39).f1) ((rd_T88 x572002 x39).f2) ((rd_T88 x572002 x39).f3.f0) ((rd_T88 x572002 x39).f3.f1) ((rd_T88 x572002 x39).f3.f2) ((rd_T88 x572002 x39).f3.f3) ((rd_T88 x572002 x39).f3.f4) ((rd_T88 x572002 x39).f3.f5) ((rd_T88 x572002 x39).f3.f6) ((rd_T88 x572002 x39).f3.f7) ((rd_T88 x572002 x39).f3.f8) ((rd_T88 x572002 x39).f3.f9) ((rd_T88 x572002 x39).f4.f0) ((rd_T88 x572002 x39).f4.f1) ((rd_T88 x572002 x39).f4.f2.f0) ((rd_T88 x572002 x39).f4.f2.f1) ((rd_T88 x572002 x39).f4.f2.f2) ((rd_T88 x572002 x39).f4.f2.f3) ((rd_T88 x572002 x39).f4.f2.f4) ((rd_T88 x572002 x39).f4.f2.f5) ((rd_T88 x572002 x39).f4.f2.f6) ((rd_T88 x572002 x39).f4.f2.f7) ((rd_T88 x572002 x39).f4.f2.f8) ((rd_T88 x572002 x39).f4.f2.f9) ((rd_T88 x572002 x39).f5)).bind fun t577=>(if t577=true then (impl_SynCouncilOk.l0 k x38 (wrap64 (x39+1)) x572000 x572001 x572002 x572003 x572004) else (some false))) else (none)) else (some false))) else (none)) else (some false))) else (none)) else (none)) else (impl_SynCouncilOk.l1 k x572003 (x572003.length:Int) 0 x572000 x572001 x572002 x572003 x572004)
def impl_SynCouncilOk.l1 : Nat → List (S93) → Int → Int → List (S84) → List Int → List (S88) → List (S93) → List (S53) → Option (Bool)
 | 0,_,_,_,_,_,_,_,_=>none
 | k+1,x69,x70,x71,x572000,x572001,x572002,x572003,x572004=>if x71<x70 then (if 0≤x71 then (if x71<(x69.length:Int) then ((impl_WordOk.f k ((rd_T93 x69 x71).f0) ((rd_T93 x69 x71).f1) ((rd_T93 x69 x71).f2) ((rd_T93 x69 x71).f3) ((rd_T93 x69 x71).f4) ((rd_T93 x69 x71).f5) ((rd_T93 x69 x71).f6.f0) ((rd_T93 x69 x71).f6.f1) ((rd_T93 x69 x71).f6.f2) ((rd_T93 x69 x71).f6.f3) ((rd_T93 x69 x71).f6.f4) ((rd_T93 x69 x71).f6.f5) ((rd_T93 x69 x71).f6.f6) ((rd_T93 x69 x71).f6.f7) ((rd_T93 x69 x71).f6.f8) ((rd_T93 x69 x71).f6.f9) ((rd_T93 x69 x71).f7) ((rd_T93 x69 x71).f8) ((rd_T93 x69 x71).f9) ((rd_T93 x69 x71).f10) ((rd_T93 x69 x71).f11) ((rd_T93 x69 x71).f12) ((rd_T93 x69 x71).f13) ((rd_T93 x69 x71).f14) ((rd_T93 x69 x71).f15) ((rd_T93 x69 x71).f16)).bind fun t580=>(if t580=true then (impl_SynCouncilOk.l1 k x69 x70 (wrap64 (x71+1)) x572000 x572001 x572002 x572003 x572004) else (some false))) else (none)) else (none)) else (impl_SynCouncilOk.l2 k x572004 (x572004.length:Int) 0)
def impl_SynCouncilOk.l2 : Nat → List (S53) → Int → Int → Option (Bool)
 | 0,_,_,_=>none
 | k+1,x80,x81,x82=>if x82<x81 then (if 0≤x82 then (if x82<(x80.length:Int) then ((impl_paperOk.f k ((rd_T53 x80 x82).f0) ((rd_T53 x80 x82).f1) ((rd_T53 x80 x82).f2.f0) ((rd_T53 x80 x82).f2.f1) ((rd_T53 x80 x82).f2.f2) ((rd_T53 x80 x82).f2.f3) ((rd_T53 x80 x82).f2.f4) ((rd_T53 x80 x82).f2.f5) ((rd_T53 x80 x82).f2.f6) ((rd_T53 x80 x82).f2.f7) ((rd_T53 x80 x82).f2.f8) ((rd_T53 x80 x82).f2.f9)).bind fun t583=>(if t583=true then (impl_SynCouncilOk.l2 k x80 x81 (wrap64 (x82+1))) else (some false))) else (none)) else (none)) else (some true)
end
def impl_SynCouncilOk.f (k : Nat) (l0_0 : List (S84)) (l0_1 : List Int) (l0_2 : List (S88)) (l0_3 : List (S93)) (l0_4 : List (S53)) : Option (Bool) := if (l0_0.length : Int) = 3 then (if (l0_1.length : Int) = 3 then (if (l0_2.length : Int) = 3 then (if (l0_3.length : Int) > 60 then (impl_SynCouncilOk.j0 k true l0_0 l0_1 l0_2 l0_3 l0_4) else (impl_SynCouncilOk.j0 k (decide ((l0_4.length : Int) > 240)) l0_0 l0_1 l0_2 l0_3 l0_4)) else (impl_SynCouncilOk.j0 k true l0_0 l0_1 l0_2 l0_3 l0_4)) else (impl_SynCouncilOk.j0 k true l0_0 l0_1 l0_2 l0_3 l0_4)) else (impl_SynCouncilOk.j0 k true l0_0 l0_1 l0_2 l0_3 l0_4)
theorem impl_SynCouncilOk.mono_l : ∀ k, (∀ y0 y1 y2 y3 y4 y5, LeO (impl_SynCouncilOk.j0 k y0 y1 y2 y3 y4 y5) (impl_SynCouncilOk.j0 (k + 1) y0 y1 y2 y3 y4 y5)) ∧ (∀ y0 y1 y2 y3 y4 y5 y6, LeO (impl_SynCouncilOk.l0 k y0 y1 y2 y3 y4 y5 y6) (impl_SynCouncilOk.l0 (k + 1) y0 y1 y2 y3 y4 y5 y6)) ∧ (∀ y0 y1 y2 y3 y4 y5 y6 y7, LeO (impl_SynCouncilOk.l1 k y0 y1 y2 y3 y4 y5 y6 y7) (impl_SynCouncilOk.l1 (k + 1) y0 y1 y2 y3 y4 y5 y6 y7)) ∧ (∀ y0 y1 y2, LeO (impl_SynCouncilOk.l2 k y0 y1 y2) (impl_SynCouncilOk.l2 (k + 1) y0 y1 y2))
 | 0=>⟨fun _ _ _ _ _ _ r h=>by simp [impl_SynCouncilOk.j0] at h,fun _ _ _ _ _ _ _ r h=>by simp [impl_SynCouncilOk.l0] at h,fun _ _ _ _ _ _ _ _ r h=>by simp [impl_SynCouncilOk.l1] at h,fun _ _ _ r h=>by simp [impl_SynCouncilOk.l2] at h⟩
 | k+1=>by
  obtain ⟨ih0,ih1,ih2,ih3⟩:=impl_SynCouncilOk.mono_l k;refine ⟨?_,?_,?_,?_⟩
  ·intros
   unfold impl_SynCouncilOk.j0
   repeat' first
   | (with_reducible first|apply ih0|apply ih1|apply ih2|apply ih3|apply impl_SynSeekerOk.mono|apply impl_SynVoterOk.mono|apply impl_WordOk.mono|apply impl_paperOk.mono|exact LeO.refl _|exact LeO.none _|refine LeO.ite ?_ ?_|refine LeO.bind ?_ (fun _=>?_))|exact LeO.none _|refine LeO.ite ?_ ?_|refine LeO.bind ?_ (fun _=>?_)
  ·intros
   unfold impl_SynCouncilOk.l0
   repeat' first
   | (with_reducible first|apply ih0|apply ih1|apply ih2|apply ih3|apply impl_SynSeekerOk.mono|apply impl_SynVoterOk.mono|apply impl_WordOk.mono|apply impl_paperOk.mono|exact LeO.refl _|exact LeO.none _|refine LeO.ite ?_ ?_|refine LeO.bind ?_ (fun _=>?_))|exact LeO.none _|refine LeO.ite ?_ ?_|refine LeO.bind ?_ (fun _=>?_)
  ·intros
   unfold impl_SynCouncilOk.l1
   repeat' first
   | (with_reducible first|apply ih0|apply ih1|apply ih2|apply ih3|apply impl_SynSeekerOk.mono|apply impl_SynVoterOk.mono|apply impl_WordOk.mono|apply impl_paperOk.mono|exact LeO.refl _|exact LeO.none _|refine LeO.ite ?_ ?_|refine LeO.bind ?_ (fun _=>?_))|exact LeO.none _|refine LeO.ite ?_ ?_|refine LeO.bind ?_ (fun _=>?_)
  ·intros
   unfold impl_SynCouncilOk.l2
   repeat' first
   | (with_reducible first|apply ih0|apply ih1|apply ih2|apply ih3|apply impl_SynSeekerOk.mono|apply impl_SynVoterOk.mono|apply impl_WordOk.mono|apply impl_paperOk.mono|exact LeO.refl _|exact LeO.none _|refine LeO.ite ?_ ?_|refine LeO.bind ?_ (fun _=>?_))|exact LeO.none _|refine LeO.ite ?_ ?_|refine LeO.bind ?_ (fun _=>?_)
theorem impl_SynCouncilOk.mono : ∀ a0 a1 a2 a3 a4 k, LeO (impl_SynCouncilOk.f k a0 a1 a2 a3 a4) (impl_SynCouncilOk.f (k + 1) a0 a1 a2 a3 a4) := by
 intro a0 a1 a2 a3 a4 k;obtain ⟨ih0,ih1,ih2,ih3⟩:=impl_SynCouncilOk.mono_l k
 unfold impl_SynCouncilOk.f
 repeat' first
   | (with_reducible first|apply ih0|apply ih1|apply ih2|apply ih3|apply impl_SynSeekerOk.mono|apply impl_SynVoterOk.mono|apply impl_WordOk.mono|apply impl_paperOk.mono|exact LeO.refl _|exact LeO.none _|refine LeO.ite ?_ ?_|refine LeO.bind ?_ (fun _=>?_))|exact LeO.none _|refine LeO.ite ?_ ?_|refine LeO.bind ?_ (fun _=>?_)
set_option maxHeartbeats 8000000 in
set_option maxRecDepth 100000 in
theorem impl_SynCouncilOk.calls {k : Nat} {A0_0 : Option Addr} {c0_0 : Nat} {l0_0 : List (S84)} {A0_1 : Option Addr} {c0_1 : Nat} {l0_1 : List Int} {A0_2 : Option Addr} {c0_2 : Nat} {l0_2 : List (S88)} {A0_3 : Option Addr} {c0_3 : Nat} {l0_3 : List (S93)} {A0_4 : Option Addr} {c0_4 : Nat} {l0_4 : List (S53)} {r : Bool} {w : World} (hr0_0 : Kd.C k84 w A0_0 l0_0.length l0_0) (hc0_0 : l0_0.length ≤ c0_0) (hr0_1 : Kd.C (Kd.int .i64) w A0_1 l0_1.length l0_1) (hc0_1 : l0_1.length ≤ c0_1) (hr0_2 : Kd.C k88 w A0_2 l0_2.length l0_2) (hc0_2 : l0_2.length ≤ c0_2) (hr0_3 : Kd.C k93 w A0_3 l0_3.length l0_3) (hc0_3 : l0_3.length ≤ c0_3) (hr0_4 : Kd.C k53 w A0_4 l0_4.length l0_4) (hc0_4 : l0_4.length ≤ c0_4) (h : impl_SynCouncilOk.f k l0_0 l0_1 l0_2 l0_3 l0_4 = some r) :
  Calls Try.prog 18 #[.agg #[.slice A0_0 l0_0.length c0_0,.slice A0_1 l0_1.length c0_1,.slice A0_2 l0_2.length c0_2,.slice A0_3 l0_3.length c0_3,.slice A0_4 l0_4.length c0_4]] w fun e w'=>e=.returned (.bool r)∧Below w.heap.size w w':=by
 have hu28:=Try.underlying28;have hu84:=Try.underlying84;have hu88:=Try.underlying88;have hu93:=Try.underlying93;have hu53:=Try.underlying53;have HR0_0:=mA hr0_0;have HC0_0:=mA hc0_0;clear hr0_0 hc0_0;have HR0_1:=mA hr0_1;have HC0_1:=mA hc0_1;clear hr0_1 hc0_1;have HR0_2:=mA hr0_2;have HC0_2:=mA hc0_2;clear hr0_2 hc0_2;have HR0_3:=mA hr0_3;have HC0_3:=mA hc0_3;clear hr0_3 hc0_3;have HR0_4:=mA hr0_4;have HC0_4:=mA hc0_4;clear hr0_4 hc0_4;have HB:=mA (Below.refl w.heap.size w);have H:(if (l0_0.length:Int)=3 then (if (l0_1.length:Int)=3 then (if (l0_2.length:Int)=3 then (if (l0_3.length:Int) > 60 then (impl_SynCouncilOk.j0 k true l0_0 l0_1 l0_2 l0_3 l0_4) else (impl_SynCouncilOk.j0 k (decide ((l0_4.length:Int) > 240)) l0_0 l0_1 l0_2 l0_3 l0_4)) else (impl_SynCouncilOk.j0 k true l0_0 l0_1 l0_2 l0_3 l0_4)) else (impl_SynCouncilOk.j0 k true l0_0 l0_1 l0_2 l0_3 l0_4)) else (impl_SynCouncilOk.j0 k true l0_0 l0_1 l0_2 l0_3 l0_4))=some r:=h;clear h;have HC2:=mA H;clear H
 go_enter Try.func18,Try.ntmps18
 go_upto_region 1 with (first|((with_reducible refine gLg rfl (by assumption) ?_);first|refine ldW ?_|refine ldX ?_)|((with_reducible refine gLg rfl (by assumption) ?_);refine ldV ?_)|((with_reducible refine gSt rfl (by assumption) ?_);refine stV ?_)|((with_reducible refine gT 1 rfl ?_);(try (refine gate_guard (by rfl) ?_;dsimp only));refine bX 1 ?_;intro gb571 hg w3 hbox hb;have BK571:=mA hbox;have GW571:=gbpB HB hg;have GE571:=gbpB HB hg;replace HB:=spB HB hb;clear hb hbox hg))
 (try simp only [Act.put,List.setIfInBounds_toArray,List.set_cons_zero,List.set_cons_succ])
 go_cut [35] (fun v35 wc=>∃ (kq:Nat) (x35_1:Bool),v35=.bool x35_1∧Aside0 (impl_SynCouncilOk.j0 kq x35_1 l0_0 l0_1 l0_2 l0_3 l0_4=some r)∧Aside0 (kq≤k)∧Aside0 (wc.heap[gb571]?=some (.cells #[(.slice A0_0 l0_0.length c0_0),(.slice A0_1 l0_1.length c0_1),(.slice A0_2 l0_2.length c0_2),(.slice A0_3 l0_3.length c0_3),(.slice A0_4 l0_4.length c0_4)] 28 (0,0)))∧Aside0 (Below w.heap.size w wc))
 case first =>
  have H:=HC2.out;clear HC2
  by_cases c4:(l0_0.length:Int)=3
  ·rw [if_pos c4] at H;obtain ⟨c4b0,c4b1⟩:=eqB c4;clear c4
   (first|rw [c4b0]|(simp only [i64_w,i32_w];rw [c4b0])|skip)
   by_cases c5:(l0_1.length:Int)=3
   ·rw [if_pos c5] at H;obtain ⟨c5b0,c5b1⟩:=eqB c5;clear c5
    by_cases c6:(l0_2.length:Int)=3
    ·rw [if_pos c6] at H;obtain ⟨c6b0,c6b1⟩:=eqB c6;clear c6
     by_cases c7:(l0_3.length:Int) > 60
     ·rw [if_pos c7] at H;have c7b0:decide (60<(l0_3.length:Int))=true:=decide_eq_true c7
      have c7b1:decide (60<l0_3.length)=true:=decide_eq_true (by omega)
      clear c7;have H':=mA H;clear H;obtain ⟨hcz8_0,hcz8_1,hcz8_2,hcz8_3,hcz8_4,hfz8_0,hfz8_1,hfz8_2,hfz8_3,hfz8_4⟩:=box5 BK571.out
      go_wp2_with (first|((with_reducible refine gLg rfl (by assumption) ?_);first|refine ldW ?_|refine ldX ?_)|((with_reducible refine gLg rfl (by assumption) ?_);refine ldV ?_)|((with_reducible refine gSt rfl (by assumption) ?_);refine stV ?_))
      go_meet
      case rel=>exact ⟨_,(true),bZ,H',⟨by first|omega|exact Nat.le_refl _⟩,⟨pK BK571.out⟩,⟨pS HB.out⟩⟩
     ·rw [if_neg c7] at H;have c7b0:decide (60<(l0_3.length:Int))=false:=decide_eq_false c7
      have c7b1:decide (60<l0_3.length)=false:=decide_eq_false (by omega)
      clear c7;have H':=mA H;clear H;obtain ⟨hcz9_0,hcz9_1,hcz9_2,hcz9_3,hcz9_4,hfz9_0,hfz9_1,hfz9_2,hfz9_3,hfz9_4⟩:=box5 BK571.out
      go_wp2_with (first|((with_reducible refine gLg rfl (by assumption) ?_);first|refine ldW ?_|refine ldX ?_)|((with_reducible refine gLg rfl (by assumption) ?_);refine ldV ?_)|((with_reducible refine gSt rfl (by assumption) ?_);refine stV ?_))
      go_meet
      case rel=>exact ⟨_,(decide ((l0_4.length:Int) > 240)),bZ,H',⟨by first|omega|exact Nat.le_refl _⟩,⟨pK BK571.out⟩,⟨pS HB.out⟩⟩
    ·rw [if_neg c6] at H;have c6b0:((l0_2.length:Int) == 3)=false:=beq_eq_false_iff_ne.mpr c6;have c6b1:((l0_2.length:Int) != 3)=true:=bne_iff_ne.mpr c6;have H':=mA H;clear H;obtain ⟨hcz10_0,hcz10_1,hcz10_2,hcz10_3,hcz10_4,hfz10_0,hfz10_1,hfz10_2,hfz10_3,hfz10_4⟩:=box5 BK571.out
     go_wp2_with (first|((with_reducible refine gLg rfl (by assumption) ?_);first|refine ldW ?_|refine ldX ?_)|((with_reducible refine gLg rfl (by assumption) ?_);refine ldV ?_)|((with_reducible refine gSt rfl (by assumption) ?_);refine stV ?_))
     go_meet
     case rel=>exact ⟨_,(true),bZ,H',⟨by first|omega|exact Nat.le_refl _⟩,⟨pK BK571.out⟩,⟨pS HB.out⟩⟩
   ·rw [if_neg c5] at H;have c5b0:((l0_1.length:Int) == 3)=false:=beq_eq_false_iff_ne.mpr c5;have c5b1:((l0_1.length:Int) != 3)=true:=bne_iff_ne.mpr c5;have H':=mA H;clear H;obtain ⟨hcz11_0,hcz11_1,hcz11_2,hcz11_3,hcz11_4,hfz11_0,hfz11_1,hfz11_2,hfz11_3,hfz11_4⟩:=box5 BK571.out
    go_wp2_with (first|((with_reducible refine gLg rfl (by assumption) ?_);first|refine ldW ?_|refine ldX ?_)|((with_reducible refine gLg rfl (by assumption) ?_);refine ldV ?_)|((with_reducible refine gSt rfl (by assumption) ?_);refine stV ?_))
    go_meet
    case rel=>exact ⟨_,(true),bZ,H',⟨by first|omega|exact Nat.le_refl _⟩,⟨pK BK571.out⟩,⟨pS HB.out⟩⟩
  ·rw [if_neg c4] at H;have c4b0:((l0_0.length:Int) == 3)=false:=beq_eq_false_iff_ne.mpr c4;have c4b1:((l0_0.length:Int) != 3)=true:=bne_iff_ne.mpr c4
   (first|rw [c4b0]|(simp only [i64_w,i32_w];rw [c4b0])|skip)
   have H':=mA H;clear H;obtain ⟨hcz12_0,hcz12_1,hcz12_2,hcz12_3,hcz12_4,hfz12_0,hfz12_1,hfz12_2,hfz12_3,hfz12_4⟩:=box5 BK571.out
   go_wp2_with (first|((with_reducible refine gLg rfl (by assumption) ?_);first|refine ldW ?_|refine ldX ?_)|((with_reducible refine gLg rfl (by assumption) ?_);refine ldV ?_)|((with_reducible refine gSt rfl (by assumption) ?_);refine stV ?_))
   go_meet
   case rel=>exact ⟨_,(true),bZ,H',⟨by first|omega|exact Nat.le_refl _⟩,⟨pK BK571.out⟩,⟨pS HB.out⟩⟩
 case rest =>
  clear HC2
  obtain ⟨kq,x35_1,rfl,HA,HJ1,BK571,HB⟩:=hcut
  cases kq with
  | zero=>exact absurd HA.out (by simp [impl_SynCouncilOk.j0])
  | succ kj1 =>
   have H:=HA.out;clear HA;simp only [impl_SynCouncilOk.j0] at H
   by_cases c13:x35_1=true
   ·subst c13;rw [if_pos rfl] at H;obtain rfl:=Option.some.inj H
    go_wp2_with (first|((with_reducible refine gLg rfl (by assumption) ?_);first|refine ldW ?_|refine ldX ?_)|((with_reducible refine gLg rfl (by assumption) ?_);refine ldV ?_)|((with_reducible refine gSt rfl (by assumption) ?_);refine stV ?_))
    go_ret
    exact rZ (pS HB.out)
   ·replace c13:=Bool.eq_false_iff.mpr c13;subst c13
    rw [if_neg nFT] at H
    have H':=mA H;clear H;obtain ⟨hcz14_0,hcz14_1,hcz14_2,hcz14_3,hcz14_4,hfz14_0,hfz14_1,hfz14_2,hfz14_3,hfz14_4⟩:=box5 BK571.out
    go_wp2_with (first|((with_reducible refine gLg rfl (by assumption) ?_);first|refine ldW ?_|refine ldX ?_)|((with_reducible refine gLg rfl (by assumption) ?_);refine ldV ?_)|((with_reducible refine gSt rfl (by assumption) ?_);refine stV ?_))
    go_loopg [39] kj1 (fun kq v39 w'=>∃ (x39_2:Int),v39=.int .i64 x39_2∧Aside0 (impl_SynCouncilOk.l0 kq (l0_0.length:Int) x39_2 l0_0 l0_1 l0_2 l0_3 l0_4=some r)∧Aside0 (kq≤kj1)∧Aside0 (w'.heap[gb571]?=some (.cells #[(.slice A0_0 l0_0.length c0_0),(.slice A0_1 l0_1.length c0_1),(.slice A0_2 l0_2.length c0_2),(.slice A0_3 l0_3.length c0_3),(.slice A0_4 l0_4.length c0_4)] 28 (0,0)))∧Aside0 (Below w.heap.size w w'))
    case atStart=>exact ⟨(0),bZ,H',⟨Nat.le_refl _⟩,⟨pK BK571.out⟩,⟨pS HB.out⟩⟩
    case round =>
     clear H'
     (try clear c13);(try clear hcz14_0);(try clear hcz14_1);(try clear hcz14_2);(try clear hcz14_3);(try clear hcz14_4);(try clear hfz14_0);(try clear hfz14_1);(try clear hfz14_2);(try clear hfz14_3);(try clear hfz14_4)
     obtain ⟨x39_2,rfl,HA,HK2,BK571,HB⟩:=hrel
     cases gk with
     | zero=>exact absurd HA.out (by simp [impl_SynCouncilOk.l0])
     | succ k2 =>
      have H:=HA.out;clear HA;simp only [impl_SynCouncilOk.l0] at H
      by_cases c15:x39_2<(l0_0.length:Int)
      ·rw [if_pos c15] at H;have c15b0:decide (x39_2<(l0_0.length:Int))=true:=decide_eq_true c15;clear c15
       by_cases c16:0≤x39_2
       ·rw [if_pos c16] at H;have c16b0:decide (0≤x39_2)=true:=decide_eq_true c16;clear c16
        by_cases c17:x39_2<(l0_0.length:Int)
        ·rw [if_pos c17] at H;have c17b0:decide (x39_2<(l0_0.length:Int))=true:=decide_eq_true c17;clear c17;obtain ⟨t573,A18,H⟩:=bI H;(try dsimp only at H)
         by_cases c19:t573=true
         ·subst c19;rw [if_pos rfl] at H
          by_cases c20:x39_2<(l0_1.length:Int)
          ·rw [if_pos c20] at H;have c20b0:decide (x39_2<(l0_1.length:Int))=true:=decide_eq_true c20;clear c20;obtain ⟨t575,A21,H⟩:=bI H;(try dsimp only at H)
           by_cases c22:t575=true
           ·subst c22;rw [if_pos rfl] at H
            by_cases c23:x39_2<(l0_2.length:Int)
            ·rw [if_pos c23] at H;have c23b0:decide (x39_2<(l0_2.length:Int))=true:=decide_eq_true c23;clear c23;obtain ⟨t577,A24,H⟩:=bI H;(try dsimp only at H)
             by_cases c25:t577=true
             ·subst c25;rw [if_pos rfl] at H;have H':=mA H;clear H;obtain ⟨hcz26_0,hcz26_1,hcz26_2,hcz26_3,hcz26_4,hfz26_0,hfz26_1,hfz26_2,hfz26_3,hfz26_4⟩:=box5 BK571.out;have p572:0≤(x39_2:Int):=of_decide_eq_true bA;have q572:x39_2<(l0_0.length:Int):=of_decide_eq_true bA;obtain ⟨ad572,A572_1,c572_1,e572,hx572_0,hx572_1,hl572_1,hi572_1⟩:=at_T84 HR0_0.out x39_2 p572 q572;cases e572;replace hx572_0:=hC HB hx572_0;replace hx572_1:=hC HB hx572_1;have HR572_1:=mA hi572_1;have HC572_1:=mA hl572_1;clear hi572_1 hl572_1;replace p572:=eq_true p572;replace q572:=eq_true q572
              go_wp2_with (first|((with_reducible refine gLg rfl (by assumption) ?_);first|refine ldW ?_|refine ldX ?_)|((with_reducible refine gLg rfl (by assumption) ?_);refine ldV ?_)|((with_reducible refine gSt rfl (by assumption) ?_);refine stV ?_)|((with_reducible refine gT 47 rfl ?_);refine gC (some 47) Try.func64 (impl_SynVoterOk.calls (cB HR572_1 HB) HC572_1.out A18.out) ?_;rintro e w27 ⟨rfl,hb⟩;refine ⟨_,rfl,?_⟩;replace BK571:=bK BK571 hb;replace HB:=spS HB hb;(try clear hb);obtain ⟨hcz28_0,hcz28_1,hcz28_2,hcz28_3,hcz28_4,hfz28_0,hfz28_1,hfz28_2,hfz28_3,hfz28_4⟩:=box5 BK571.out;have p574:0≤(x39_2:Int):=of_decide_eq_true bA;have q574:x39_2<(l0_1.length:Int):=of_decide_eq_true bA;obtain ⟨ad574,e574,hx574_0⟩:=Kd.at_int HR0_1.out x39_2 p574 q574;cases e574;replace hx574_0:=hC HB hx574_0;replace p574:=eq_true p574;replace q574:=eq_true q574)|(go_at_call 65;(with_reducible refine (impl_in.calls A21.out).mono ?_);rintro e w' ⟨rfl,⟨nd,rfl⟩⟩;have p576:0≤(x39_2:Int):=of_decide_eq_true bA;have q576:x39_2<(l0_2.length:Int):=of_decide_eq_true bA;obtain ⟨ad576,A576_25,c576_25,e576,hs576,hl576_25,hi576_25⟩:=at_R88 HR0_2.out x39_2 p576 q576;have hx576_0:=RS.hd hs576 rfl;cases e576;replace hx576_0:=hC HB hx576_0;replace hs576:=rS HB hs576;have HR576_25:=mA hi576_25;have HC576_25:=mA hl576_25;clear hi576_25 hl576_25;replace p576:=eq_true p576;replace q576:=eq_true q576)|(go_at_call 66;(with_reducible refine (impl_SynSeekerOk.calls ?s1 ?s2 A24.out).mono ?_);(case s1=>exact pC (Kd.C_below HR576_25.out (pS HB.out)));(case s2=>exact HC576_25.out);rintro e w29 ⟨rfl,hb⟩;replace BK571:=bK BK571 hb;replace HB:=spS HB hb;(try clear hb)))
              go_roundg k2
              case measure=>have:=HJ1.out;have:=HK2.out;omega
              case rel=>exact ⟨(wrap64 (x39_2+1)),bZ,H',⟨by have:=HJ1.out;have:=HK2.out;omega⟩,⟨pK BK571.out⟩,⟨pS HB.out⟩⟩
             ·replace c25:=Bool.eq_false_iff.mpr c25;subst c25
              rw [if_neg nFT] at H
              obtain rfl:=Option.some.inj H;obtain ⟨hcz30_0,hcz30_1,hcz30_2,hcz30_3,hcz30_4,hfz30_0,hfz30_1,hfz30_2,hfz30_3,hfz30_4⟩:=box5 BK571.out;have p572:0≤(x39_2:Int):=of_decide_eq_true bA;have q572:x39_2<(l0_0.length:Int):=of_decide_eq_true bA;obtain ⟨ad572,A572_1,c572_1,e572,hx572_0,hx572_1,hl572_1,hi572_1⟩:=at_T84 HR0_0.out x39_2 p572 q572;cases e572;replace hx572_0:=hC HB hx572_0;replace hx572_1:=hC HB hx572_1;have HR572_1:=mA hi572_1;have HC572_1:=mA hl572_1;clear hi572_1 hl572_1;replace p572:=eq_true p572;replace q572:=eq_true q572
              go_wp2_with (first|((with_reducible refine gLg rfl (by assumption) ?_);first|refine ldW ?_|refine ldX ?_)|((with_reducible refine gLg rfl (by assumption) ?_);refine ldV ?_)|((with_reducible refine gSt rfl (by assumption) ?_);refine stV ?_)|((with_reducible refine gT 47 rfl ?_);refine gC (some 47) Try.func64 (impl_SynVoterOk.calls (cB HR572_1 HB) HC572_1.out A18.out) ?_;rintro e w31 ⟨rfl,hb⟩;refine ⟨_,rfl,?_⟩;replace BK571:=bK BK571 hb;replace HB:=spS HB hb;(try clear hb);obtain ⟨hcz32_0,hcz32_1,hcz32_2,hcz32_3,hcz32_4,hfz32_0,hfz32_1,hfz32_2,hfz32_3,hfz32_4⟩:=box5 BK571.out;have p574:0≤(x39_2:Int):=of_decide_eq_true bA;have q574:x39_2<(l0_1.length:Int):=of_decide_eq_true bA;obtain ⟨ad574,e574,hx574_0⟩:=Kd.at_int HR0_1.out x39_2 p574 q574;cases e574;replace hx574_0:=hC HB hx574_0;replace p574:=eq_true p574;replace q574:=eq_true q574)|(go_at_call 65;(with_reducible refine (impl_in.calls A21.out).mono ?_);rintro e w' ⟨rfl,⟨nd,rfl⟩⟩;have p576:0≤(x39_2:Int):=of_decide_eq_true bA;have q576:x39_2<(l0_2.length:Int):=of_decide_eq_true bA;obtain ⟨ad576,A576_25,c576_25,e576,hs576,hl576_25,hi576_25⟩:=at_R88 HR0_2.out x39_2 p576 q576;have hx576_0:=RS.hd hs576 rfl;cases e576;replace hx576_0:=hC HB hx576_0;replace hs576:=rS HB hs576;have HR576_25:=mA hi576_25;have HC576_25:=mA hl576_25;clear hi576_25 hl576_25;replace p576:=eq_true p576;replace q576:=eq_true q576)|(go_at_call 66;(with_reducible refine (impl_SynSeekerOk.calls ?s1 ?s2 A24.out).mono ?_);(case s1=>exact pC (Kd.C_below HR576_25.out (pS HB.out)));(case s2=>exact HC576_25.out);rintro e w33 ⟨rfl,hb⟩;replace BK571:=bK BK571 hb;replace HB:=spS HB hb;(try clear hb)))
              go_ret
              exact rZ (pS HB.out)
            ·rw [if_neg c23] at H
             exact absurd H (by simp)
           ·replace c22:=Bool.eq_false_iff.mpr c22;subst c22
            rw [if_neg nFT] at H
            obtain rfl:=Option.some.inj H;obtain ⟨hcz34_0,hcz34_1,hcz34_2,hcz34_3,hcz34_4,hfz34_0,hfz34_1,hfz34_2,hfz34_3,hfz34_4⟩:=box5 BK571.out;have p572:0≤(x39_2:Int):=of_decide_eq_true bA;have q572:x39_2<(l0_0.length:Int):=of_decide_eq_true bA;obtain ⟨ad572,A572_1,c572_1,e572,hx572_0,hx572_1,hl572_1,hi572_1⟩:=at_T84 HR0_0.out x39_2 p572 q572;cases e572;replace hx572_0:=hC HB hx572_0;replace hx572_1:=hC HB hx572_1;have HR572_1:=mA hi572_1;have HC572_1:=mA hl572_1;clear hi572_1 hl572_1;replace p572:=eq_true p572;replace q572:=eq_true q572
            go_wp2_with (first|((with_reducible refine gLg rfl (by assumption) ?_);first|refine ldW ?_|refine ldX ?_)|((with_reducible refine gLg rfl (by assumption) ?_);refine ldV ?_)|((with_reducible refine gSt rfl (by assumption) ?_);refine stV ?_)|((with_reducible refine gT 47 rfl ?_);refine gC (some 47) Try.func64 (impl_SynVoterOk.calls (cB HR572_1 HB) HC572_1.out A18.out) ?_;rintro e w35 ⟨rfl,hb⟩;refine ⟨_,rfl,?_⟩;replace BK571:=bK BK571 hb;replace HB:=spS HB hb;(try clear hb);obtain ⟨hcz36_0,hcz36_1,hcz36_2,hcz36_3,hcz36_4,hfz36_0,hfz36_1,hfz36_2,hfz36_3,hfz36_4⟩:=box5 BK571.out;have p574:0≤(x39_2:Int):=of_decide_eq_true bA;have q574:x39_2<(l0_1.length:Int):=of_decide_eq_true bA;obtain ⟨ad574,e574,hx574_0⟩:=Kd.at_int HR0_1.out x39_2 p574 q574;cases e574;replace hx574_0:=hC HB hx574_0;replace p574:=eq_true p574;replace q574:=eq_true q574)|(go_at_call 65;(with_reducible refine (impl_in.calls A21.out).mono ?_);rintro e w' ⟨rfl,⟨nd,rfl⟩⟩))
            go_ret
            exact rZ (pS HB.out)
          ·rw [if_neg c20] at H
           exact absurd H (by simp)
         ·replace c19:=Bool.eq_false_iff.mpr c19;subst c19
          rw [if_neg nFT] at H
          obtain rfl:=Option.some.inj H;obtain ⟨hcz37_0,hcz37_1,hcz37_2,hcz37_3,hcz37_4,hfz37_0,hfz37_1,hfz37_2,hfz37_3,hfz37_4⟩:=box5 BK571.out;have p572:0≤(x39_2:Int):=of_decide_eq_true bA;have q572:x39_2<(l0_0.length:Int):=of_decide_eq_true bA;obtain ⟨ad572,A572_1,c572_1,e572,hx572_0,hx572_1,hl572_1,hi572_1⟩:=at_T84 HR0_0.out x39_2 p572 q572;cases e572;replace hx572_0:=hC HB hx572_0;replace hx572_1:=hC HB hx572_1;have HR572_1:=mA hi572_1;have HC572_1:=mA hl572_1;clear hi572_1 hl572_1;replace p572:=eq_true p572;replace q572:=eq_true q572
          go_wp2_with (first|((with_reducible refine gLg rfl (by assumption) ?_);first|refine ldW ?_|refine ldX ?_)|((with_reducible refine gLg rfl (by assumption) ?_);refine ldV ?_)|((with_reducible refine gSt rfl (by assumption) ?_);refine stV ?_)|((with_reducible refine gT 47 rfl ?_);refine gC (some 47) Try.func64 (impl_SynVoterOk.calls (cB HR572_1 HB) HC572_1.out A18.out) ?_;rintro e w38 ⟨rfl,hb⟩;refine ⟨_,rfl,?_⟩;replace BK571:=bK BK571 hb;replace HB:=spS HB hb;(try clear hb)))
          go_ret
          exact rZ (pS HB.out)
        ·rw [if_neg c17] at H
         exact absurd H (by simp)
       ·rw [if_neg c16] at H
        exact absurd H (by simp)
      ·rw [if_neg c15] at H;have c15b0:decide (x39_2<(l0_0.length:Int))=false:=decide_eq_false c15;clear c15;have H':=mA H;clear H;obtain ⟨hcz39_0,hcz39_1,hcz39_2,hcz39_3,hcz39_4,hfz39_0,hfz39_1,hfz39_2,hfz39_3,hfz39_4⟩:=box5 BK571.out
       go_wp2_with (first|((with_reducible refine gLg rfl (by assumption) ?_);first|refine ldW ?_|refine ldX ?_)|((with_reducible refine gLg rfl (by assumption) ?_);refine ldV ?_)|((with_reducible refine gSt rfl (by assumption) ?_);refine stV ?_))
       go_loopg [71] k2 (fun kq v71 w'=>∃ (x71_3:Int),v71=.int .i64 x71_3∧Aside0 (impl_SynCouncilOk.l1 kq l0_3 (l0_3.length:Int) x71_3 l0_0 l0_1 l0_2 l0_3 l0_4=some r)∧Aside0 (kq≤k2)∧Aside0 (w'.heap[gb571]?=some (.cells #[(.slice A0_0 l0_0.length c0_0),(.slice A0_1 l0_1.length c0_1),(.slice A0_2 l0_2.length c0_2),(.slice A0_3 l0_3.length c0_3),(.slice A0_4 l0_4.length c0_4)] 28 (0,0)))∧Aside0 (Below w.heap.size w w'))
       case atStart=>exact ⟨(0),bZ,H',⟨Nat.le_refl _⟩,⟨pK BK571.out⟩,⟨pS HB.out⟩⟩
       case round =>
        clear H'
        (try clear c13);(try clear c15);(try clear c15b0);(try clear hcz14_0);(try clear hcz14_1);(try clear hcz14_2);(try clear hcz14_3);(try clear hcz14_4);(try clear hcz39_0);(try clear hcz39_1);(try clear hcz39_2);(try clear hcz39_3);(try clear hcz39_4);(try clear hfz14_0);(try clear hfz14_1);(try clear hfz14_2);(try clear hfz14_3);(try clear hfz14_4);(try clear hfz39_0);(try clear hfz39_1);(try clear hfz39_2);(try clear hfz39_3);(try clear hfz39_4)
        obtain ⟨x71_3,rfl,HA,HK3,BK571,HB⟩:=hrel
        cases gk with
        | zero=>exact absurd HA.out (by simp [impl_SynCouncilOk.l1])
        | succ k3 =>
         have H:=HA.out;clear HA;simp only [impl_SynCouncilOk.l1] at H
         by_cases c40:x71_3<(l0_3.length:Int)
         ·rw [if_pos c40] at H;have c40b0:decide (x71_3<(l0_3.length:Int))=true:=decide_eq_true c40;clear c40
          by_cases c41:0≤x71_3
          ·rw [if_pos c41] at H;have c41b0:decide (0≤x71_3)=true:=decide_eq_true c41;clear c41
           by_cases c42:x71_3<(l0_3.length:Int)
           ·rw [if_pos c42] at H;have c42b0:decide (x71_3<(l0_3.length:Int))=true:=decide_eq_true c42;clear c42;obtain ⟨t580,A43,H⟩:=bI H;(try dsimp only at H)
            by_cases c44:t580=true
            ·subst c44;rw [if_pos rfl] at H;have H':=mA H;clear H;have p578:0≤(x71_3:Int):=of_decide_eq_true bA;have q578:x71_3<(l0_3.length:Int):=of_decide_eq_true bA;obtain ⟨ad578,A578_24,c578_24,A578_25,c578_25,e578,hs578,hl578_24,hi578_24,hl578_25,hi578_25⟩:=at_R93 HR0_3.out x71_3 p578 q578;have hx578_0:=RS.hd hs578 rfl;cases e578;replace hx578_0:=hC HB hx578_0;replace hs578:=rS HB hs578;have HR578_24:=mA hi578_24;have HC578_24:=mA hl578_24;clear hi578_24 hl578_24;have HR578_25:=mA hi578_25;have HC578_25:=mA hl578_25;clear hi578_25 hl578_25;replace p578:=eq_true p578;replace q578:=eq_true q578
             go_wp2_with (first|((with_reducible refine gLg rfl (by assumption) ?_);first|refine ldW ?_|refine ldX ?_)|((with_reducible refine gLg rfl (by assumption) ?_);refine ldV ?_)|((with_reducible refine gSt rfl (by assumption) ?_);refine stV ?_)|((with_reducible refine gT 5 rfl ?_);(try (refine gate_guard (by rfl) ?_;dsimp only));refine bJ 5 y93 ?_;intro gb579 hg w45 hbox hb;have BK579:=mA hbox;have GW579:=gbpS HB hg;have GE579:=gbpS HB hg;replace HB:=spS HB hb;have NB571_579:=mA (lN (blk_lt (pK BK571.out)) hg);have hN571_579:=NB571_579.out;have NB579_571:=nS NB571_579;have hN579_571:=NB579_571.out;replace BK571:=bK BK571 hb;clear hb hbox hg;have hcz47_0:=fun i_=>blk_cell BK579.out i_;have hfz47_0:=fun i_=>blk_frozen BK579.out i_)|((with_reducible refine gT 76 rfl ?_);refine gC (some 76) Try.func67 (impl_WordOk.calls (Kd.C_below HR578_24.out (pS HB.out)) HC578_24.out (Kd.C_below HR578_25.out (pS HB.out)) HC578_25.out A43.out) ?_;rintro e w48 ⟨rfl,hb⟩;refine ⟨_,rfl,?_⟩;replace BK571:=bF BK571 hb;replace BK579:=mA (blk_below (g:=gb579) (o:=.cells #[.int .i64 ((rd_T93 l0_3 x71_3).f0),.int .i64 ((rd_T93 l0_3 x71_3).f1),.int .i64 ((rd_T93 l0_3 x71_3).f2),.int .i64 ((rd_T93 l0_3 x71_3).f3),.int .i64 ((rd_T93 l0_3 x71_3).f4),.int .i64 ((rd_T93 l0_3 x71_3).f5),.int .i64 ((rd_T93 l0_3 x71_3).f6.f0),.int .i64 ((rd_T93 l0_3 x71_3).f6.f1),.int .i64 ((rd_T93 l0_3 x71_3).f6.f2),.int .i64 ((rd_T93 l0_3 x71_3).f6.f3),.int .i64 ((rd_T93 l0_3 x71_3).f6.f4),.int .i64 ((rd_T93 l0_3 x71_3).f6.f5),.int .i64 ((rd_T93 l0_3 x71_3).f6.f6),.int .i64 ((rd_T93 l0_3 x71_3).f6.f7),.int .i64 ((rd_T93 l0_3 x71_3).f6.f8),.int .i64 ((rd_T93 l0_3 x71_3).f6.f9),.int .i64 ((rd_T93 l0_3 x71_3).f7),.int .i64 ((rd_T93 l0_3 x71_3).f8),.int .i64 ((rd_T93 l0_3 x71_3).f9),.int .i64 ((rd_T93 l0_3 x71_3).f10),.int .i64 ((rd_T93 l0_3 x71_3).f11),.int .i64 ((rd_T93 l0_3 x71_3).f12),.int .i64 ((rd_T93 l0_3 x71_3).f13),.int .i64 ((rd_T93 l0_3 x71_3).f14),.slice A578_24 ((rd_T93 l0_3 x71_3).f15).length c578_24,.slice A578_25 ((rd_T93 l0_3 x71_3).f16).length c578_25] 93 (0,0)) (pP BK579) hb);replace HB:=spS HB hb;(try clear hb)))
             go_roundg k3
             case measure=>have:=HJ1.out;have:=HK2.out;have:=HK3.out;omega
             case rel=>exact ⟨(wrap64 (x71_3+1)),bZ,H',⟨by have:=HJ1.out;have:=HK2.out;have:=HK3.out;omega⟩,⟨pK BK571.out⟩,⟨pS HB.out⟩⟩
            ·replace c44:=Bool.eq_false_iff.mpr c44;subst c44
             rw [if_neg nFT] at H
             obtain rfl:=Option.some.inj H;have p578:0≤(x71_3:Int):=of_decide_eq_true bA;have q578:x71_3<(l0_3.length:Int):=of_decide_eq_true bA;obtain ⟨ad578,A578_24,c578_24,A578_25,c578_25,e578,hs578,hl578_24,hi578_24,hl578_25,hi578_25⟩:=at_R93 HR0_3.out x71_3 p578 q578;have hx578_0:=RS.hd hs578 rfl;cases e578;replace hx578_0:=hC HB hx578_0;replace hs578:=rS HB hs578;have HR578_24:=mA hi578_24;have HC578_24:=mA hl578_24;clear hi578_24 hl578_24;have HR578_25:=mA hi578_25;have HC578_25:=mA hl578_25;clear hi578_25 hl578_25;replace p578:=eq_true p578;replace q578:=eq_true q578
             go_wp2_with (first|((with_reducible refine gLg rfl (by assumption) ?_);first|refine ldW ?_|refine ldX ?_)|((with_reducible refine gLg rfl (by assumption) ?_);refine ldV ?_)|((with_reducible refine gSt rfl (by assumption) ?_);refine stV ?_)|((with_reducible refine gT 5 rfl ?_);(try (refine gate_guard (by rfl) ?_;dsimp only));refine bJ 5 y93 ?_;intro gb579 hg w49 hbox hb;have BK579:=mA hbox;have GW579:=gbpS HB hg;have GE579:=gbpS HB hg;replace HB:=spS HB hb;have NB571_579:=mA (lN (blk_lt (pK BK571.out)) hg);have hN571_579:=NB571_579.out;have NB579_571:=nS NB571_579;have hN579_571:=NB579_571.out;replace BK571:=bK BK571 hb;clear hb hbox hg;have hcz51_0:=fun i_=>blk_cell BK579.out i_;have hfz51_0:=fun i_=>blk_frozen BK579.out i_)|((with_reducible refine gT 76 rfl ?_);refine gC (some 76) Try.func67 (impl_WordOk.calls (Kd.C_below HR578_24.out (pS HB.out)) HC578_24.out (Kd.C_below HR578_25.out (pS HB.out)) HC578_25.out A43.out) ?_;rintro e w52 ⟨rfl,hb⟩;refine ⟨_,rfl,?_⟩;replace BK571:=bF BK571 hb;replace BK579:=mA (blk_below (g:=gb579) (o:=.cells #[.int .i64 ((rd_T93 l0_3 x71_3).f0),.int .i64 ((rd_T93 l0_3 x71_3).f1),.int .i64 ((rd_T93 l0_3 x71_3).f2),.int .i64 ((rd_T93 l0_3 x71_3).f3),.int .i64 ((rd_T93 l0_3 x71_3).f4),.int .i64 ((rd_T93 l0_3 x71_3).f5),.int .i64 ((rd_T93 l0_3 x71_3).f6.f0),.int .i64 ((rd_T93 l0_3 x71_3).f6.f1),.int .i64 ((rd_T93 l0_3 x71_3).f6.f2),.int .i64 ((rd_T93 l0_3 x71_3).f6.f3),.int .i64 ((rd_T93 l0_3 x71_3).f6.f4),.int .i64 ((rd_T93 l0_3 x71_3).f6.f5),.int .i64 ((rd_T93 l0_3 x71_3).f6.f6),.int .i64 ((rd_T93 l0_3 x71_3).f6.f7),.int .i64 ((rd_T93 l0_3 x71_3).f6.f8),.int .i64 ((rd_T93 l0_3 x71_3).f6.f9),.int .i64 ((rd_T93 l0_3 x71_3).f7),.int .i64 ((rd_T93 l0_3 x71_3).f8),.int .i64 ((rd_T93 l0_3 x71_3).f9),.int .i64 ((rd_T93 l0_3 x71_3).f10),.int .i64 ((rd_T93 l0_3 x71_3).f11),.int .i64 ((rd_T93 l0_3 x71_3).f12),.int .i64 ((rd_T93 l0_3 x71_3).f13),.int .i64 ((rd_T93 l0_3 x71_3).f14),.slice A578_24 ((rd_T93 l0_3 x71_3).f15).length c578_24,.slice A578_25 ((rd_T93 l0_3 x71_3).f16).length c578_25] 93 (0,0)) (pP BK579) hb);replace HB:=spS HB hb;(try clear hb)))
             go_ret
             exact rZ (pS HB.out)
           ·rw [if_neg c42] at H
            exact absurd H (by simp)
          ·rw [if_neg c41] at H
           exact absurd H (by simp)
         ·rw [if_neg c40] at H;have c40b0:decide (x71_3<(l0_3.length:Int))=false:=decide_eq_false c40;clear c40;have H':=mA H;clear H;obtain ⟨hcz53_0,hcz53_1,hcz53_2,hcz53_3,hcz53_4,hfz53_0,hfz53_1,hfz53_2,hfz53_3,hfz53_4⟩:=box5 BK571.out
          go_wp2_with (first|((with_reducible refine gLg rfl (by assumption) ?_);first|refine ldW ?_|refine ldX ?_)|((with_reducible refine gLg rfl (by assumption) ?_);refine ldV ?_)|((with_reducible refine gSt rfl (by assumption) ?_);refine stV ?_))
          go_loopg [82] k3 (fun kq v82 w'=>∃ (x82_4:Int),v82=.int .i64 x82_4∧Aside0 (impl_SynCouncilOk.l2 kq l0_4 (l0_4.length:Int) x82_4=some r)∧Aside0 (kq≤k3)∧Aside0 (w'.heap[gb571]?=some (.cells #[(.slice A0_0 l0_0.length c0_0),(.slice A0_1 l0_1.length c0_1),(.slice A0_2 l0_2.length c0_2),(.slice A0_3 l0_3.length c0_3),(.slice A0_4 l0_4.length c0_4)] 28 (0,0)))∧Aside0 (Below w.heap.size w w'))
          case atStart=>exact ⟨(0),bZ,H',⟨Nat.le_refl _⟩,⟨pK BK571.out⟩,⟨pS HB.out⟩⟩
          case round =>
           clear H'
           (try clear c13);(try clear c15);(try clear c15b0);(try clear c40);(try clear c40b0);(try clear hcz14_0);(try clear hcz14_1);(try clear hcz14_2);(try clear hcz14_3);(try clear hcz14_4);(try clear hcz39_0);(try clear hcz39_1);(try clear hcz39_2);(try clear hcz39_3);(try clear hcz39_4);(try clear hcz53_0);(try clear hcz53_1);(try clear hcz53_2);(try clear hcz53_3);(try clear hcz53_4);(try clear hfz14_0);(try clear hfz14_1);(try clear hfz14_2);(try clear hfz14_3);(try clear hfz14_4);(try clear hfz39_0);(try clear hfz39_1);(try clear hfz39_2);(try clear hfz39_3);(try clear hfz39_4);(try clear hfz53_0);(try clear hfz53_1);(try clear hfz53_2);(try clear hfz53_3);(try clear hfz53_4)
           obtain ⟨x82_4,rfl,HA,HK4,BK571,HB⟩:=hrel
           cases gk with
           | zero=>exact absurd HA.out (by simp [impl_SynCouncilOk.l2])
           | succ k4 =>
            have H:=HA.out;clear HA;simp only [impl_SynCouncilOk.l2] at H
            by_cases c54:x82_4<(l0_4.length:Int)
            ·rw [if_pos c54] at H;have c54b0:decide (x82_4<(l0_4.length:Int))=true:=decide_eq_true c54;clear c54
             by_cases c55:0≤x82_4
             ·rw [if_pos c55] at H;have c55b0:decide (0≤x82_4)=true:=decide_eq_true c55;clear c55
              by_cases c56:x82_4<(l0_4.length:Int)
              ·rw [if_pos c56] at H;have c56b0:decide (x82_4<(l0_4.length:Int))=true:=decide_eq_true c56;clear c56;obtain ⟨t583,A57,H⟩:=bI H;(try dsimp only at H)
               by_cases c58:t583=true
               ·subst c58;rw [if_pos rfl] at H;have H':=mA H;clear H;have p581:0≤(x82_4:Int):=of_decide_eq_true bA;have q581:x82_4<(l0_4.length:Int):=of_decide_eq_true bA;obtain ⟨ad581,e581,hs581⟩:=at_R53 HR0_4.out x82_4 p581 q581;have hx581_0:=RS.hd hs581 rfl;cases e581;replace hx581_0:=hC HB hx581_0;replace hs581:=rS HB hs581;replace p581:=eq_true p581;replace q581:=eq_true q581
                go_wp2_with (first|((with_reducible refine gLg rfl (by assumption) ?_);first|refine ldW ?_|refine ldX ?_)|((with_reducible refine gLg rfl (by assumption) ?_);refine ldV ?_)|((with_reducible refine gSt rfl (by assumption) ?_);refine stV ?_)|((with_reducible refine gT 7 rfl ?_);(try (refine gate_guard (by rfl) ?_;dsimp only));refine bJ 7 y53 ?_;intro gb582 hg w59 hbox hb;have BK582:=mA hbox;have GW582:=gbpS HB hg;have GE582:=gbpS HB hg;replace HB:=spS HB hb;have NB571_582:=mA (lN (blk_lt (pK BK571.out)) hg);have hN571_582:=NB571_582.out;have NB582_571:=nS NB571_582;have hN582_571:=NB582_571.out;replace BK571:=bK BK571 hb;clear hb hbox hg;have hcz61_0:=fun i_=>blk_cell BK582.out i_;have hfz61_0:=fun i_=>blk_frozen BK582.out i_)|((with_reducible refine gT 87 rfl ?_);refine gC (some 87) Try.func68 (impl_paperOk.calls A57.out) ?_;rintro e w62 ⟨rfl,hb⟩;refine ⟨_,rfl,?_⟩;replace BK571:=bF BK571 hb;replace BK582:=mA (blk_below (g:=gb582) (o:=.cells #[.int .i64 ((rd_T53 l0_4 x82_4).f0),.int .i64 ((rd_T53 l0_4 x82_4).f1),.int .i64 ((rd_T53 l0_4 x82_4).f2.f0),.int .i64 ((rd_T53 l0_4 x82_4).f2.f1),.int .i64 ((rd_T53 l0_4 x82_4).f2.f2),.int .i64 ((rd_T53 l0_4 x82_4).f2.f3),.int .i64 ((rd_T53 l0_4 x82_4).f2.f4),.int .i64 ((rd_T53 l0_4 x82_4).f2.f5),.int .i64 ((rd_T53 l0_4 x82_4).f2.f6),.int .i64 ((rd_T53 l0_4 x82_4).f2.f7),.int .i64 ((rd_T53 l0_4 x82_4).f2.f8),.int .i64 ((rd_T53 l0_4 x82_4).f2.f9)] 53 (0,0)) (pP BK582) hb);replace HB:=spS HB hb;(try clear hb)))
                go_roundg k4
                case measure=>have:=HJ1.out;have:=HK2.out;have:=HK3.out;have:=HK4.out;omega
                case rel=>exact ⟨(wrap64 (x82_4+1)),bZ,H',⟨by have:=HJ1.out;have:=HK2.out;have:=HK3.out;have:=HK4.out;omega⟩,⟨pK BK571.out⟩,⟨pS HB.out⟩⟩
               ·replace c58:=Bool.eq_false_iff.mpr c58;subst c58
                rw [if_neg nFT] at H
                obtain rfl:=Option.some.inj H;have p581:0≤(x82_4:Int):=of_decide_eq_true bA;have q581:x82_4<(l0_4.length:Int):=of_decide_eq_true bA;obtain ⟨ad581,e581,hs581⟩:=at_R53 HR0_4.out x82_4 p581 q581;have hx581_0:=RS.hd hs581 rfl;cases e581;replace hx581_0:=hC HB hx581_0;replace hs581:=rS HB hs581;replace p581:=eq_true p581;replace q581:=eq_true q581
                go_wp2_with (first|((with_reducible refine gLg rfl (by assumption) ?_);first|refine ldW ?_|refine ldX ?_)|((with_reducible refine gLg rfl (by assumption) ?_);refine ldV ?_)|((with_reducible refine gSt rfl (by assumption) ?_);refine stV ?_)|((with_reducible refine gT 7 rfl ?_);(try (refine gate_guard (by rfl) ?_;dsimp only));refine bJ 7 y53 ?_;intro gb582 hg w63 hbox hb;have BK582:=mA hbox;have GW582:=gbpS HB hg;have GE582:=gbpS HB hg;replace HB:=spS HB hb;have NB571_582:=mA (lN (blk_lt (pK BK571.out)) hg);have hN571_582:=NB571_582.out;have NB582_571:=nS NB571_582;have hN582_571:=NB582_571.out;replace BK571:=bK BK571 hb;clear hb hbox hg;have hcz65_0:=fun i_=>blk_cell BK582.out i_;have hfz65_0:=fun i_=>blk_frozen BK582.out i_)|((with_reducible refine gT 87 rfl ?_);refine gC (some 87) Try.func68 (impl_paperOk.calls A57.out) ?_;rintro e w66 ⟨rfl,hb⟩;refine ⟨_,rfl,?_⟩;replace BK571:=bF BK571 hb;replace BK582:=mA (blk_below (g:=gb582) (o:=.cells #[.int .i64 ((rd_T53 l0_4 x82_4).f0),.int .i64 ((rd_T53 l0_4 x82_4).f1),.int .i64 ((rd_T53 l0_4 x82_4).f2.f0),.int .i64 ((rd_T53 l0_4 x82_4).f2.f1),.int .i64 ((rd_T53 l0_4 x82_4).f2.f2),.int .i64 ((rd_T53 l0_4 x82_4).f2.f3),.int .i64 ((rd_T53 l0_4 x82_4).f2.f4),.int .i64 ((rd_T53 l0_4 x82_4).f2.f5),.int .i64 ((rd_T53 l0_4 x82_4).f2.f6),.int .i64 ((rd_T53 l0_4 x82_4).f2.f7),.int .i64 ((rd_T53 l0_4 x82_4).f2.f8),.int .i64 ((rd_T53 l0_4 x82_4).f2.f9)] 53 (0,0)) (pP BK582) hb);replace HB:=spS HB hb;(try clear hb)))
                go_ret
                exact rZ (pS HB.out)
              ·rw [if_neg c56] at H
               exact absurd H (by simp)
             ·rw [if_neg c55] at H
              exact absurd H (by simp)
            ·rw [if_neg c54] at H;have c54b0:decide (x82_4<(l0_4.length:Int))=false:=decide_eq_false c54;clear c54;obtain rfl:=Option.some.inj H
             go_wp2_with (first|((with_reducible refine gLg rfl (by assumption) ?_);first|refine ldW ?_|refine ldX ?_)|((with_reducible refine gLg rfl (by assumption) ?_);refine ldV ?_)|((with_reducible refine gSt rfl (by assumption) ?_);refine stV ?_))
             go_ret
             exact rZ (pS HB.out)

end Go.Proofs.Ytncohokalilnbaa.P
