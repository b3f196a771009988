-- printed by pprint.py (this session's program over the kit's printer) out of the translation. Lean checks it.
import Derived.Test.YtoieojmfkkidnaaPx0
import Derived.Test.YtoieojmfkkidnaaPx5
import Derived.Test.YtoieojmfkkidnaaPx6
namespace Go.Proofs.Ytoieojmfkkidnaa.P
open Go.RowKit Go.Proofs.YtoieojmfkkidnaaX Go.Proofs.YtoieojmfkkidnaaW.PrintWords Go.Proofs.YtoieojmfkkidnaaW.PrintLast Go.Proofs.YtoieojmfkkidnaaW.PrintMore
attribute [local go_sem] max2_int min2_int max_two min_two max_three min_three max_four min_four   -- for this text's walks alone
set_option linter.unusedVariables false
set_option linter.unusedSimpArgs false

/-! ### spec_l3Before: function 129 -/
def spec_l3Before.f (a0_0 : Int) (a0_1 : Int) (a0_2 : Int) (a0_3 : Int) (a1 : Int) (a2 : Int) (a3 : Int) : Option (Bool) := if a0_0 = a1 then (if a0_1 = a2 then (some (decide (a0_2 < a3))) else (some (decide (a0_1 < a2)))) else (some (decide (a0_0 < a1)))
set_option maxHeartbeats 8000000 in
set_option maxRecDepth 100000 in
theorem spec_l3Before.calls {a0_0 : Int} {a0_1 : Int} {a0_2 : Int} {a0_3 : Int} {a1 : Int} {a2 : Int} {a3 : Int} {r : Bool} {w : World} (h : spec_l3Before.f a0_0 a0_1 a0_2 a0_3 a1 a2 a3 = some r) :
  Calls Try.prog 129 #[.agg #[.int .i64 a0_0,.int .i64 a0_1,.int .i64 a0_2,.int .i64 a0_3],.int .i64 a1,.int .i64 a2,.int .i64 a3] w fun e w'=>e=.returned (.bool r)∧Below w.heap.size w w':=by
 have hu138:=Try.underlying138;have HB:=mA (Below.refl w.heap.size w);have H:(if a0_0=a1 then (if a0_1=a2 then (some (decide (a0_2<a3))) else (some (decide (a0_1<a2)))) else (some (decide (a0_0<a1))))=some r:=h;clear h
 by_cases c5:a0_0=a1
 ·rw [if_pos c5] at H;obtain ⟨c5b0,c5b1⟩:=eqB c5;clear c5
  by_cases c6:a0_1=a2
  ·rw [if_pos c6] at H;obtain ⟨c6b0,c6b1⟩:=eqB c6;clear c6;obtain rfl:=Option.some.inj H
   go_enter Try.func129,Try.ntmps129
   go_wp2_with (first|((with_reducible refine gT 4 rfl ?_);refine bE 4 #[.int .i64 a0_0,.int .i64 a0_1,.int .i64 a0_2,.int .i64 a0_3] 138 ?_;intro gb152 hg w7 hbox hb;have BK152:=mA hbox;have GW152:=gbpB HB hg;have GE152:=gbpB HB hg;replace HB:=spB HB hb;clear hb hbox hg;obtain ⟨hcz8_0,hcz8_1,hcz8_2,hcz8_3,hfz8_0,hfz8_1,hfz8_2,hfz8_3⟩:=box4 BK152.out))
   go_ret
   exact rZ (pS HB.out)
  ·rw [if_neg c6] at H;have c6b0:(a0_1 == a2)=false:=beq_eq_false_iff_ne.mpr c6;have c6b1:(a0_1 != a2)=true:=bne_iff_ne.mpr c6;obtain rfl:=Option.some.inj H
   go_enter Try.func129,Try.ntmps129
   go_wp2_with (first|((with_reducible refine gT 4 rfl ?_);refine bE 4 #[.int .i64 a0_0,.int .i64 a0_1,.int .i64 a0_2,.int .i64 a0_3] 138 ?_;intro gb152 hg w9 hbox hb;have BK152:=mA hbox;have GW152:=gbpB HB hg;have GE152:=gbpB HB hg;replace HB:=spB HB hb;clear hb hbox hg;obtain ⟨hcz10_0,hcz10_1,hcz10_2,hcz10_3,hfz10_0,hfz10_1,hfz10_2,hfz10_3⟩:=box4 BK152.out))
   go_ret
   exact rZ (pS HB.out)
 ·rw [if_neg c5] at H;have c5b0:(a0_0 == a1)=false:=beq_eq_false_iff_ne.mpr c5;have c5b1:(a0_0 != a1)=true:=bne_iff_ne.mpr c5;obtain rfl:=Option.some.inj H
  go_enter Try.func129,Try.ntmps129
  go_wp2_with (first|((with_reducible refine gT 4 rfl ?_);refine bE 4 #[.int .i64 a0_0,.int .i64 a0_1,.int .i64 a0_2,.int .i64 a0_3] 138 ?_;intro gb152 hg w11 hbox hb;have BK152:=mA hbox;have GW152:=gbpB HB hg;have GE152:=gbpB HB hg;replace HB:=spB HB hb;clear hb hbox hg;obtain ⟨hcz12_0,hcz12_1,hcz12_2,hcz12_3,hfz12_0,hfz12_1,hfz12_2,hfz12_3⟩:=box4 BK152.out))
  go_ret
  exact rZ (pS HB.out)

/-! ### spec_BlkOk: function 70 -/
mutual
def spec_BlkOk.l0 : Nat → List (S138) → Int → Option (Bool)
 | 0,_,_=>none
 | k+1,x0,x3=>if x3<(x0.length:Int) then (if 0≤x3 then ((spec_l6In.f ((rd_T138 x0 x3).f0) 1 99999).bind fun t155=>(if t155=true then ((spec_l6In.f ((rd_T138 x0 x3).f1) 0 99999).bind fun t156=>(if t156=true then ((spec_l6In.f ((rd_T138 x0 x3).f2) 1 99999).bind fun t157=>(if t157=true then ((spec_l6In.f ((rd_T138 x0 x3).f3) 0 99999).bind fun t158=>(spec_BlkOk.j1 k x0 x3 (!t158) ((rd_T138 x0 x3).f0) ((rd_T138 x0 x3).f1) ((rd_T138 x0 x3).f2) ((rd_T138 x0 x3).f3))) else (spec_BlkOk.j1 k x0 x3 true ((rd_T138 x0 x3).f0) ((rd_T138 x0 x3).f1) ((rd_T138 x0 x3).f2) ((rd_T138 x0 x3).f3)))) else (spec_BlkOk.j1 k x0 x3 true ((rd_T138 x0 x3).f0) ((rd_T138 x0 x3).f1) ((rd_T138 x0 x3).f2) ((rd_T138 x0 x3).f3)))) else (spec_BlkOk.j1 k x0 x3 true ((rd_T138 x0 x3).f0) ((rd_T138 x0 x3).f1) ((rd_T138 x0 x3).f2) ((rd_T138 x0 x3).f3)))) else (none)) else (some true)
def spec_BlkOk.j1 : Nat → List (S138) → Int → Bool → Int → Int → Int → Int → Option (Bool)
 | 0,_,_,_,_,_,_,_=>none
 | k+1,x0,x3,x39,x155000,x155001,x155002,x155003=>if x39=true then (some false) else (if x3 > 0 then (if 0≤(wrap64 (x3 - 1)) then (if (wrap64 (x3 - 1))<(x0.length:Int) then ((spec_l3Before.f ((rd_T138 x0 (wrap64 (x3 - 1))).f0) ((rd_T138 x0 (wrap64 (x3 - 1))).f1) ((rd_T138 x0 (wrap64 (x3 - 1))).f2) ((rd_T138 x0 (wrap64 (x3 - 1))).f3) x155000 x155001 x155002).bind fun t160=>(if t160=true then (spec_BlkOk.l0 k x0 (wrap64 (x3+1))) else (some false))) else (none)) else (none)) else (spec_BlkOk.l0 k x0 (wrap64 (x3+1))))
end
def spec_BlkOk.f (k : Nat) (l0 : List (S138)) : Option (Bool) := if (l0.length : Int) > 60 then (some false) else (spec_BlkOk.l0 k l0 0)
theorem spec_BlkOk.mono_l : ∀ k, (∀ y0 y1, LeO (spec_BlkOk.l0 k y0 y1) (spec_BlkOk.l0 (k + 1) y0 y1)) ∧ (∀ y0 y1 y2 y3 y4 y5 y6, LeO (spec_BlkOk.j1 k y0 y1 y2 y3 y4 y5 y6) (spec_BlkOk.j1 (k + 1) y0 y1 y2 y3 y4 y5 y6))
 | 0=>⟨fun _ _ r h=>by simp [spec_BlkOk.l0] at h,fun _ _ _ _ _ _ _ r h=>by simp [spec_BlkOk.j1] at h⟩
 | k+1=>by
  obtain ⟨ih0,ih1⟩:=spec_BlkOk.mono_l k;refine ⟨?_,?_⟩
  ·intros
   unfold spec_BlkOk.l0
   repeat' first
   | (with_reducible first|apply ih0|apply ih1|exact LeO.refl _|exact LeO.none _|refine LeO.ite ?_ ?_|refine LeO.bind ?_ (fun _=>?_))|exact LeO.none _|refine LeO.ite ?_ ?_|refine LeO.bind ?_ (fun _=>?_)
  ·intros
   unfold spec_BlkOk.j1
   repeat' first
   | (with_reducible first|apply ih0|apply ih1|exact LeO.refl _|exact LeO.none _|refine LeO.ite ?_ ?_|refine LeO.bind ?_ (fun _=>?_))|exact LeO.none _|refine LeO.ite ?_ ?_|refine LeO.bind ?_ (fun _=>?_)
theorem spec_BlkOk.mono : ∀ a0 k, LeO (spec_BlkOk.f k a0) (spec_BlkOk.f (k + 1) a0) := by
 intro a0 k;obtain ⟨ih0,ih1⟩:=spec_BlkOk.mono_l k
 unfold spec_BlkOk.f
 repeat' first
   | (with_reducible first|apply ih0|apply ih1|exact LeO.refl _|exact LeO.none _|refine LeO.ite ?_ ?_|refine LeO.bind ?_ (fun _=>?_))|exact LeO.none _|refine LeO.ite ?_ ?_|refine LeO.bind ?_ (fun _=>?_)
def spec_BlkOk.T9 : Bool × List (List Nat × List Nat) := (true, [([], []), ([0], [0]), ([1], [1]), ([2], [2]), ([2], [2]), ([4, 2], [2, 4]), ([3, 5, 2], [2, 3, 5]), ([6, 2], [2, 6]), ([2], [2]), ([8, 2], [2, 8]), ([2], [2]), ([10, 2], [2, 10]), ([2], [2]), ([12, 2], [2, 12]), ([7, 9, 11, 13, 2, 2], [2, 7, 9, 11, 13]), ([14, 2], [2, 14]), ([2, 15], [2, 15])])
def spec_BlkOk.B9 : List Nat := [0, 1, 3, 7, 7, 23, 63, 127, 7, 263, 7, 1031, 7, 4103, 16383, 32767, 65535]
theorem spec_BlkOk.tab9 : rtab .any (opsOf Try.f70 9) = spec_BlkOk.T9 := by kernel_rfl
theorem spec_BlkOk.bits9 : waitsOk spec_BlkOk.T9.2 spec_BlkOk.B9 = true := by kernel_rfl
set_option maxHeartbeats 8000000 in
set_option maxRecDepth 100000 in
theorem spec_BlkOk.calls {k : Nat} {A0 : Option Addr} {c0 : Nat} {l0 : List (S138)} {r : Bool} {w : World} (hr0 : Kd.C k138 w A0 l0.length l0) (hc0 : l0.length ≤ c0) (h : spec_BlkOk.f k l0 = some r) :
  Calls Try.prog 70 #[.slice A0 l0.length c0] w fun e w'=>e=.returned (.bool r)∧Below w.heap.size w w':=by
 have hu138:=Try.underlying138;have HR0:=mA hr0;have HC0:=mA hc0;clear hr0 hc0;have HB:=mA (Below.refl w.heap.size w);have H:(if (l0.length:Int) > 60 then (some false) else (spec_BlkOk.l0 k l0 0))=some r:=h;clear h
 by_cases c2:(l0.length:Int) > 60
 ·rw [if_pos c2] at H;have c2b0:decide (60<(l0.length:Int))=true:=decide_eq_true c2
  have c2b1:decide (60<l0.length)=true:=decide_eq_true (by omega)
  clear c2;obtain rfl:=Option.some.inj H
  go_enter Try.func70,Try.ntmps70
  go_wp2
  go_ret
  exact rZ (pB HB.out)
 ·rw [if_neg c2] at H;have c2b0:decide (60<(l0.length:Int))=false:=decide_eq_false c2
  have c2b1:decide (60<l0.length)=false:=decide_eq_false (by omega)
  clear c2;have H':=mA H;clear H
  go_enter Try.func70,Try.ntmps70
  go_wp2
  go_loopg [3] k (fun kq v3 w'=>∃ (x3_1:Int),v3=.int .i64 x3_1∧Aside0 (spec_BlkOk.l0 kq l0 x3_1=some r)∧Aside0 (kq≤k)∧Aside0 (Below w.heap.size w w'))
  case atStart=>exact ⟨(0),bZ,H',⟨Nat.le_refl _⟩,⟨pB HB.out⟩⟩
  case round =>
   clear H'
   (try clear c2);(try clear c2b0);(try clear c2b1)
   obtain ⟨x3_1,rfl,HA,HK1,HB⟩:=hrel
   cases gk with
   | zero=>exact absurd HA.out (by simp [spec_BlkOk.l0])
   | succ k1 =>
    have H:=HA.out;clear HA;simp only [spec_BlkOk.l0] at H
    by_cases c3:x3_1<(l0.length:Int)
    ·rw [if_pos c3] at H;have c3b0:decide (x3_1<(l0.length:Int))=true:=decide_eq_true c3;clear c3
     by_cases c4:0≤x3_1
     ·rw [if_pos c4] at H;have c4b0:decide (0≤x3_1)=true:=decide_eq_true c4;clear c4;have HC5:=mA H;clear H;have p153:0≤(x3_1:Int):=of_decide_eq_true bA;have q153:x3_1<(l0.length:Int):=of_decide_eq_true bA;obtain ⟨ad153,e153,hx153_0,hx153_1,hx153_2,hx153_3⟩:=at_T138 HR0.out x3_1 p153 q153;cases e153;replace hx153_0:=hC HB hx153_0;replace hx153_1:=hC HB hx153_1;replace hx153_2:=hC HB hx153_2;replace hx153_3:=hC HB hx153_3;replace p153:=eq_true p153;replace q153:=eq_true q153
      go_upto_region 7 with (first|((with_reducible refine gT 4 rfl ?_);refine bE 4 #[.int .i64 0,.int .i64 0,.int .i64 0,.int .i64 0] 138 ?_;intro gb154 hg w6 hbox hb;have BK154:=mA hbox;have GW154:=gbpB HB hg;have GE154:=gbpB HB hg;replace HB:=spB HB hb;clear hb hbox hg;obtain ⟨hcz7_0,hcz7_1,hcz7_2,hcz7_3,hfz7_0,hfz7_1,hfz7_2,hfz7_3⟩:=box4 BK154.out))
      (try simp only [Act.put,List.setIfInBounds_toArray,List.set_cons_zero,List.set_cons_succ])
      go_cut [39] (fun v39 wc=>∃ (kq:Nat) (x39_4:Bool),v39=.bool x39_4∧Aside0 (spec_BlkOk.j1 kq l0 x3_1 x39_4 ((rd_T138 l0 x3_1).f0) ((rd_T138 l0 x3_1).f1) ((rd_T138 l0 x3_1).f2) ((rd_T138 l0 x3_1).f3)=some r)∧Aside0 (kq≤k1)∧Aside0 (wc.heap[gb154]?=some (.cells #[.int .i64 ((rd_T138 l0 x3_1).f0),.int .i64 ((rd_T138 l0 x3_1).f1),.int .i64 ((rd_T138 l0 x3_1).f2),.int .i64 ((rd_T138 l0 x3_1).f3)] 138 (0,0)))∧Aside0 (Below w.heap.size w wc))
      case first =>
       have H:=HC5.out;clear HC5;obtain ⟨t155,A8,H⟩:=bI H;(try dsimp only at H)
       by_cases c9:t155=true
       ·subst c9;rw [if_pos rfl] at H;obtain ⟨t156,A10,H⟩:=bI H;(try dsimp only at H)
        by_cases c11:t156=true
        ·subst c11;rw [if_pos rfl] at H;obtain ⟨t157,A12,H⟩:=bI H;(try dsimp only at H)
         by_cases c13:t157=true
         ·subst c13;rw [if_pos rfl] at H;obtain ⟨t158,A14,H⟩:=bI H;(try dsimp only at H);have H':=mA H;clear H;obtain ⟨hcz15_0,hcz15_1,hcz15_2,hcz15_3,hfz15_0,hfz15_1,hfz15_2,hfz15_3⟩:=box4 BK154.out
          go_wp2_with (first|((with_reducible refine gT 20 rfl ?_);refine gC (some 20) Try.func67 (spec_l6In.calls A8.out) ?_;rintro e w' ⟨rfl,⟨nd,rfl⟩⟩;refine ⟨_,rfl,?_⟩)|(go_at_call 67;(with_reducible refine (spec_l6In.calls A10.out).mono ?_);rintro e w' ⟨rfl,⟨nd,rfl⟩⟩)|(go_at_call 67;(with_reducible refine (spec_l6In.calls A12.out).mono ?_);rintro e w' ⟨rfl,⟨nd,rfl⟩⟩)|(go_at_call 67;(with_reducible refine (spec_l6In.calls A14.out).mono ?_);rintro e w' ⟨rfl,⟨nd,rfl⟩⟩))
          go_meet
          case rel=>exact ⟨_,(!t158),bZ,H',⟨by have:=HK1.out;first|omega|exact Nat.le_refl _⟩,⟨pP BK154⟩,⟨pS HB.out⟩⟩
         ·replace c13:=Bool.eq_false_iff.mpr c13;subst c13
          rw [if_neg nFT] at H
          have H':=mA H;clear H;obtain ⟨hcz16_0,hcz16_1,hcz16_2,hcz16_3,hfz16_0,hfz16_1,hfz16_2,hfz16_3⟩:=box4 BK154.out
          go_wp2_with (first|((with_reducible refine gT 20 rfl ?_);refine gC (some 20) Try.func67 (spec_l6In.calls A8.out) ?_;rintro e w' ⟨rfl,⟨nd,rfl⟩⟩;refine ⟨_,rfl,?_⟩)|(go_at_call 67;(with_reducible refine (spec_l6In.calls A10.out).mono ?_);rintro e w' ⟨rfl,⟨nd,rfl⟩⟩)|(go_at_call 67;(with_reducible refine (spec_l6In.calls A12.out).mono ?_);rintro e w' ⟨rfl,⟨nd,rfl⟩⟩))
          go_meet
          case rel=>exact ⟨_,(true),bZ,H',⟨by have:=HK1.out;first|omega|exact Nat.le_refl _⟩,⟨pP BK154⟩,⟨pS HB.out⟩⟩
        ·replace c11:=Bool.eq_false_iff.mpr c11;subst c11
         rw [if_neg nFT] at H
         have H':=mA H;clear H;obtain ⟨hcz17_0,hcz17_1,hcz17_2,hcz17_3,hfz17_0,hfz17_1,hfz17_2,hfz17_3⟩:=box4 BK154.out
         go_wp2_with (first|((with_reducible refine gT 20 rfl ?_);refine gC (some 20) Try.func67 (spec_l6In.calls A8.out) ?_;rintro e w' ⟨rfl,⟨nd,rfl⟩⟩;refine ⟨_,rfl,?_⟩)|(go_at_call 67;(with_reducible refine (spec_l6In.calls A10.out).mono ?_);rintro e w' ⟨rfl,⟨nd,rfl⟩⟩))
         go_meet
         case rel=>exact ⟨_,(true),bZ,H',⟨by have:=HK1.out;first|omega|exact Nat.le_refl _⟩,⟨pP BK154⟩,⟨pS HB.out⟩⟩
       ·replace c9:=Bool.eq_false_iff.mpr c9;subst c9
        rw [if_neg nFT] at H
        have H':=mA H;clear H;obtain ⟨hcz18_0,hcz18_1,hcz18_2,hcz18_3,hfz18_0,hfz18_1,hfz18_2,hfz18_3⟩:=box4 BK154.out
        go_wp2_with (first|((with_reducible refine gT 20 rfl ?_);refine gC (some 20) Try.func67 (spec_l6In.calls A8.out) ?_;rintro e w' ⟨rfl,⟨nd,rfl⟩⟩;refine ⟨_,rfl,?_⟩))
        go_meet
        case rel=>exact ⟨_,(true),bZ,H',⟨by have:=HK1.out;first|omega|exact Nat.le_refl _⟩,⟨pP BK154⟩,⟨pS HB.out⟩⟩
      case rest =>
       clear HC5
       (try clear c2);(try clear c2b0);(try clear c2b1);(try clear c3);(try clear c3b0);(try clear c4);(try clear c4b0);(try clear hcz7_0);(try clear hcz7_1);(try clear hcz7_2);(try clear hcz7_3);(try clear hfz7_0);(try clear hfz7_1);(try clear hfz7_2);(try clear hfz7_3);(try clear hx153_0);(try clear hx153_1);(try clear hx153_2);(try clear hx153_3);(try clear p153);(try clear q153)
       obtain ⟨kq,x39_4,rfl,HA,HJ4,BK154,HB⟩:=hcut
       cases kq with
       | zero=>exact absurd HA.out (by simp [spec_BlkOk.j1])
       | succ kj4 =>
        have H:=HA.out;clear HA;simp only [spec_BlkOk.j1] at H
        by_cases c19:x39_4=true
        ·subst c19;rw [if_pos rfl] at H;obtain rfl:=Option.some.inj H
         go_wp2
         go_ret
         exact rZ (pS HB.out)
        ·replace c19:=Bool.eq_false_iff.mpr c19;subst c19
         rw [if_neg nFT] at H
         by_cases c20:x3_1 > 0
         ·rw [if_pos c20] at H;have c20b0:decide (0<x3_1)=true:=decide_eq_true c20;clear c20;obtain ⟨ji21,hji21⟩:∃ j_:Int,(wrap64 (x3_1 - 1))=j_:=⟨_,rfl⟩
          replace H:(if 0≤(ji21) then (if (ji21)<(l0.length:Int) then ((spec_l3Before.f ((rd_T138 l0 (ji21)).f0) ((rd_T138 l0 (ji21)).f1) ((rd_T138 l0 (ji21)).f2) ((rd_T138 l0 (ji21)).f3) ((rd_T138 l0 x3_1).f0) ((rd_T138 l0 x3_1).f1) ((rd_T138 l0 x3_1).f2)).bind fun t160=>(if t160=true then (spec_BlkOk.l0 kj4 l0 (wrap64 (x3_1+1))) else (some false))) else (none)) else (none))=some r:=by first|(rw [hji21] at H;exact H)|(simp only [hji21] at H ⊢;exact H)
          have hji21w:(IntKind.i64.wrap (x3_1 - 1))=ji21:=(i64_w _).trans hji21
          by_cases c22:0≤(ji21)
          ·rw [if_pos c22] at H;have c22b0:decide (0≤(ji21))=true:=decide_eq_true c22;clear c22
           by_cases c23:(ji21)<(l0.length:Int)
           ·rw [if_pos c23] at H;have c23b0:decide ((ji21)<(l0.length:Int))=true:=decide_eq_true c23;clear c23;obtain ⟨t160,A24,H⟩:=bI H;(try dsimp only at H)
            by_cases c25:t160=true
            ·subst c25;rw [if_pos rfl] at H;have H':=mA H;clear H
             try go_wp2
             replace BK154:=mA (blk_drew BK154.out);replace HB:=mA (below_drew1 HB.out);have p159:0≤((ji21):Int):=of_decide_eq_true bA;have q159:(ji21)<(l0.length:Int):=of_decide_eq_true bA;obtain ⟨ad159,e159,hx159_0,hx159_1,hx159_2,hx159_3⟩:=at_T138 HR0.out (ji21) p159 q159;have hw159_3:=hx159_3;have hw159_2:=hx159_2;have hw159_1:=hx159_1;have hw159_0:=hx159_0
             obtain rfl:ad153=ad159:=(by injection e159)
             replace hx159_0:=hC HB hx159_0;replace hx159_1:=hC HB hx159_1;replace hx159_2:=hC HB hx159_2;replace hx159_3:=hC HB hx159_3;replace p159:=eq_true p159;replace q159:=eq_true q159
             refine start_ (n:=17) (S:=fun w'=>w'.heap[gb154]?=some (.cells #[.int .i64 ((rd_T138 l0 x3_1).f0),.int .i64 ((rd_T138 l0 x3_1).f1),.int .i64 ((rd_T138 l0 x3_1).f2),.int .i64 ((rd_T138 l0 x3_1).f3)] 138 (0,0))∧w'.cell? (ad153.add (((ji21)).toNat * 4))=some (.int .i64 ((rd_T138 l0 (ji21)).f0))∧w'.cell? ⟨(ad153.add (((ji21)).toNat * 4)).block,(ad153.add (((ji21)).toNat * 4)).off+1,none⟩=some (.int .i64 ((rd_T138 l0 (ji21)).f1))∧w'.cell? ⟨(ad153.add (((ji21)).toNat * 4)).block,(ad153.add (((ji21)).toNat * 4)).off+2,none⟩=some (.int .i64 ((rd_T138 l0 (ji21)).f2))∧w'.cell? ⟨(ad153.add (((ji21)).toNat * 4)).block,(ad153.add (((ji21)).toNat * 4)).off+3,none⟩=some (.int .i64 ((rd_T138 l0 (ji21)).f3))) (ds:=[]) _ aK rfl rfl ⟨BK154.out,((HB.out.cell (World.block_lt_of_cell? w _ hw159_0)).trans hw159_0),((HB.out.cell (World.block_lt_of_cell? w _ hw159_1)).trans hw159_1),((HB.out.cell (World.block_lt_of_cell? w _ hw159_2)).trans hw159_2),((HB.out.cell (World.block_lt_of_cell? w _ hw159_3)).trans hw159_3)⟩ (fun hHeld=>?_);refine with_tabW spec_BlkOk.tab9 spec_BlkOk.bits9 (fun HT_ HW_=>?_)
             generalize wc.drew=w26 at BK154 HB hx159_0 hx159_1 hx159_2 hx159_3 hHeld ⊢
             refine pu_ 0 (some 40) (aT HT_) ?_
             refine pu_ 1 (some 41) (aT HT_) ?_
             refine pu_ 2 (some 42) (aT HT_) ?_
             refine pu_ 3 (some 43) (aT HT_) ?_
             refine pu_ 4 (some 44) (aT HT_) ?_
             refine pu_ 5 (some 45) (aT HT_) ?_
             refine pu_ 6 (some 46) (aT HT_) ?_
             refine pu_ 8 (some 48) (aT HT_) ?_
             refine pu_ 10 (some 50) (aT HT_) ?_
             refine pu_ 12 (some 52) (aT HT_) ?_
             refine tb5_ 7 (some 47) (tT HT_ HW_) hHeld ?_
             refine tb5_ 9 (some 49) (tT HT_ HW_) hHeld ?_
             refine tb5_ 11 (some 51) (tT HT_ HW_) hHeld ?_
             refine tb5_ 13 (some 53) (tT HT_ HW_) hHeld ?_
             refine on_ 14 (some 54) (oT HT_) ?_;intro K hK
             refine goes_ Try.func129 aK rfl #[.agg #[.int .i64 ((rd_T138 l0 (ji21)).f0),.int .i64 ((rd_T138 l0 (ji21)).f1),.int .i64 ((rd_T138 l0 (ji21)).f2),.int .i64 ((rd_T138 l0 (ji21)).f3)],.int .i64 ((rd_T138 l0 x3_1).f0),.int .i64 ((rd_T138 l0 x3_1).f1),.int .i64 ((rd_T138 l0 x3_1).f2)] (by rfl) rfl rfl (by (try simp only [List.map_toArray,List.map_cons,List.map_nil]);first|done|(simp only [hji21];rfl)|rfl|(simp only [List.length_drop,List.length_take];rfl)) ?_
             with_reducible refine (spec_l3Before.calls A24.out).mono ?_
             rintro e w27 ⟨rfl,hb⟩;refine ⟨_,rfl,?_⟩;replace BK154:=bK BK154 hb;replace HB:=spS HB hb
             (try clear hb)
             refine hK.out _ _ ⟨BK154.out,((HB.out.cell (World.block_lt_of_cell? w _ hw159_0)).trans hw159_0),((HB.out.cell (World.block_lt_of_cell? w _ hw159_1)).trans hw159_1),((HB.out.cell (World.block_lt_of_cell? w _ hw159_2)).trans hw159_2),((HB.out.cell (World.block_lt_of_cell? w _ hw159_3)).trans hw159_3)⟩ (fun hHeld=>?_);clear hK K;refine no_ (some 54) ?_
             refine pu_ 15 (some 55) (aT HT_) ?_
             refine pu_ 16 (some 56) (aT HT_) ?_
             refine done_ (done_of HT_.out aK) ?_
             try go_wp2
             go_roundg kj4
             case measure=>have:=HK1.out;have:=HJ4.out;omega
             case rel=>exact ⟨(wrap64 (x3_1+1)),bZ,H',⟨by have:=HK1.out;have:=HJ4.out;omega⟩,⟨pS HB.out⟩⟩
            ·replace c25:=Bool.eq_false_iff.mpr c25;subst c25
             rw [if_neg nFT] at H
             obtain rfl:=Option.some.inj H
             try go_wp2
             replace BK154:=mA (blk_drew BK154.out);replace HB:=mA (below_drew1 HB.out);have p159:0≤((ji21):Int):=of_decide_eq_true bA;have q159:(ji21)<(l0.length:Int):=of_decide_eq_true bA;obtain ⟨ad159,e159,hx159_0,hx159_1,hx159_2,hx159_3⟩:=at_T138 HR0.out (ji21) p159 q159;have hw159_3:=hx159_3;have hw159_2:=hx159_2;have hw159_1:=hx159_1;have hw159_0:=hx159_0
             obtain rfl:ad153=ad159:=(by injection e159)
             replace hx159_0:=hC HB hx159_0;replace hx159_1:=hC HB hx159_1;replace hx159_2:=hC HB hx159_2;replace hx159_3:=hC HB hx159_3;replace p159:=eq_true p159;replace q159:=eq_true q159
             refine start_ (n:=17) (S:=fun w'=>w'.heap[gb154]?=some (.cells #[.int .i64 ((rd_T138 l0 x3_1).f0),.int .i64 ((rd_T138 l0 x3_1).f1),.int .i64 ((rd_T138 l0 x3_1).f2),.int .i64 ((rd_T138 l0 x3_1).f3)] 138 (0,0))∧w'.cell? (ad153.add (((ji21)).toNat * 4))=some (.int .i64 ((rd_T138 l0 (ji21)).f0))∧w'.cell? ⟨(ad153.add (((ji21)).toNat * 4)).block,(ad153.add (((ji21)).toNat * 4)).off+1,none⟩=some (.int .i64 ((rd_T138 l0 (ji21)).f1))∧w'.cell? ⟨(ad153.add (((ji21)).toNat * 4)).block,(ad153.add (((ji21)).toNat * 4)).off+2,none⟩=some (.int .i64 ((rd_T138 l0 (ji21)).f2))∧w'.cell? ⟨(ad153.add (((ji21)).toNat * 4)).block,(ad153.add (((ji21)).toNat * 4)).off+3,none⟩=some (.int .i64 ((rd_T138 l0 (ji21)).f3))) (ds:=[]) _ aK rfl rfl ⟨BK154.out,((HB.out.cell (World.block_lt_of_cell? w _ hw159_0)).trans hw159_0),((HB.out.cell (World.block_lt_of_cell? w _ hw159_1)).trans hw159_1),((HB.out.cell (World.block_lt_of_cell? w _ hw159_2)).trans hw159_2),((HB.out.cell (World.block_lt_of_cell? w _ hw159_3)).trans hw159_3)⟩ (fun hHeld=>?_);refine with_tabW spec_BlkOk.tab9 spec_BlkOk.bits9 (fun HT_ HW_=>?_)
             generalize wc.drew=w28 at BK154 HB hx159_0 hx159_1 hx159_2 hx159_3 hHeld ⊢
             refine pu_ 0 (some 40) (aT HT_) ?_
             refine pu_ 1 (some 41) (aT HT_) ?_
             refine pu_ 2 (some 42) (aT HT_) ?_
             refine pu_ 3 (some 43) (aT HT_) ?_
             refine pu_ 4 (some 44) (aT HT_) ?_
             refine pu_ 5 (some 45) (aT HT_) ?_
             refine pu_ 6 (some 46) (aT HT_) ?_
             refine pu_ 8 (some 48) (aT HT_) ?_
             refine pu_ 10 (some 50) (aT HT_) ?_
             refine pu_ 12 (some 52) (aT HT_) ?_
             refine tb5_ 7 (some 47) (tT HT_ HW_) hHeld ?_
             refine tb5_ 9 (some 49) (tT HT_ HW_) hHeld ?_
             refine tb5_ 11 (some 51) (tT HT_ HW_) hHeld ?_
             refine tb5_ 13 (some 53) (tT HT_ HW_) hHeld ?_
             refine on_ 14 (some 54) (oT HT_) ?_;intro K hK
             refine goes_ Try.func129 aK rfl #[.agg #[.int .i64 ((rd_T138 l0 (ji21)).f0),.int .i64 ((rd_T138 l0 (ji21)).f1),.int .i64 ((rd_T138 l0 (ji21)).f2),.int .i64 ((rd_T138 l0 (ji21)).f3)],.int .i64 ((rd_T138 l0 x3_1).f0),.int .i64 ((rd_T138 l0 x3_1).f1),.int .i64 ((rd_T138 l0 x3_1).f2)] (by rfl) rfl rfl (by (try simp only [List.map_toArray,List.map_cons,List.map_nil]);first|done|(simp only [hji21];rfl)|rfl|(simp only [List.length_drop,List.length_take];rfl)) ?_
             with_reducible refine (spec_l3Before.calls A24.out).mono ?_
             rintro e w29 ⟨rfl,hb⟩;refine ⟨_,rfl,?_⟩;replace BK154:=bK BK154 hb;replace HB:=spS HB hb
             (try clear hb)
             refine hK.out _ _ ⟨BK154.out,((HB.out.cell (World.block_lt_of_cell? w _ hw159_0)).trans hw159_0),((HB.out.cell (World.block_lt_of_cell? w _ hw159_1)).trans hw159_1),((HB.out.cell (World.block_lt_of_cell? w _ hw159_2)).trans hw159_2),((HB.out.cell (World.block_lt_of_cell? w _ hw159_3)).trans hw159_3)⟩ (fun hHeld=>?_);clear hK K;refine no_ (some 54) ?_
             refine pu_ 15 (some 55) (aT HT_) ?_
             refine pu_ 16 (some 56) (aT HT_) ?_
             refine done_ (done_of HT_.out aK) ?_
             try go_wp2
             go_ret
             exact ⟨by first|rfl|(simp [errW_none,errW_some]<;>rfl)|(simp only [← hji21];first|rfl|(simp [errW_none,errW_some]<;>rfl))|(simp [*,errW_none,errW_some]<;>rfl),pS HB.out⟩
           ·rw [if_neg c23] at H
            exact absurd H (by simp)
          ·rw [if_neg c22] at H
           exact absurd H (by simp)
         ·rw [if_neg c20] at H;have c20b0:decide (0<x3_1)=false:=decide_eq_false c20;clear c20;have H':=mA H;clear H
          try go_wp2
          replace BK154:=mA (blk_drew BK154.out);replace HB:=mA (below_drew1 HB.out)
          refine start_ (n:=17) (S:=fun w'=>True) (ds:=[]) _ aK rfl rfl trivial (fun hHeld=>?_);refine with_tabW spec_BlkOk.tab9 spec_BlkOk.bits9 (fun HT_ HW_=>?_)
          generalize wc.drew=w30 at BK154 HB hHeld ⊢
          refine pu_ 0 (some 40) (aT HT_) ?_
          refine pu_ 1 (some 41) (aT HT_) ?_
          refine pu_ 2 (some 42) (aT HT_) ?_
          refine pd_ 3 (some 43) (aT HT_) ?_
          refine pd_ 4 (some 44) (aT HT_) ?_
          refine pd_ 5 (some 45) (aT HT_) ?_
          refine pd_ 6 (some 46) (aT HT_) ?_
          refine pd_ 7 (some 47) (aT HT_) ?_
          refine pd_ 8 (some 48) (aT HT_) ?_
          refine pd_ 9 (some 49) (aT HT_) ?_
          refine pd_ 10 (some 50) (aT HT_) ?_
          refine pd_ 11 (some 51) (aT HT_) ?_
          refine pd_ 12 (some 52) (aT HT_) ?_
          refine pd_ 13 (some 53) (aT HT_) ?_
          refine pd_ 14 (some 54) (aT HT_) ?_
          refine pd_ 15 (some 55) (aT HT_) ?_
          refine pu_ 16 (some 56) (aT HT_) ?_
          refine done_ (done_of HT_.out aK) ?_
          try go_wp2
          go_roundg kj4
          case measure=>have:=HK1.out;have:=HJ4.out;omega
          case rel=>exact ⟨(wrap64 (x3_1+1)),bZ,H',⟨by have:=HK1.out;have:=HJ4.out;omega⟩,⟨pS HB.out⟩⟩
     ·rw [if_neg c4] at H
      exact absurd H (by simp)
    ·rw [if_neg c3] at H;have c3b0:decide (x3_1<(l0.length:Int))=false:=decide_eq_false c3;clear c3;obtain rfl:=Option.some.inj H
     go_wp2
     go_ret
     exact rZ (pB HB.out)

/-! ### spec_l3LastOk: function 71 -/
def spec_l3LastOk.l0 : Nat → List (S140) → Int → Option (Bool)
 | 0,_,_=>none
 | k+1,x0,x3=>if x3<(x0.length:Int) then (if 0≤x3 then ((spec_l6In.f ((rd_T140 x0 x3).f0) 0 3).bind fun t233=>(if t233=true then ((spec_l6In.f ((rd_T140 x0 x3).f1) 1 99999).bind fun t235=>(if t235=true then (if x3 > 0 then (if 0≤(wrap64 (x3 - 1)) then (if (wrap64 (x3 - 1))<(x0.length:Int) then (if ((rd_T140 x0 (wrap64 (x3 - 1))).f0) ≥ ((rd_T140 x0 x3).f0) then (some false) else (spec_l3LastOk.l0 k x0 (wrap64 (x3+1)))) else (none)) else (none)) else (spec_l3LastOk.l0 k x0 (wrap64 (x3+1)))) else (some false))) else (some false))) else (none)) else (some true)
def spec_l3LastOk.f (k : Nat) (l0 : List (S140)) : Option (Bool) := if (l0.length : Int) > 4 then (some false) else (spec_l3LastOk.l0 k l0 0)
theorem spec_l3LastOk.mono_l : ∀ k, (∀ y0 y1, LeO (spec_l3LastOk.l0 k y0 y1) (spec_l3LastOk.l0 (k + 1) y0 y1))
 | 0=>fun _ _ r h=>by simp [spec_l3LastOk.l0] at h
 | k+1=>by
  have ih0:=spec_l3LastOk.mono_l k
  ·intros
   unfold spec_l3LastOk.l0
   repeat' first
   | (with_reducible first|apply ih0|exact LeO.refl _|exact LeO.none _|refine LeO.ite ?_ ?_|refine LeO.bind ?_ (fun _=>?_))|exact LeO.none _|refine LeO.ite ?_ ?_|refine LeO.bind ?_ (fun _=>?_)
theorem spec_l3LastOk.mono : ∀ a0 k, LeO (spec_l3LastOk.f k a0) (spec_l3LastOk.f (k + 1) a0) := by
 intro a0 k;have ih0:=spec_l3LastOk.mono_l k
 unfold spec_l3LastOk.f
 repeat' first
   | (with_reducible first|apply ih0|exact LeO.refl _|exact LeO.none _|refine LeO.ite ?_ ?_|refine LeO.bind ?_ (fun _=>?_))|exact LeO.none _|refine LeO.ite ?_ ?_|refine LeO.bind ?_ (fun _=>?_)
def spec_l3LastOk.T6 : Bool × List (List Nat × List Nat) := (true, [([], []), ([], []), ([0, 1], [0, 1]), ([2], [2]), ([3], [3]), ([4], [4]), ([5], [5]), ([6, 5], [6]), ([7], [7]), ([7], [7]), ([8, 9, 7], [7, 8, 9]), ([10, 7], [7, 10]), ([11, 7], [7, 11]), ([12, 7, 7], [7, 12]), ([13, 7], [7, 13]), ([7, 14], [7, 14]), ([15, 13], [15]), ([16], [16]), ([17, 16], [16, 17]), ([18, 16, 16], [16, 18]), ([19], [19]), ([19], [19]), ([21, 19], [19, 21]), ([20, 22, 19], [19, 20, 22]), ([23, 19], [19, 23]), ([24, 19], [19, 24]), ([19], [19]), ([19], [19]), ([26, 27, 19], [19, 26, 27]), ([28, 19], [19, 28]), ([29, 19], [19, 29]), ([25, 30, 19], [19, 25, 30]), ([19, 31, 16], [16, 19, 31]), ([16, 32], [16, 32])])
def spec_l3LastOk.B6 : List Nat := [0, 0, 3, 7, 15, 31, 63, 127, 255, 255, 1023, 2047, 4095, 8191, 16383, 32767, 65535, 131071, 262143, 524287, 1048575, 1048575, 3145727, 8388607, 16777215, 33554431, 1048575, 1048575, 202375167, 470810623, 1007681535, 2147483647, 4294967295, 8589934591]
theorem spec_l3LastOk.tab6 : rtab .any (opsOf Try.f71 6) = spec_l3LastOk.T6 := by kernel_rfl
theorem spec_l3LastOk.bits6 : waitsOk spec_l3LastOk.T6.2 spec_l3LastOk.B6 = true := by kernel_rfl
set_option maxHeartbeats 8000000 in
set_option maxRecDepth 100000 in
theorem spec_l3LastOk.calls {k : Nat} {A0 : Option Addr} {c0 : Nat} {l0 : List (S140)} {r : Bool} {w : World} (hr0 : Kd.C k140 w A0 l0.length l0) (hc0 : l0.length ≤ c0) (h : spec_l3LastOk.f k l0 = some r) :
  Calls Try.prog 71 #[.slice A0 l0.length c0] w fun e w'=>e=.returned (.bool r)∧Below w.heap.size w w':=by
 have HR0:=mA hr0;have HC0:=mA hc0;clear hr0 hc0;have HB:=mA (Below.refl w.heap.size w);have H:(if (l0.length:Int) > 4 then (some false) else (spec_l3LastOk.l0 k l0 0))=some r:=h;clear h
 by_cases c2:(l0.length:Int) > 4
 ·rw [if_pos c2] at H;have c2b0:decide (4<(l0.length:Int))=true:=decide_eq_true c2
  have c2b1:decide (4<l0.length)=true:=decide_eq_true (by omega)
  clear c2;obtain rfl:=Option.some.inj H
  go_enter Try.func71,Try.ntmps71
  go_wp2
  go_ret
  exact rZ (pB HB.out)
 ·rw [if_neg c2] at H;have c2b0:decide (4<(l0.length:Int))=false:=decide_eq_false c2
  have c2b1:decide (4<l0.length)=false:=decide_eq_false (by omega)
  clear c2;have H':=mA H;clear H
  go_enter Try.func71,Try.ntmps71
  go_wp2
  go_loopg [3] k (fun kq v3 w'=>∃ (x3_1:Int),v3=.int .i64 x3_1∧Aside0 (spec_l3LastOk.l0 kq l0 x3_1=some r)∧Aside0 (kq≤k)∧Aside0 (Below w.heap.size w w'))
  case atStart=>exact ⟨(0),bZ,H',⟨Nat.le_refl _⟩,⟨pB HB.out⟩⟩
  case round =>
   clear H'
   (try clear c2);(try clear c2b0);(try clear c2b1)
   obtain ⟨x3_1,rfl,HA,HK1,HB⟩:=hrel
   cases gk with
   | zero=>exact absurd HA.out (by simp [spec_l3LastOk.l0])
   | succ k1 =>
    have H:=HA.out;clear HA;simp only [spec_l3LastOk.l0] at H
    by_cases c3:x3_1<(l0.length:Int)
    ·rw [if_pos c3] at H;have c3b0:decide (x3_1<(l0.length:Int))=true:=decide_eq_true c3;clear c3
     by_cases c4:0≤x3_1
     ·rw [if_pos c4] at H;have c4b0:decide (0≤x3_1)=true:=decide_eq_true c4;clear c4;obtain ⟨t233,A5,H⟩:=bI H;(try dsimp only at H)
      by_cases c6:t233=true
      ·subst c6;rw [if_pos rfl] at H;obtain ⟨t235,A7,H⟩:=bI H;(try dsimp only at H)
       by_cases c8:t235=true
       ·subst c8;rw [if_pos rfl] at H
        by_cases c9:x3_1 > 0
        ·rw [if_pos c9] at H;have c9b0:decide (0<x3_1)=true:=decide_eq_true c9;clear c9;obtain ⟨ji10,hji10⟩:∃ j_:Int,(wrap64 (x3_1 - 1))=j_:=⟨_,rfl⟩
         replace H:(if 0≤(ji10) then (if (ji10)<(l0.length:Int) then (if ((rd_T140 l0 (ji10)).f0) ≥ ((rd_T140 l0 x3_1).f0) then (some false) else (spec_l3LastOk.l0 k1 l0 (wrap64 (x3_1+1)))) else (none)) else (none))=some r:=by first|(rw [hji10] at H;exact H)|(simp only [hji10] at H ⊢;exact H)
         (try rw [hji10] at A5)
         (try rw [hji10] at A7)
         have hji10w:(IntKind.i64.wrap (x3_1 - 1))=ji10:=(i64_w _).trans hji10
         by_cases c11:0≤(ji10)
         ·rw [if_pos c11] at H;have c11b0:decide (0≤(ji10))=true:=decide_eq_true c11;clear c11
          by_cases c12:(ji10)<(l0.length:Int)
          ·rw [if_pos c12] at H;have c12b0:decide ((ji10)<(l0.length:Int))=true:=decide_eq_true c12;clear c12
           by_cases c13:((rd_T140 l0 (ji10)).f0) ≥ ((rd_T140 l0 x3_1).f0)
           ·rw [if_pos c13] at H;have c13b0:decide (((rd_T140 l0 x3_1).f0)≤((rd_T140 l0 (ji10)).f0))=true:=decide_eq_true c13;clear c13;obtain rfl:=Option.some.inj H
            try go_wp2
            replace HB:=mA (below_drew1 HB.out);have p232:0≤(x3_1:Int):=of_decide_eq_true bA;have q232:x3_1<(l0.length:Int):=of_decide_eq_true bA;obtain ⟨ad232,e232,hx232_0,hx232_1⟩:=at_T140 HR0.out x3_1 p232 q232;have hw232_1:=hx232_1;have hw232_0:=hx232_0;cases e232;replace hx232_0:=hC HB hx232_0;replace hx232_1:=hC HB hx232_1;replace p232:=eq_true p232;replace q232:=eq_true q232;have p234:0≤(x3_1:Int):=of_decide_eq_true bA;have q234:x3_1<(l0.length:Int):=of_decide_eq_true bA;obtain ⟨ad234,e234,hx234_0,hx234_1⟩:=at_T140 HR0.out x3_1 p234 q234;have hw234_1:=hx234_1;have hw234_0:=hx234_0
            obtain rfl:ad232=ad234:=(by injection e234)
            replace hx234_0:=hC HB hx234_0;replace hx234_1:=hC HB hx234_1;replace p234:=eq_true p234;replace q234:=eq_true q234;have p236:0≤((ji10):Int):=of_decide_eq_true bA;have q236:(ji10)<(l0.length:Int):=of_decide_eq_true bA;obtain ⟨ad236,e236,hx236_0,hx236_1⟩:=at_T140 HR0.out (ji10) p236 q236;have hw236_1:=hx236_1;have hw236_0:=hx236_0
            obtain rfl:ad232=ad236:=(by injection e236)
            replace hx236_0:=hC HB hx236_0;replace hx236_1:=hC HB hx236_1;replace p236:=eq_true p236;replace q236:=eq_true q236;have p237:0≤(x3_1:Int):=of_decide_eq_true bA;have q237:x3_1<(l0.length:Int):=of_decide_eq_true bA;obtain ⟨ad237,e237,hx237_0,hx237_1⟩:=at_T140 HR0.out x3_1 p237 q237;have hw237_1:=hx237_1;have hw237_0:=hx237_0
            obtain rfl:ad232=ad237:=(by injection e237)
            replace hx237_0:=hC HB hx237_0;replace hx237_1:=hC HB hx237_1;replace p237:=eq_true p237;replace q237:=eq_true q237
            refine start_ (n:=34) (S:=fun w'=>w'.cell? (ad232.add ((x3_1).toNat * 2))=some (.int .i64 ((rd_T140 l0 x3_1).f0))∧w'.cell? ⟨(ad232.add ((x3_1).toNat * 2)).block,(ad232.add ((x3_1).toNat * 2)).off+1,none⟩=some (.int .i64 ((rd_T140 l0 x3_1).f1))∧w'.cell? (ad232.add ((x3_1).toNat * 2))=some (.int .i64 ((rd_T140 l0 x3_1).f0))∧w'.cell? ⟨(ad232.add ((x3_1).toNat * 2)).block,(ad232.add ((x3_1).toNat * 2)).off+1,none⟩=some (.int .i64 ((rd_T140 l0 x3_1).f1))∧w'.cell? (ad232.add (((ji10)).toNat * 2))=some (.int .i64 ((rd_T140 l0 (ji10)).f0))∧w'.cell? ⟨(ad232.add (((ji10)).toNat * 2)).block,(ad232.add (((ji10)).toNat * 2)).off+1,none⟩=some (.int .i64 ((rd_T140 l0 (ji10)).f1))∧w'.cell? (ad232.add ((x3_1).toNat * 2))=some (.int .i64 ((rd_T140 l0 x3_1).f0))∧w'.cell? ⟨(ad232.add ((x3_1).toNat * 2)).block,(ad232.add ((x3_1).toNat * 2)).off+1,none⟩=some (.int .i64 ((rd_T140 l0 x3_1).f1))) (ds:=[]) _ aK rfl rfl ⟨((HB.out.cell (World.block_lt_of_cell? w _ hw232_0)).trans hw232_0),((HB.out.cell (World.block_lt_of_cell? w _ hw232_1)).trans hw232_1),((HB.out.cell (World.block_lt_of_cell? w _ hw234_0)).trans hw234_0),((HB.out.cell (World.block_lt_of_cell? w _ hw234_1)).trans hw234_1),((HB.out.cell (World.block_lt_of_cell? w _ hw236_0)).trans hw236_0),((HB.out.cell (World.block_lt_of_cell? w _ hw236_1)).trans hw236_1),((HB.out.cell (World.block_lt_of_cell? w _ hw237_0)).trans hw237_0),((HB.out.cell (World.block_lt_of_cell? w _ hw237_1)).trans hw237_1)⟩ (fun hHeld=>?_);refine with_tabW spec_l3LastOk.tab6 spec_l3LastOk.bits6 (fun HT_ HW_=>?_)
            generalize wr.drew=w14 at HB hx232_0 hx232_1 hx234_0 hx234_1 hx236_0 hx236_1 hx237_0 hx237_1 hHeld ⊢
            refine pu_ 0 (some 13) (aT HT_) ?_
            refine pu_ 1 (some 14) (aT HT_) ?_
            refine pu_ 2 (some 15) (aT HT_) ?_
            refine pu_ 3 (some 16) (aT HT_) ?_
            refine ta8_ 4 (some 17) (tT HT_ HW_) hHeld ?_
            refine on_ 5 (some 18) (oT HT_) ?_;intro K hK
            refine gD Try.func67 (spec_l6In.calls A5.out) ?_
            rintro e w' ⟨rfl,⟨nd,rfl⟩⟩;refine ⟨_,rfl,?_⟩;refine hK.out _ _ ⟨((HB.out.cell (World.block_lt_of_cell? w _ hw232_0)).trans hw232_0),((HB.out.cell (World.block_lt_of_cell? w _ hw232_1)).trans hw232_1),((HB.out.cell (World.block_lt_of_cell? w _ hw234_0)).trans hw234_0),((HB.out.cell (World.block_lt_of_cell? w _ hw234_1)).trans hw234_1),((HB.out.cell (World.block_lt_of_cell? w _ hw236_0)).trans hw236_0),((HB.out.cell (World.block_lt_of_cell? w _ hw236_1)).trans hw236_1),((HB.out.cell (World.block_lt_of_cell? w _ hw237_0)).trans hw237_0),((HB.out.cell (World.block_lt_of_cell? w _ hw237_1)).trans hw237_1)⟩ (fun hHeld=>?_);clear hK K;refine no_ (some 18) ?_
            refine pu_ 6 (some 19) (aT HT_) ?_
            refine pu_ 7 (some 20) (aT HT_) ?_
            refine pu_ 8 (some 21) (aT HT_) ?_
            refine pu_ 9 (some 22) (aT HT_) ?_
            refine pu_ 10 (some 23) (aT HT_) ?_
            refine pu_ 11 (some 24) (aT HT_) ?_
            refine ta8_ 12 (some 25) (tT HT_ HW_) hHeld ?_
            refine on_ 13 (some 26) (oT HT_) ?_;intro K hK
            refine gD Try.func67 (spec_l6In.calls A7.out) ?_
            rintro e w' ⟨rfl,⟨nd,rfl⟩⟩;refine ⟨_,rfl,?_⟩;refine hK.out _ _ ⟨((HB.out.cell (World.block_lt_of_cell? w _ hw232_0)).trans hw232_0),((HB.out.cell (World.block_lt_of_cell? w _ hw232_1)).trans hw232_1),((HB.out.cell (World.block_lt_of_cell? w _ hw234_0)).trans hw234_0),((HB.out.cell (World.block_lt_of_cell? w _ hw234_1)).trans hw234_1),((HB.out.cell (World.block_lt_of_cell? w _ hw236_0)).trans hw236_0),((HB.out.cell (World.block_lt_of_cell? w _ hw236_1)).trans hw236_1),((HB.out.cell (World.block_lt_of_cell? w _ hw237_0)).trans hw237_0),((HB.out.cell (World.block_lt_of_cell? w _ hw237_1)).trans hw237_1)⟩ (fun hHeld=>?_);clear hK K;refine no_ (some 26) ?_
            refine pu_ 14 (some 27) (aT HT_) ?_
            refine pu_ 15 (some 28) (aT HT_) ?_
            refine pu_ 16 (some 29) (aT HT_) ?_
            refine pu_ 17 (some 30) (aT HT_) ?_
            refine pu_ 18 (some 31) (aT HT_) ?_
            refine pu_ 19 (some 32) (aT HT_) ?_
            refine pu_ 20 (some 33) (aT HT_) ?_
            refine pu_ 21 (some 34) (aT HT_) ?_
            refine pu_ 22 (some 35) (aT HT_) ?_
            refine pu_ 23 (some 36) (aT HT_) ?_
            refine pu_ 24 (some 37) (aT HT_) ?_
            refine pu_ 26 (some 39) (aT HT_) ?_
            refine pu_ 27 (some 40) (aT HT_) ?_
            refine pu_ 28 (some 41) (aT HT_) ?_
            refine pu_ 29 (some 42) (aT HT_) ?_
            refine ta8_ 25 (some 38) (tT HT_ HW_) hHeld ?_
            refine ta8_ 30 (some 43) (tT HT_ HW_) hHeld ?_
            refine pu_ 31 (some 44) (aT HT_) ?_
            refine pu_ 32 (some 45) (aT HT_) ?_
            refine pu_ 33 (some 46) (aT HT_) ?_
            refine done_ (done_of HT_.out aK) ?_
            try go_wp2
            go_ret
            exact ⟨by first|rfl|(simp [errW_none,errW_some]<;>rfl)|(simp only [← hji10];first|rfl|(simp [errW_none,errW_some]<;>rfl))|(simp [*,errW_none,errW_some]<;>rfl),pB HB.out⟩
           ·rw [if_neg c13] at H;have c13b0:decide (((rd_T140 l0 x3_1).f0)≤((rd_T140 l0 (ji10)).f0))=false:=decide_eq_false c13;clear c13;have H':=mA H;clear H
            try go_wp2
            replace HB:=mA (below_drew1 HB.out);have p232:0≤(x3_1:Int):=of_decide_eq_true bA;have q232:x3_1<(l0.length:Int):=of_decide_eq_true bA;obtain ⟨ad232,e232,hx232_0,hx232_1⟩:=at_T140 HR0.out x3_1 p232 q232;have hw232_1:=hx232_1;have hw232_0:=hx232_0;cases e232;replace hx232_0:=hC HB hx232_0;replace hx232_1:=hC HB hx232_1;replace p232:=eq_true p232;replace q232:=eq_true q232;have p234:0≤(x3_1:Int):=of_decide_eq_true bA;have q234:x3_1<(l0.length:Int):=of_decide_eq_true bA;obtain ⟨ad234,e234,hx234_0,hx234_1⟩:=at_T140 HR0.out x3_1 p234 q234;have hw234_1:=hx234_1;have hw234_0:=hx234_0
            obtain rfl:ad232=ad234:=(by injection e234)
            replace hx234_0:=hC HB hx234_0;replace hx234_1:=hC HB hx234_1;replace p234:=eq_true p234;replace q234:=eq_true q234;have p236:0≤((ji10):Int):=of_decide_eq_true bA;have q236:(ji10)<(l0.length:Int):=of_decide_eq_true bA;obtain ⟨ad236,e236,hx236_0,hx236_1⟩:=at_T140 HR0.out (ji10) p236 q236;have hw236_1:=hx236_1;have hw236_0:=hx236_0
            obtain rfl:ad232=ad236:=(by injection e236)
            replace hx236_0:=hC HB hx236_0;replace hx236_1:=hC HB hx236_1;replace p236:=eq_true p236;replace q236:=eq_true q236;have p237:0≤(x3_1:Int):=of_decide_eq_true bA;have q237:x3_1<(l0.length:Int):=of_decide_eq_true bA;obtain ⟨ad237,e237,hx237_0,hx237_1⟩:=at_T140 HR0.out x3_1 p237 q237;have hw237_1:=hx237_1;have hw237_0:=hx237_0
            obtain rfl:ad232=ad237:=(by injection e237)
            replace hx237_0:=hC HB hx237_0;replace hx237_1:=hC HB hx237_1;replace p237:=eq_true p237;replace q237:=eq_true q237
            refine start_ (n:=34) (S:=fun w'=>w'.cell? (ad232.add ((x3_1).toNat * 2))=some (.int .i64 ((rd_T140 l0 x3_1).f0))∧w'.cell? ⟨(ad232.add ((x3_1).toNat * 2)).block,(ad232.add ((x3_1).toNat * 2)).off+1,none⟩=some (.int .i64 ((rd_T140 l0 x3_1).f1))∧w'.cell? (ad232.add ((x3_1).toNat * 2))=some (.int .i64 ((rd_T140 l0 x3_1).f0))∧w'.cell? ⟨(ad232.add ((x3_1).toNat * 2)).block,(ad232.add ((x3_1).toNat * 2)).off+1,none⟩=some (.int .i64 ((rd_T140 l0 x3_1).f1))∧w'.cell? (ad232.add (((ji10)).toNat * 2))=some (.int .i64 ((rd_T140 l0 (ji10)).f0))∧w'.cell? ⟨(ad232.add (((ji10)).toNat * 2)).block,(ad232.add (((ji10)).toNat * 2)).off+1,none⟩=some (.int .i64 ((rd_T140 l0 (ji10)).f1))∧w'.cell? (ad232.add ((x3_1).toNat * 2))=some (.int .i64 ((rd_T140 l0 x3_1).f0))∧w'.cell? ⟨(ad232.add ((x3_1).toNat * 2)).block,(ad232.add ((x3_1).toNat * 2)).off+1,none⟩=some (.int .i64 ((rd_T140 l0 x3_1).f1))) (ds:=[]) _ aK rfl rfl ⟨((HB.out.cell (World.block_lt_of_cell? w _ hw232_0)).trans hw232_0),((HB.out.cell (World.block_lt_of_cell? w _ hw232_1)).trans hw232_1),((HB.out.cell (World.block_lt_of_cell? w _ hw234_0)).trans hw234_0),((HB.out.cell (World.block_lt_of_cell? w _ hw234_1)).trans hw234_1),((HB.out.cell (World.block_lt_of_cell? w _ hw236_0)).trans hw236_0),((HB.out.cell (World.block_lt_of_cell? w _ hw236_1)).trans hw236_1),((HB.out.cell (World.block_lt_of_cell? w _ hw237_0)).trans hw237_0),((HB.out.cell (World.block_lt_of_cell? w _ hw237_1)).trans hw237_1)⟩ (fun hHeld=>?_);refine with_tabW spec_l3LastOk.tab6 spec_l3LastOk.bits6 (fun HT_ HW_=>?_)
            generalize wr.drew=w15 at HB hx232_0 hx232_1 hx234_0 hx234_1 hx236_0 hx236_1 hx237_0 hx237_1 hHeld ⊢
            refine pu_ 0 (some 13) (aT HT_) ?_
            refine pu_ 1 (some 14) (aT HT_) ?_
            refine pu_ 2 (some 15) (aT HT_) ?_
            refine pu_ 3 (some 16) (aT HT_) ?_
            refine ta8_ 4 (some 17) (tT HT_ HW_) hHeld ?_
            refine on_ 5 (some 18) (oT HT_) ?_;intro K hK
            refine gD Try.func67 (spec_l6In.calls A5.out) ?_
            rintro e w' ⟨rfl,⟨nd,rfl⟩⟩;refine ⟨_,rfl,?_⟩;refine hK.out _ _ ⟨((HB.out.cell (World.block_lt_of_cell? w _ hw232_0)).trans hw232_0),((HB.out.cell (World.block_lt_of_cell? w _ hw232_1)).trans hw232_1),((HB.out.cell (World.block_lt_of_cell? w _ hw234_0)).trans hw234_0),((HB.out.cell (World.block_lt_of_cell? w _ hw234_1)).trans hw234_1),((HB.out.cell (World.block_lt_of_cell? w _ hw236_0)).trans hw236_0),((HB.out.cell (World.block_lt_of_cell? w _ hw236_1)).trans hw236_1),((HB.out.cell (World.block_lt_of_cell? w _ hw237_0)).trans hw237_0),((HB.out.cell (World.block_lt_of_cell? w _ hw237_1)).trans hw237_1)⟩ (fun hHeld=>?_);clear hK K;refine no_ (some 18) ?_
            refine pu_ 6 (some 19) (aT HT_) ?_
            refine pu_ 7 (some 20) (aT HT_) ?_
            refine pu_ 8 (some 21) (aT HT_) ?_
            refine pu_ 9 (some 22) (aT HT_) ?_
            refine pu_ 10 (some 23) (aT HT_) ?_
            refine pu_ 11 (some 24) (aT HT_) ?_
            refine ta8_ 12 (some 25) (tT HT_ HW_) hHeld ?_
            refine on_ 13 (some 26) (oT HT_) ?_;intro K hK
            refine gD Try.func67 (spec_l6In.calls A7.out) ?_
            rintro e w' ⟨rfl,⟨nd,rfl⟩⟩;refine ⟨_,rfl,?_⟩;refine hK.out _ _ ⟨((HB.out.cell (World.block_lt_of_cell? w _ hw232_0)).trans hw232_0),((HB.out.cell (World.block_lt_of_cell? w _ hw232_1)).trans hw232_1),((HB.out.cell (World.block_lt_of_cell? w _ hw234_0)).trans hw234_0),((HB.out.cell (World.block_lt_of_cell? w _ hw234_1)).trans hw234_1),((HB.out.cell (World.block_lt_of_cell? w _ hw236_0)).trans hw236_0),((HB.out.cell (World.block_lt_of_cell? w _ hw236_1)).trans hw236_1),((HB.out.cell (World.block_lt_of_cell? w _ hw237_0)).trans hw237_0),((HB.out.cell (World.block_lt_of_cell? w _ hw237_1)).trans hw237_1)⟩ (fun hHeld=>?_);clear hK K;refine no_ (some 26) ?_
            refine pu_ 14 (some 27) (aT HT_) ?_
            refine pu_ 15 (some 28) (aT HT_) ?_
            refine pu_ 16 (some 29) (aT HT_) ?_
            refine pu_ 17 (some 30) (aT HT_) ?_
            refine pu_ 18 (some 31) (aT HT_) ?_
            refine pu_ 19 (some 32) (aT HT_) ?_
            refine pu_ 20 (some 33) (aT HT_) ?_
            refine pu_ 21 (some 34) (aT HT_) ?_
            refine pu_ 22 (some 35) (aT HT_) ?_
            refine pu_ 23 (some 36) (aT HT_) ?_
            refine pu_ 24 (some 37) (aT HT_) ?_
            refine pu_ 26 (some 39) (aT HT_) ?_
            refine pu_ 27 (some 40) (aT HT_) ?_
            refine pu_ 28 (some 41) (aT HT_) ?_
            refine pu_ 29 (some 42) (aT HT_) ?_
            refine ta8_ 25 (some 38) (tT HT_ HW_) hHeld ?_
            refine ta8_ 30 (some 43) (tT HT_ HW_) hHeld ?_
            refine pu_ 31 (some 44) (aT HT_) ?_
            refine pu_ 32 (some 45) (aT HT_) ?_
            refine pu_ 33 (some 46) (aT HT_) ?_
            refine done_ (done_of HT_.out aK) ?_
            try go_wp2
            go_roundg k1
            case measure=>have:=HK1.out;omega
            case rel=>exact ⟨(wrap64 (x3_1+1)),bZ,H',⟨by have:=HK1.out;omega⟩,⟨pB HB.out⟩⟩
          ·rw [if_neg c12] at H
           exact absurd H (by simp)
         ·rw [if_neg c11] at H
          exact absurd H (by simp)
        ·rw [if_neg c9] at H;have c9b0:decide (0<x3_1)=false:=decide_eq_false c9;clear c9;have H':=mA H;clear H
         try go_wp2
         replace HB:=mA (below_drew1 HB.out);have p232:0≤(x3_1:Int):=of_decide_eq_true bA;have q232:x3_1<(l0.length:Int):=of_decide_eq_true bA;obtain ⟨ad232,e232,hx232_0,hx232_1⟩:=at_T140 HR0.out x3_1 p232 q232;have hw232_1:=hx232_1;have hw232_0:=hx232_0;cases e232;replace hx232_0:=hC HB hx232_0;replace hx232_1:=hC HB hx232_1;replace p232:=eq_true p232;replace q232:=eq_true q232;have p234:0≤(x3_1:Int):=of_decide_eq_true bA;have q234:x3_1<(l0.length:Int):=of_decide_eq_true bA;obtain ⟨ad234,e234,hx234_0,hx234_1⟩:=at_T140 HR0.out x3_1 p234 q234;have hw234_1:=hx234_1;have hw234_0:=hx234_0
         obtain rfl:ad232=ad234:=(by injection e234)
         replace hx234_0:=hC HB hx234_0;replace hx234_1:=hC HB hx234_1;replace p234:=eq_true p234;replace q234:=eq_true q234
         refine start_ (n:=34) (S:=fun w'=>w'.cell? (ad232.add ((x3_1).toNat * 2))=some (.int .i64 ((rd_T140 l0 x3_1).f0))∧w'.cell? ⟨(ad232.add ((x3_1).toNat * 2)).block,(ad232.add ((x3_1).toNat * 2)).off+1,none⟩=some (.int .i64 ((rd_T140 l0 x3_1).f1))∧w'.cell? (ad232.add ((x3_1).toNat * 2))=some (.int .i64 ((rd_T140 l0 x3_1).f0))∧w'.cell? ⟨(ad232.add ((x3_1).toNat * 2)).block,(ad232.add ((x3_1).toNat * 2)).off+1,none⟩=some (.int .i64 ((rd_T140 l0 x3_1).f1))) (ds:=[]) _ aK rfl rfl ⟨((HB.out.cell (World.block_lt_of_cell? w _ hw232_0)).trans hw232_0),((HB.out.cell (World.block_lt_of_cell? w _ hw232_1)).trans hw232_1),((HB.out.cell (World.block_lt_of_cell? w _ hw234_0)).trans hw234_0),((HB.out.cell (World.block_lt_of_cell? w _ hw234_1)).trans hw234_1)⟩ (fun hHeld=>?_);refine with_tabW spec_l3LastOk.tab6 spec_l3LastOk.bits6 (fun HT_ HW_=>?_)
         generalize wr.drew=w16 at HB hx232_0 hx232_1 hx234_0 hx234_1 hHeld ⊢
         refine pu_ 0 (some 13) (aT HT_) ?_
         refine pu_ 1 (some 14) (aT HT_) ?_
         refine pu_ 2 (some 15) (aT HT_) ?_
         refine pu_ 3 (some 16) (aT HT_) ?_
         refine ta4_ 4 (some 17) (tT HT_ HW_) hHeld ?_
         refine on_ 5 (some 18) (oT HT_) ?_;intro K hK
         refine gD Try.func67 (spec_l6In.calls A5.out) ?_
         rintro e w' ⟨rfl,⟨nd,rfl⟩⟩;refine ⟨_,rfl,?_⟩;refine hK.out _ _ ⟨((HB.out.cell (World.block_lt_of_cell? w _ hw232_0)).trans hw232_0),((HB.out.cell (World.block_lt_of_cell? w _ hw232_1)).trans hw232_1),((HB.out.cell (World.block_lt_of_cell? w _ hw234_0)).trans hw234_0),((HB.out.cell (World.block_lt_of_cell? w _ hw234_1)).trans hw234_1)⟩ (fun hHeld=>?_);clear hK K;refine no_ (some 18) ?_
         refine pu_ 6 (some 19) (aT HT_) ?_
         refine pu_ 7 (some 20) (aT HT_) ?_
         refine pu_ 8 (some 21) (aT HT_) ?_
         refine pu_ 9 (some 22) (aT HT_) ?_
         refine pu_ 10 (some 23) (aT HT_) ?_
         refine pu_ 11 (some 24) (aT HT_) ?_
         refine ta4_ 12 (some 25) (tT HT_ HW_) hHeld ?_
         refine on_ 13 (some 26) (oT HT_) ?_;intro K hK
         refine gD Try.func67 (spec_l6In.calls A7.out) ?_
         rintro e w' ⟨rfl,⟨nd,rfl⟩⟩;refine ⟨_,rfl,?_⟩;refine hK.out _ _ ⟨((HB.out.cell (World.block_lt_of_cell? w _ hw232_0)).trans hw232_0),((HB.out.cell (World.block_lt_of_cell? w _ hw232_1)).trans hw232_1),((HB.out.cell (World.block_lt_of_cell? w _ hw234_0)).trans hw234_0),((HB.out.cell (World.block_lt_of_cell? w _ hw234_1)).trans hw234_1)⟩ (fun hHeld=>?_);clear hK K;refine no_ (some 26) ?_
         refine pu_ 14 (some 27) (aT HT_) ?_
         refine pu_ 15 (some 28) (aT HT_) ?_
         refine pu_ 16 (some 29) (aT HT_) ?_
         refine pu_ 17 (some 30) (aT HT_) ?_
         refine pu_ 18 (some 31) (aT HT_) ?_
         refine pu_ 19 (some 32) (aT HT_) ?_
         refine pd_ 20 (some 33) (aT HT_) ?_
         refine pd_ 21 (some 34) (aT HT_) ?_
         refine pd_ 22 (some 35) (aT HT_) ?_
         refine pd_ 23 (some 36) (aT HT_) ?_
         refine pd_ 24 (some 37) (aT HT_) ?_
         refine pd_ 25 (some 38) (aT HT_) ?_
         refine pd_ 26 (some 39) (aT HT_) ?_
         refine pd_ 27 (some 40) (aT HT_) ?_
         refine pd_ 28 (some 41) (aT HT_) ?_
         refine pd_ 29 (some 42) (aT HT_) ?_
         refine pd_ 30 (some 43) (aT HT_) ?_
         refine pd_ 31 (some 44) (aT HT_) ?_
         refine pu_ 32 (some 45) (aT HT_) ?_
         refine pu_ 33 (some 46) (aT HT_) ?_
         refine done_ (done_of HT_.out aK) ?_
         try go_wp2
         go_roundg k1
         case measure=>have:=HK1.out;omega
         case rel=>exact ⟨(wrap64 (x3_1+1)),bZ,H',⟨by have:=HK1.out;omega⟩,⟨pB HB.out⟩⟩
       ·replace c8:=Bool.eq_false_iff.mpr c8;subst c8
        rw [if_neg nFT] at H
        obtain rfl:=Option.some.inj H
        try go_wp2
        replace HB:=mA (below_drew1 HB.out);have p232:0≤(x3_1:Int):=of_decide_eq_true bA;have q232:x3_1<(l0.length:Int):=of_decide_eq_true bA;obtain ⟨ad232,e232,hx232_0,hx232_1⟩:=at_T140 HR0.out x3_1 p232 q232;have hw232_1:=hx232_1;have hw232_0:=hx232_0;cases e232;replace hx232_0:=hC HB hx232_0;replace hx232_1:=hC HB hx232_1;replace p232:=eq_true p232;replace q232:=eq_true q232;have p234:0≤(x3_1:Int):=of_decide_eq_true bA;have q234:x3_1<(l0.length:Int):=of_decide_eq_true bA;obtain ⟨ad234,e234,hx234_0,hx234_1⟩:=at_T140 HR0.out x3_1 p234 q234;have hw234_1:=hx234_1;have hw234_0:=hx234_0
        obtain rfl:ad232=ad234:=(by injection e234)
        replace hx234_0:=hC HB hx234_0;replace hx234_1:=hC HB hx234_1;replace p234:=eq_true p234;replace q234:=eq_true q234
        refine start_ (n:=34) (S:=fun w'=>w'.cell? (ad232.add ((x3_1).toNat * 2))=some (.int .i64 ((rd_T140 l0 x3_1).f0))∧w'.cell? ⟨(ad232.add ((x3_1).toNat * 2)).block,(ad232.add ((x3_1).toNat * 2)).off+1,none⟩=some (.int .i64 ((rd_T140 l0 x3_1).f1))∧w'.cell? (ad232.add ((x3_1).toNat * 2))=some (.int .i64 ((rd_T140 l0 x3_1).f0))∧w'.cell? ⟨(ad232.add ((x3_1).toNat * 2)).block,(ad232.add ((x3_1).toNat * 2)).off+1,none⟩=some (.int .i64 ((rd_T140 l0 x3_1).f1))) (ds:=[]) _ aK rfl rfl ⟨((HB.out.cell (World.block_lt_of_cell? w _ hw232_0)).trans hw232_0),((HB.out.cell (World.block_lt_of_cell? w _ hw232_1)).trans hw232_1),((HB.out.cell (World.block_lt_of_cell? w _ hw234_0)).trans hw234_0),((HB.out.cell (World.block_lt_of_cell? w _ hw234_1)).trans hw234_1)⟩ (fun hHeld=>?_);refine with_tabW spec_l3LastOk.tab6 spec_l3LastOk.bits6 (fun HT_ HW_=>?_)
        generalize wr.drew=w17 at HB hx232_0 hx232_1 hx234_0 hx234_1 hHeld ⊢
        refine pu_ 0 (some 13) (aT HT_) ?_
        refine pu_ 1 (some 14) (aT HT_) ?_
        refine pu_ 2 (some 15) (aT HT_) ?_
        refine pu_ 3 (some 16) (aT HT_) ?_
        refine ta4_ 4 (some 17) (tT HT_ HW_) hHeld ?_
        refine on_ 5 (some 18) (oT HT_) ?_;intro K hK
        refine gD Try.func67 (spec_l6In.calls A5.out) ?_
        rintro e w' ⟨rfl,⟨nd,rfl⟩⟩;refine ⟨_,rfl,?_⟩;refine hK.out _ _ ⟨((HB.out.cell (World.block_lt_of_cell? w _ hw232_0)).trans hw232_0),((HB.out.cell (World.block_lt_of_cell? w _ hw232_1)).trans hw232_1),((HB.out.cell (World.block_lt_of_cell? w _ hw234_0)).trans hw234_0),((HB.out.cell (World.block_lt_of_cell? w _ hw234_1)).trans hw234_1)⟩ (fun hHeld=>?_);clear hK K;refine no_ (some 18) ?_
        refine pu_ 6 (some 19) (aT HT_) ?_
        refine pu_ 7 (some 20) (aT HT_) ?_
        refine pu_ 8 (some 21) (aT HT_) ?_
        refine pu_ 9 (some 22) (aT HT_) ?_
        refine pu_ 10 (some 23) (aT HT_) ?_
        refine pu_ 11 (some 24) (aT HT_) ?_
        refine ta4_ 12 (some 25) (tT HT_ HW_) hHeld ?_
        refine on_ 13 (some 26) (oT HT_) ?_;intro K hK
        refine gD Try.func67 (spec_l6In.calls A7.out) ?_
        rintro e w' ⟨rfl,⟨nd,rfl⟩⟩;refine ⟨_,rfl,?_⟩;refine hK.out _ _ ⟨((HB.out.cell (World.block_lt_of_cell? w _ hw232_0)).trans hw232_0),((HB.out.cell (World.block_lt_of_cell? w _ hw232_1)).trans hw232_1),((HB.out.cell (World.block_lt_of_cell? w _ hw234_0)).trans hw234_0),((HB.out.cell (World.block_lt_of_cell? w _ hw234_1)).trans hw234_1)⟩ (fun hHeld=>?_);clear hK K;refine no_ (some 26) ?_
        refine pu_ 14 (some 27) (aT HT_) ?_
        refine pu_ 15 (some 28) (aT HT_) ?_
        refine pu_ 16 (some 29) (aT HT_) ?_
        refine pd_ 17 (some 30) (aT HT_) ?_
        refine pd_ 18 (some 31) (aT HT_) ?_
        refine pd_ 19 (some 32) (aT HT_) ?_
        refine pd_ 20 (some 33) (aT HT_) ?_
        refine pd_ 21 (some 34) (aT HT_) ?_
        refine pd_ 22 (some 35) (aT HT_) ?_
        refine pd_ 23 (some 36) (aT HT_) ?_
        refine pd_ 24 (some 37) (aT HT_) ?_
        refine pd_ 25 (some 38) (aT HT_) ?_
        refine pd_ 26 (some 39) (aT HT_) ?_
        refine pd_ 27 (some 40) (aT HT_) ?_
        refine pd_ 28 (some 41) (aT HT_) ?_
        refine pd_ 29 (some 42) (aT HT_) ?_
        refine pd_ 30 (some 43) (aT HT_) ?_
        refine pd_ 31 (some 44) (aT HT_) ?_
        refine pd_ 32 (some 45) (aT HT_) ?_
        refine pu_ 33 (some 46) (aT HT_) ?_
        refine done_ (done_of HT_.out aK) ?_
        try go_wp2
        go_ret
        exact rZ (pB HB.out)
      ·replace c6:=Bool.eq_false_iff.mpr c6;subst c6
       rw [if_neg nFT] at H
       obtain rfl:=Option.some.inj H
       try go_wp2
       replace HB:=mA (below_drew1 HB.out);have p232:0≤(x3_1:Int):=of_decide_eq_true bA;have q232:x3_1<(l0.length:Int):=of_decide_eq_true bA;obtain ⟨ad232,e232,hx232_0,hx232_1⟩:=at_T140 HR0.out x3_1 p232 q232;have hw232_1:=hx232_1;have hw232_0:=hx232_0;cases e232;replace hx232_0:=hC HB hx232_0;replace hx232_1:=hC HB hx232_1;replace p232:=eq_true p232;replace q232:=eq_true q232
       refine start_ (n:=34) (S:=fun w'=>w'.cell? (ad232.add ((x3_1).toNat * 2))=some (.int .i64 ((rd_T140 l0 x3_1).f0))∧w'.cell? ⟨(ad232.add ((x3_1).toNat * 2)).block,(ad232.add ((x3_1).toNat * 2)).off+1,none⟩=some (.int .i64 ((rd_T140 l0 x3_1).f1))) (ds:=[]) _ aK rfl rfl ⟨((HB.out.cell (World.block_lt_of_cell? w _ hw232_0)).trans hw232_0),((HB.out.cell (World.block_lt_of_cell? w _ hw232_1)).trans hw232_1)⟩ (fun hHeld=>?_);refine with_tabW spec_l3LastOk.tab6 spec_l3LastOk.bits6 (fun HT_ HW_=>?_)
       generalize wr.drew=w18 at HB hx232_0 hx232_1 hHeld ⊢
       refine pu_ 0 (some 13) (aT HT_) ?_
       refine pu_ 1 (some 14) (aT HT_) ?_
       refine pu_ 2 (some 15) (aT HT_) ?_
       refine pu_ 3 (some 16) (aT HT_) ?_
       refine ta2_ 4 (some 17) (tT HT_ HW_) hHeld ?_
       refine on_ 5 (some 18) (oT HT_) ?_;intro K hK
       refine gD Try.func67 (spec_l6In.calls A5.out) ?_
       rintro e w' ⟨rfl,⟨nd,rfl⟩⟩;refine ⟨_,rfl,?_⟩;refine hK.out _ _ ⟨((HB.out.cell (World.block_lt_of_cell? w _ hw232_0)).trans hw232_0),((HB.out.cell (World.block_lt_of_cell? w _ hw232_1)).trans hw232_1)⟩ (fun hHeld=>?_);clear hK K;refine no_ (some 18) ?_
       refine pu_ 6 (some 19) (aT HT_) ?_
       refine pu_ 7 (some 20) (aT HT_) ?_
       refine pd_ 8 (some 21) (aT HT_) ?_
       refine pd_ 9 (some 22) (aT HT_) ?_
       refine pd_ 10 (some 23) (aT HT_) ?_
       refine pd_ 11 (some 24) (aT HT_) ?_
       refine pd_ 12 (some 25) (aT HT_) ?_
       refine pd_ 13 (some 26) (aT HT_) ?_
       refine pd_ 14 (some 27) (aT HT_) ?_
       refine pu_ 15 (some 28) (aT HT_) ?_
       refine pu_ 16 (some 29) (aT HT_) ?_
       refine pd_ 17 (some 30) (aT HT_) ?_
       refine pd_ 18 (some 31) (aT HT_) ?_
       refine pd_ 19 (some 32) (aT HT_) ?_
       refine pd_ 20 (some 33) (aT HT_) ?_
       refine pd_ 21 (some 34) (aT HT_) ?_
       refine pd_ 22 (some 35) (aT HT_) ?_
       refine pd_ 23 (some 36) (aT HT_) ?_
       refine pd_ 24 (some 37) (aT HT_) ?_
       refine pd_ 25 (some 38) (aT HT_) ?_
       refine pd_ 26 (some 39) (aT HT_) ?_
       refine pd_ 27 (some 40) (aT HT_) ?_
       refine pd_ 28 (some 41) (aT HT_) ?_
       refine pd_ 29 (some 42) (aT HT_) ?_
       refine pd_ 30 (some 43) (aT HT_) ?_
       refine pd_ 31 (some 44) (aT HT_) ?_
       refine pd_ 32 (some 45) (aT HT_) ?_
       refine pu_ 33 (some 46) (aT HT_) ?_
       refine done_ (done_of HT_.out aK) ?_
       try go_wp2
       go_ret
       exact rZ (pB HB.out)
     ·rw [if_neg c4] at H
      exact absurd H (by simp)
    ·rw [if_neg c3] at H;have c3b0:decide (x3_1<(l0.length:Int))=false:=decide_eq_false c3;clear c3;obtain rfl:=Option.some.inj H
     go_wp2
     go_ret
     exact rZ (pB HB.out)

/-! ### spec_l11Nums: function 65 -/
def spec_l11Nums.f (a0_0 : Int) (a0_1 : Int) (a0_2 : Int) (a0_3 : Int) (a0_4 : Int) (a0_5 : Int) (a0_6 : Int) (a0_7 : Int) (a0_8 : Int) (a0_9 : Int) (a0_10 : Int) (a0_11 : Int) (a0_12 : Int) (a0_13 : Int) (a0_14 : Int) (a0_15 : Int) (a0_16 : Int) (a0_17 : Int) (a0_18 : Int) (a0_19 : Int) (a0_20 : Int) (a0_21 : Int) (a0_22 : Int) (a0_23 : Int) (l0_24 : List (S138)) (l0_25 : List (S140)) : Option (List Int) := some (([a0_0, a0_1, a0_2, a0_3, a0_4, a0_5, a0_6, a0_7, a0_8, a0_9, a0_10, a0_11, a0_12, a0_13, a0_14, a0_15, a0_16, a0_17, a0_18, a0_19, a0_20, a0_21, a0_22, a0_23] : List Int))
set_option maxHeartbeats 8000000 in
set_option maxRecDepth 100000 in
theorem spec_l11Nums.calls {a0_0 : Int} {a0_1 : Int} {a0_2 : Int} {a0_3 : Int} {a0_4 : Int} {a0_5 : Int} {a0_6 : Int} {a0_7 : Int} {a0_8 : Int} {a0_9 : Int} {a0_10 : Int} {a0_11 : Int} {a0_12 : Int} {a0_13 : Int} {a0_14 : Int} {a0_15 : Int} {a0_16 : Int} {a0_17 : Int} {a0_18 : Int} {a0_19 : Int} {a0_20 : Int} {a0_21 : Int} {a0_22 : Int} {a0_23 : Int} {A0_24 : Option Addr} {c0_24 : Nat} {l0_24 : List (S138)} {A0_25 : Option Addr} {c0_25 : Nat} {l0_25 : List (S140)} {r : List Int} {w : World} (hr0_24 : Kd.C k138 w A0_24 l0_24.length l0_24) (hc0_24 : l0_24.length ≤ c0_24) (hr0_25 : Kd.C k140 w A0_25 l0_25.length l0_25) (hc0_25 : l0_25.length ≤ c0_25) (h : spec_l11Nums.f a0_0 a0_1 a0_2 a0_3 a0_4 a0_5 a0_6 a0_7 a0_8 a0_9 a0_10 a0_11 a0_12 a0_13 a0_14 a0_15 a0_16 a0_17 a0_18 a0_19 a0_20 a0_21 a0_22 a0_23 l0_24 l0_25 = some r) :
  Calls Try.prog 65 #[.agg #[.int .i64 a0_0,.int .i64 a0_1,.int .i64 a0_2,.int .i64 a0_3,.int .i64 a0_4,.int .i64 a0_5,.int .i64 a0_6,.int .i64 a0_7,.int .i64 a0_8,.int .i64 a0_9,.int .i64 a0_10,.int .i64 a0_11,.int .i64 a0_12,.int .i64 a0_13,.int .i64 a0_14,.int .i64 a0_15,.int .i64 a0_16,.int .i64 a0_17,.int .i64 a0_18,.int .i64 a0_19,.int .i64 a0_20,.int .i64 a0_21,.int .i64 a0_22,.int .i64 a0_23,.slice A0_24 l0_24.length c0_24,.slice A0_25 l0_25.length c0_25]] w fun e w'=>∃ v0_:Value,e=.returned (v0_)∧Kd.R (Kd.int .i64) 3 w' w.heap.size (fun _=>True) v0_ r∧Below w.heap.size w w':=by
 have hu28:=Try.underlying28;have hu24:=Try.underlying24;have HR0_24:=mA hr0_24;have HC0_24:=mA hc0_24;clear hr0_24 hc0_24;have HR0_25:=mA hr0_25;have HC0_25:=mA hc0_25;clear hr0_25 hc0_25;have HB:=mA (Below.refl w.heap.size w);have H:(some (([a0_0,a0_1,a0_2,a0_3,a0_4,a0_5,a0_6,a0_7,a0_8,a0_9,a0_10,a0_11,a0_12,a0_13,a0_14,a0_15,a0_16,a0_17,a0_18,a0_19,a0_20,a0_21,a0_22,a0_23]:List Int)))=some r:=h;clear h;obtain ⟨y396,hy396⟩:∃ y_:List Int,y_=(([a0_0,a0_1,a0_2,a0_3,a0_4,a0_5,a0_6,a0_7,a0_8,a0_9,a0_10,a0_11,a0_12,a0_13,a0_14,a0_15,a0_16,a0_17,a0_18,a0_19,a0_20,a0_21,a0_22,a0_23]:List Int)):=⟨_,rfl⟩
 replace H:(some y396)=some r:=qH hy396 H
 have Ny396:=mA hy396;clear hy396;obtain rfl:=Option.some.inj H
 go_enter Try.func65,Try.ntmps65
 go_wp2_with (first|((with_reducible refine gLg rfl (by assumption) ?_);refine ldV ?_)|((with_reducible refine gSt rfl (by assumption) ?_);refine stV ?_)|((with_reducible refine gT 1 rfl ?_);refine bE 1 #[.int .i64 a0_0,.int .i64 a0_1,.int .i64 a0_2,.int .i64 a0_3,.int .i64 a0_4,.int .i64 a0_5,.int .i64 a0_6,.int .i64 a0_7,.int .i64 a0_8,.int .i64 a0_9,.int .i64 a0_10,.int .i64 a0_11,.int .i64 a0_12,.int .i64 a0_13,.int .i64 a0_14,.int .i64 a0_15,.int .i64 a0_16,.int .i64 a0_17,.int .i64 a0_18,.int .i64 a0_19,.int .i64 a0_20,.int .i64 a0_21,.int .i64 a0_22,.int .i64 a0_23,.slice A0_24 l0_24.length c0_24,.slice A0_25 l0_25.length c0_25] 28 ?_;intro gb394 hg w2 hbox hb;have BK394:=mA hbox;have GW394:=gbpB HB hg;have GE394:=gbpB HB hg;replace HB:=spB HB hb;clear hb hbox hg;have hcz3_0:=fun i_=>blk_cell BK394.out i_;have hfz3_0:=fun i_=>blk_frozen BK394.out i_)|((with_reducible refine gT 3 rfl ?_);refine bE 3 #[.int .i64 0,.int .i64 0,.int .i64 0,.int .i64 0,.int .i64 0,.int .i64 0,.int .i64 0,.int .i64 0,.int .i64 0,.int .i64 0] 24 ?_;intro gb395 hg w4 hbox hb;have BK395:=mA hbox;have GW395:=gbpS HB hg;have GE395:=gbpS HB hg;replace HB:=spS HB hb;have NB394_395:=mA (lN (blk_lt (pK BK394.out)) hg);have NB395_394:=nS NB394_395;replace BK394:=bK BK394 hb;clear hb hbox hg;have hnb5:=NB395_394.out;have hnc5:=NB394_395.out;have hcz6_0:=fun i_=>blk_cell BK395.out i_;have hfz6_0:=fun i_=>blk_frozen BK395.out i_;have hcz7_0:=fun i_=>blk_cell BK394.out i_;have hfz7_0:=fun i_=>blk_frozen BK394.out i_)|((with_reducible refine gT 54 rfl ?_);refine Kd.R_lit (Kd.int .i64) _ 3 ?hg (N:=54) ?hd (xs:=([a0_0,a0_1,a0_2,a0_3,a0_4,a0_5,a0_6,a0_7,a0_8,a0_9,a0_10,a0_11,a0_12,a0_13,a0_14,a0_15,a0_16,a0_17,a0_18,a0_19,a0_20,a0_21,a0_22,a0_23]:List Int)) (inner:=[.int .i64 a0_0,.int .i64 a0_1,.int .i64 a0_2,.int .i64 a0_3,.int .i64 a0_4,.int .i64 a0_5,.int .i64 a0_6,.int .i64 a0_7,.int .i64 a0_8,.int .i64 a0_9,.int .i64 a0_10,.int .i64 a0_11,.int .i64 a0_12,.int .i64 a0_13,.int .i64 a0_14,.int .i64 a0_15,.int .i64 a0_16,.int .i64 a0_17,.int .i64 a0_18,.int .i64 a0_19,.int .i64 a0_20,.int .i64 a0_21,.int .i64 a0_22,.int .i64 a0_23]) (ok:=fun _=>True) (okp:=fun _=>True) ?hr ?hp (fun _ hk=>hk) trivial (Below.refl _ _) (Nat.le_refl _) (by simp) ?_;(case hd=>rfl);(case hg=>rfl);(case hr=>first|(go_simp;done)|(go_simp;rfl));(case hp=>exact (Reps.one (show Kd.M (Kd.int .i64) _ _ _ a0_0 [.int .i64 a0_0] from rfl) (Reps.one (show Kd.M (Kd.int .i64) _ _ _ a0_1 [.int .i64 a0_1] from rfl) (Reps.one (show Kd.M (Kd.int .i64) _ _ _ a0_2 [.int .i64 a0_2] from rfl) (Reps.one (show Kd.M (Kd.int .i64) _ _ _ a0_3 [.int .i64 a0_3] from rfl) (Reps.one (show Kd.M (Kd.int .i64) _ _ _ a0_4 [.int .i64 a0_4] from rfl) (Reps.one (show Kd.M (Kd.int .i64) _ _ _ a0_5 [.int .i64 a0_5] from rfl) (Reps.one (show Kd.M (Kd.int .i64) _ _ _ a0_6 [.int .i64 a0_6] from rfl) (Reps.one (show Kd.M (Kd.int .i64) _ _ _ a0_7 [.int .i64 a0_7] from rfl) (Reps.one (show Kd.M (Kd.int .i64) _ _ _ a0_8 [.int .i64 a0_8] from rfl) (Reps.one (show Kd.M (Kd.int .i64) _ _ _ a0_9 [.int .i64 a0_9] from rfl) (Reps.one (show Kd.M (Kd.int .i64) _ _ _ a0_10 [.int .i64 a0_10] from rfl) (Reps.one (show Kd.M (Kd.int .i64) _ _ _ a0_11 [.int .i64 a0_11] from rfl) (Reps.one (show Kd.M (Kd.int .i64) _ _ _ a0_12 [.int .i64 a0_12] from rfl) (Reps.one (show Kd.M (Kd.int .i64) _ _ _ a0_13 [.int .i64 a0_13] from rfl) (Reps.one (show Kd.M (Kd.int .i64) _ _ _ a0_14 [.int .i64 a0_14] from rfl) (Reps.one (show Kd.M (Kd.int .i64) _ _ _ a0_15 [.int .i64 a0_15] from rfl) (Reps.one (show Kd.M (Kd.int .i64) _ _ _ a0_16 [.int .i64 a0_16] from rfl) (Reps.one (show Kd.M (Kd.int .i64) _ _ _ a0_17 [.int .i64 a0_17] from rfl) (Reps.one (show Kd.M (Kd.int .i64) _ _ _ a0_18 [.int .i64 a0_18] from rfl) (Reps.one (show Kd.M (Kd.int .i64) _ _ _ a0_19 [.int .i64 a0_19] from rfl) (Reps.one (show Kd.M (Kd.int .i64) _ _ _ a0_20 [.int .i64 a0_20] from rfl) (Reps.one (show Kd.M (Kd.int .i64) _ _ _ a0_21 [.int .i64 a0_21] from rfl) (Reps.one (show Kd.M (Kd.int .i64) _ _ _ a0_22 [.int .i64 a0_22] from rfl) (Reps.one (show Kd.M (Kd.int .i64) _ _ _ a0_23 [.int .i64 a0_23] from rfl) (Reps.none _ _))))))))))))))))))))))))));intro v397 w8 ho9 hb hg_ hnew_;clear hg_ hnew_;(first|rw [← Ny396.out] at ho9|(simp only [Int.reduceToNat] at ho9;rw [← Ny396.out] at ho9));have HO398:=mA (Kd.R_lower ho9 (bpS HB));replace BK394:=mA (blk_below (g:=gb394) (o:=.cells #[.int .i64 a0_0,.int .i64 a0_1,.int .i64 a0_2,.int .i64 a0_3,.int .i64 a0_4,.int .i64 a0_5,.int .i64 a0_6,.int .i64 a0_7,.int .i64 a0_8,.int .i64 a0_9,.int .i64 a0_10,.int .i64 a0_11,.int .i64 a0_12,.int .i64 a0_13,.int .i64 a0_14,.int .i64 a0_15,.int .i64 a0_16,.int .i64 a0_17,.int .i64 a0_18,.int .i64 a0_19,.int .i64 a0_20,.int .i64 a0_21,.int .i64 a0_22,.int .i64 a0_23,.slice A0_24 l0_24.length c0_24,.slice A0_25 l0_25.length c0_25] 28 (0,0)) (pF BK394.out) hb);replace BK395:=mA (blk_below (g:=gb395) (o:=.cells #[.int .i64 a0_6,.int .i64 a0_7,.int .i64 a0_8,.int .i64 a0_9,.int .i64 a0_10,.int .i64 a0_11,.int .i64 a0_12,.int .i64 a0_13,.int .i64 a0_14,.int .i64 a0_15] 24 (0,0)) (pP BK395) hb);replace HB:=spS HB hb;clear hb ho9))
 go_ret
 exact ⟨_,by first|rfl|(simp [errW_none,errW_some]<;>rfl)|(simp [*,errW_none,errW_some]<;>rfl),pR HO398.out,pS HB.out⟩

/-! ### spec_l11Place: function 68 -/
def spec_l11Place.f (a0 : Int) : Option (Bool) := (spec_l6In.f a0 0 4).bind fun t400 => (if t400 = true then (some true) else ((spec_l6In.f a0 100 103).bind fun t401 => (some t401)))
set_option maxHeartbeats 8000000 in
set_option maxRecDepth 100000 in
theorem spec_l11Place.calls {a0 : Int} {r : Bool} {w : World} (h : spec_l11Place.f a0 = some r) :
  Calls Try.prog 68 #[.int .i64 a0] w fun e w'=>e=.returned (.bool r)∧Drawn0 w w':=by
 have H:((spec_l6In.f a0 0 4).bind fun t400=>(if t400=true then (some true) else ((spec_l6In.f a0 100 103).bind fun t401=>(some t401))))=some r:=h;clear h;obtain ⟨t400,A2,H⟩:=bI H;(try dsimp only at H)
 by_cases c3:t400=true
 ·subst c3;rw [if_pos rfl] at H;obtain rfl:=Option.some.inj H
  go_enter Try.func68,Try.ntmps68
  go_wp2_with (first|((with_reducible refine gT 4 rfl ?_);refine gC (some 4) Try.func67 (spec_l6In.calls A2.out) ?_;rintro e w' ⟨rfl,⟨nd,rfl⟩⟩;refine ⟨_,rfl,?_⟩))
  go_ret
  exact ⟨by first|rfl|(simp;done)|(simp [*];done),by repeat (first|exact Drawn0.refl _|apply Drawn0.step)⟩
 ·replace c3:=Bool.eq_false_iff.mpr c3;subst c3
  rw [if_neg nFT] at H
  obtain ⟨t401,A4,H⟩:=bI H;(try dsimp only at H);obtain rfl:=Option.some.inj H
  go_enter Try.func68,Try.ntmps68
  go_wp2_with (first|((with_reducible refine gT 4 rfl ?_);refine gC (some 4) Try.func67 (spec_l6In.calls A2.out) ?_;rintro e w' ⟨rfl,⟨nd,rfl⟩⟩;refine ⟨_,rfl,?_⟩)|(go_at_call 67;(with_reducible refine (spec_l6In.calls A4.out).mono ?_);rintro e w' ⟨rfl,⟨nd,rfl⟩⟩))
  go_ret
  exact ⟨by first|rfl|(simp;done)|(simp [*];done),by repeat (first|exact Drawn0.refl _|apply Drawn0.step)⟩

/-! ### spec_WordOk: function 17 -/
def spec_WordOk.l0 : Nat → List Int → Int → Int → Int → Int → Int → Int → Int → Int → Int → Int → Int → Int → Int → Int → Int → Int → Int → Int → Int → Int → Int → Int → Int → Int → Int → List (S138) → List (S140) → Option (Bool)
 | 0,_,_,_,_,_,_,_,_,_,_,_,_,_,_,_,_,_,_,_,_,_,_,_,_,_,_,_,_=>none
 | k+1,x3,x4,x414000,x414001,x414002,x414003,x414004,x414005,x414006,x414007,x414008,x414009,x414010,x414011,x414012,x414013,x414014,x414015,x414016,x414017,x414018,x414019,x414020,x414021,x414022,x414023,x414024,x414025=>if x4<(x3.length:Int) then (if 0≤x4 then ((spec_l11Num.f (rd x3 x4)).bind fun t418=>(if t418=true then (spec_WordOk.l0 k x3 (wrap64 (x4+1)) x414000 x414001 x414002 x414003 x414004 x414005 x414006 x414007 x414008 x414009 x414010 x414011 x414012 x414013 x414014 x414015 x414016 x414017 x414018 x414019 x414020 x414021 x414022 x414023 x414024 x414025) else (some false))) else (none)) else ((spec_l6In.f x414000 1 15).bind fun t419=>(if t419=true then ((spec_l11Place.f x414001).bind fun t420=>(if t420=true then ((spec_l11Place.f x414002).bind fun t421=>(if t421=true then ((spec_l11CmdOk.f x414006 x414007 x414008 x414009 x414010 x414011 x414012 x414013 x414014 x414015).bind fun t422=>(if t422=true then ((spec_BlkOk.f k x414024).bind fun t423=>(if t423=true then ((spec_l3LastOk.f k x414025).bind fun t424=>(some t424)) else (some false))) else (some false))) else (some false))) else (some false))) else (some false)))
def spec_WordOk.f (k : Nat) (a0_0 : Int) (a0_1 : Int) (a0_2 : Int) (a0_3 : Int) (a0_4 : Int) (a0_5 : Int) (a0_6 : Int) (a0_7 : Int) (a0_8 : Int) (a0_9 : Int) (a0_10 : Int) (a0_11 : Int) (a0_12 : Int) (a0_13 : Int) (a0_14 : Int) (a0_15 : Int) (a0_16 : Int) (a0_17 : Int) (a0_18 : Int) (a0_19 : Int) (a0_20 : Int) (a0_21 : Int) (a0_22 : Int) (a0_23 : Int) (l0_24 : List (S138)) (l0_25 : List (S140)) : Option (Bool) := (spec_l11Nums.f a0_0 a0_1 a0_2 a0_3 a0_4 a0_5 a0_6 a0_7 a0_8 a0_9 a0_10 a0_11 a0_12 a0_13 a0_14 a0_15 a0_16 a0_17 a0_18 a0_19 a0_20 a0_21 a0_22 a0_23 l0_24 l0_25).bind fun t414 => (spec_WordOk.l0 k t414 0 a0_0 a0_1 a0_2 a0_3 a0_4 a0_5 a0_6 a0_7 a0_8 a0_9 a0_10 a0_11 a0_12 a0_13 a0_14 a0_15 a0_16 a0_17 a0_18 a0_19 a0_20 a0_21 a0_22 a0_23 l0_24 l0_25)
theorem spec_WordOk.mono_l : ∀ k, (∀ y0 y1 y2 y3 y4 y5 y6 y7 y8 y9 y10 y11 y12 y13 y14 y15 y16 y17 y18 y19 y20 y21 y22 y23 y24 y25 y26 y27, LeO (spec_WordOk.l0 k y0 y1 y2 y3 y4 y5 y6 y7 y8 y9 y10 y11 y12 y13 y14 y15 y16 y17 y18 y19 y20 y21 y22 y23 y24 y25 y26 y27) (spec_WordOk.l0 (k + 1) y0 y1 y2 y3 y4 y5 y6 y7 y8 y9 y10 y11 y12 y13 y14 y15 y16 y17 y18 y19 y20 y21 y22 y23 y24 y25 y26 y27))
 | 0=>fun _ _ _ _ _ _ _ _ _ _ _ _ _ _ _ _ _ _ _ _ _ _ _ _ _ _ _ _ r h=>by simp [spec_WordOk.l0] at h
 | k+1=>by
  have ih0:=spec_WordOk.mono_l k
  ·intros
   unfold spec_WordOk.l0
   repeat' first
   | (with_reducible first|apply ih0|apply spec_BlkOk.mono|apply spec_l3LastOk.mono|exact LeO.refl _|exact LeO.none _|refine LeO.ite ?_ ?_|refine LeO.bind ?_ (fun _=>?_))|exact LeO.none _|refine LeO.ite ?_ ?_|refine LeO.bind ?_ (fun _=>?_)
theorem spec_WordOk.mono : ∀ a0 a1 a2 a3 a4 a5 a6 a7 a8 a9 a10 a11 a12 a13 a14 a15 a16 a17 a18 a19 a20 a21 a22 a23 a24 a25 k, LeO (spec_WordOk.f k a0 a1 a2 a3 a4 a5 a6 a7 a8 a9 a10 a11 a12 a13 a14 a15 a16 a17 a18 a19 a20 a21 a22 a23 a24 a25) (spec_WordOk.f (k + 1) a0 a1 a2 a3 a4 a5 a6 a7 a8 a9 a10 a11 a12 a13 a14 a15 a16 a17 a18 a19 a20 a21 a22 a23 a24 a25) := by
 intro a0 a1 a2 a3 a4 a5 a6 a7 a8 a9 a10 a11 a12 a13 a14 a15 a16 a17 a18 a19 a20 a21 a22 a23 a24 a25 k;have ih0:=spec_WordOk.mono_l k
 unfold spec_WordOk.f
 repeat' first
   | (with_reducible first|apply ih0|apply spec_BlkOk.mono|apply spec_l3LastOk.mono|exact LeO.refl _|exact LeO.none _|refine LeO.ite ?_ ?_|refine LeO.bind ?_ (fun _=>?_))|exact LeO.none _|refine LeO.ite ?_ ?_|refine LeO.bind ?_ (fun _=>?_)
set_option maxHeartbeats 8000000 in
set_option maxRecDepth 100000 in
theorem spec_WordOk.calls {k : Nat} {a0_0 : Int} {a0_1 : Int} {a0_2 : Int} {a0_3 : Int} {a0_4 : Int} {a0_5 : Int} {a0_6 : Int} {a0_7 : Int} {a0_8 : Int} {a0_9 : Int} {a0_10 : Int} {a0_11 : Int} {a0_12 : Int} {a0_13 : Int} {a0_14 : Int} {a0_15 : Int} {a0_16 : Int} {a0_17 : Int} {a0_18 : Int} {a0_19 : Int} {a0_20 : Int} {a0_21 : Int} {a0_22 : Int} {a0_23 : Int} {A0_24 : Option Addr} {c0_24 : Nat} {l0_24 : List (S138)} {A0_25 : Option Addr} {c0_25 : Nat} {l0_25 : List (S140)} {r : Bool} {w : World} (hr0_24 : Kd.C k138 w A0_24 l0_24.length l0_24) (hc0_24 : l0_24.length ≤ c0_24) (hr0_25 : Kd.C k140 w A0_25 l0_25.length l0_25) (hc0_25 : l0_25.length ≤ c0_25) (h : spec_WordOk.f k a0_0 a0_1 a0_2 a0_3 a0_4 a0_5 a0_6 a0_7 a0_8 a0_9 a0_10 a0_11 a0_12 a0_13 a0_14 a0_15 a0_16 a0_17 a0_18 a0_19 a0_20 a0_21 a0_22 a0_23 l0_24 l0_25 = some r) :
  Calls Try.prog 17 #[.agg #[.int .i64 a0_0,.int .i64 a0_1,.int .i64 a0_2,.int .i64 a0_3,.int .i64 a0_4,.int .i64 a0_5,.int .i64 a0_6,.int .i64 a0_7,.int .i64 a0_8,.int .i64 a0_9,.int .i64 a0_10,.int .i64 a0_11,.int .i64 a0_12,.int .i64 a0_13,.int .i64 a0_14,.int .i64 a0_15,.int .i64 a0_16,.int .i64 a0_17,.int .i64 a0_18,.int .i64 a0_19,.int .i64 a0_20,.int .i64 a0_21,.int .i64 a0_22,.int .i64 a0_23,.slice A0_24 l0_24.length c0_24,.slice A0_25 l0_25.length c0_25]] w fun e w'=>e=.returned (.bool r)∧Below w.heap.size w w':=by
 have hu28:=Try.underlying28;have hu24:=Try.underlying24;have HR0_24:=mA hr0_24;have HC0_24:=mA hc0_24;clear hr0_24 hc0_24;have HR0_25:=mA hr0_25;have HC0_25:=mA hc0_25;clear hr0_25 hc0_25;have HB:=mA (Below.refl w.heap.size w);have H:((spec_l11Nums.f a0_0 a0_1 a0_2 a0_3 a0_4 a0_5 a0_6 a0_7 a0_8 a0_9 a0_10 a0_11 a0_12 a0_13 a0_14 a0_15 a0_16 a0_17 a0_18 a0_19 a0_20 a0_21 a0_22 a0_23 l0_24 l0_25).bind fun t414=>(spec_WordOk.l0 k t414 0 a0_0 a0_1 a0_2 a0_3 a0_4 a0_5 a0_6 a0_7 a0_8 a0_9 a0_10 a0_11 a0_12 a0_13 a0_14 a0_15 a0_16 a0_17 a0_18 a0_19 a0_20 a0_21 a0_22 a0_23 l0_24 l0_25))=some r:=h;clear h;obtain ⟨t414,A2,H⟩:=bI H;(try dsimp only at H);have H':=mA H;clear H
 go_enter Try.func17,Try.ntmps17
 go_wp2_with (first|((with_reducible refine gLg rfl (by assumption) ?_);refine ldV ?_)|((with_reducible refine gSt rfl (by assumption) ?_);refine stV ?_)|((with_reducible refine gT 1 rfl ?_);refine bE 1 #[.int .i64 a0_0,.int .i64 a0_1,.int .i64 a0_2,.int .i64 a0_3,.int .i64 a0_4,.int .i64 a0_5,.int .i64 a0_6,.int .i64 a0_7,.int .i64 a0_8,.int .i64 a0_9,.int .i64 a0_10,.int .i64 a0_11,.int .i64 a0_12,.int .i64 a0_13,.int .i64 a0_14,.int .i64 a0_15,.int .i64 a0_16,.int .i64 a0_17,.int .i64 a0_18,.int .i64 a0_19,.int .i64 a0_20,.int .i64 a0_21,.int .i64 a0_22,.int .i64 a0_23,.slice A0_24 l0_24.length c0_24,.slice A0_25 l0_25.length c0_25] 28 ?_;intro gb413 hg w3 hbox hb;have BK413:=mA hbox;have GW413:=gbpB HB hg;have GE413:=gbpB HB hg;replace HB:=spB HB hb;clear hb hbox hg;have hcz4_0:=fun i_=>blk_cell BK413.out i_;have hfz4_0:=fun i_=>blk_frozen BK413.out i_)|((with_reducible refine gT 6 rfl ?_);refine gC (some 6) Try.func65 (spec_l11Nums.calls (cB HR0_24 HB) HC0_24.out (cB HR0_25 HB) HC0_25.out A2.out) ?_;rintro e w5 ⟨v415,rfl,ho0,hb⟩;refine ⟨_,rfl,?_⟩;have HO416:=mA (Kd.R_lower ho0 (bpS HB));replace BK413:=bK BK413 hb;replace HB:=spS HB hb;(try clear hb);(try clear ho0)))
 go_loopg [4] k (fun kq v4 w'=>∃ (x4_1:Int),v4=.int .i64 x4_1∧Aside0 (spec_WordOk.l0 kq t414 x4_1 a0_0 a0_1 a0_2 a0_3 a0_4 a0_5 a0_6 a0_7 a0_8 a0_9 a0_10 a0_11 a0_12 a0_13 a0_14 a0_15 a0_16 a0_17 a0_18 a0_19 a0_20 a0_21 a0_22 a0_23 l0_24 l0_25=some r)∧Aside0 (kq≤k)∧Aside0 (Kd.R (Kd.int .i64) 3 w' w.heap.size (fun _=>True) v415 t414)∧Aside0 (w'.heap[gb413]?=some (.cells #[.int .i64 a0_0,.int .i64 a0_1,.int .i64 a0_2,.int .i64 a0_3,.int .i64 a0_4,.int .i64 a0_5,.int .i64 a0_6,.int .i64 a0_7,.int .i64 a0_8,.int .i64 a0_9,.int .i64 a0_10,.int .i64 a0_11,.int .i64 a0_12,.int .i64 a0_13,.int .i64 a0_14,.int .i64 a0_15,.int .i64 a0_16,.int .i64 a0_17,.int .i64 a0_18,.int .i64 a0_19,.int .i64 a0_20,.int .i64 a0_21,.int .i64 a0_22,.int .i64 a0_23,(.slice A0_24 l0_24.length c0_24),(.slice A0_25 l0_25.length c0_25)] 28 (0,0)))∧Aside0 (Below w.heap.size w w'))
 case atStart=>exact ⟨(0),bZ,H',⟨Nat.le_refl _⟩,⟨pR HO416.out⟩,⟨pK BK413.out⟩,⟨pS HB.out⟩⟩
 case round =>
  clear H'
  (try clear hcz4_0);(try clear hfz4_0)
  obtain ⟨x4_1,rfl,HA,HK1,HO_3,BK413,HB⟩:=hrel
  cases gk with
  | zero=>exact absurd HA.out (by simp [spec_WordOk.l0])
  | succ k1 =>
   have H:=HA.out;clear HA;simp only [spec_WordOk.l0] at H
   by_cases c6:x4_1<(t414.length:Int)
   ·rw [if_pos c6] at H;have c6b0:decide (x4_1<(t414.length:Int))=true:=decide_eq_true c6;clear c6
    by_cases c7:0≤x4_1
    ·rw [if_pos c7] at H;have c7b0:decide (0≤x4_1)=true:=decide_eq_true c7;clear c7;obtain ⟨t418,A8,H⟩:=bI H;(try dsimp only at H)
     by_cases c9:t418=true
     ·subst c9;rw [if_pos rfl] at H;have H':=mA H;clear H;obtain ⟨Ao10,co10,rfl⟩:=Kd.R_slice HO_3.out;have p417:0≤(x4_1:Int):=of_decide_eq_true bA;have q417:x4_1<(t414.length:Int):=of_decide_eq_true bA;obtain ⟨ad417,e417,hx417_0⟩:=Kd.at_int (Kd.R_reads' HO_3.out).2.2 x4_1 p417 q417;cases e417;replace p417:=eq_true p417;replace q417:=eq_true q417
      go_wp2_with (first|((with_reducible refine gLg rfl (by assumption) ?_);refine ldV ?_)|((with_reducible refine gSt rfl (by assumption) ?_);refine stV ?_)|((with_reducible refine gT 17 rfl ?_);refine gC (some 17) Try.func66 (spec_l11Num.calls A8.out) ?_;rintro e w' ⟨rfl,⟨nd,rfl⟩⟩;refine ⟨_,rfl,?_⟩))
      go_roundg k1
      case measure=>have:=HK1.out;omega
      case rel=>exact ⟨(wrap64 (x4_1+1)),bZ,H',⟨by have:=HK1.out;omega⟩,⟨pR HO_3.out⟩,⟨pK BK413.out⟩,⟨pS HB.out⟩⟩
     ·replace c9:=Bool.eq_false_iff.mpr c9;subst c9
      rw [if_neg nFT] at H
      obtain rfl:=Option.some.inj H;obtain ⟨Ao11,co11,rfl⟩:=Kd.R_slice HO_3.out;have p417:0≤(x4_1:Int):=of_decide_eq_true bA;have q417:x4_1<(t414.length:Int):=of_decide_eq_true bA;obtain ⟨ad417,e417,hx417_0⟩:=Kd.at_int (Kd.R_reads' HO_3.out).2.2 x4_1 p417 q417;cases e417;replace p417:=eq_true p417;replace q417:=eq_true q417
      go_wp2_with (first|((with_reducible refine gLg rfl (by assumption) ?_);refine ldV ?_)|((with_reducible refine gSt rfl (by assumption) ?_);refine stV ?_)|((with_reducible refine gT 17 rfl ?_);refine gC (some 17) Try.func66 (spec_l11Num.calls A8.out) ?_;rintro e w' ⟨rfl,⟨nd,rfl⟩⟩;refine ⟨_,rfl,?_⟩))
      go_ret
      exact rZ (pS HB.out)
    ·rw [if_neg c7] at H
     exact absurd H (by simp)
   ·rw [if_neg c6] at H;have c6b0:decide (x4_1<(t414.length:Int))=false:=decide_eq_false c6;clear c6;obtain ⟨t419,A12,H⟩:=bI H;(try dsimp only at H)
    by_cases c13:t419=true
    ·subst c13;rw [if_pos rfl] at H;obtain ⟨t420,A14,H⟩:=bI H;(try dsimp only at H)
     by_cases c15:t420=true
     ·subst c15;rw [if_pos rfl] at H;obtain ⟨t421,A16,H⟩:=bI H;(try dsimp only at H)
      by_cases c17:t421=true
      ·subst c17;rw [if_pos rfl] at H;obtain ⟨t422,A18,H⟩:=bI H;(try dsimp only at H)
       by_cases c19:t422=true
       ·subst c19;rw [if_pos rfl] at H;obtain ⟨t423,A20,H⟩:=bI H;(try dsimp only at H)
        by_cases c21:t423=true
        ·subst c21;rw [if_pos rfl] at H;obtain ⟨t424,A22,H⟩:=bI H;(try dsimp only at H);obtain rfl:=Option.some.inj H;obtain ⟨Ao23,co23,rfl⟩:=Kd.R_slice HO_3.out;have hcz24_0:=fun i_=>blk_cell BK413.out i_;have hfz24_0:=fun i_=>blk_frozen BK413.out i_
         go_wp2_with (first|((with_reducible refine gLg rfl (by assumption) ?_);refine ldV ?_)|((with_reducible refine gSt rfl (by assumption) ?_);refine stV ?_)|((with_reducible refine gT 21 rfl ?_);refine gC (some 21) Try.func67 (spec_l6In.calls A12.out) ?_;rintro e w' ⟨rfl,⟨nd,rfl⟩⟩;refine ⟨_,rfl,?_⟩)|(go_at_call 68;(with_reducible refine (spec_l11Place.calls A14.out).mono ?_);rintro e w' ⟨rfl,⟨nd,rfl⟩⟩)|(go_at_call 68;(with_reducible refine (spec_l11Place.calls A16.out).mono ?_);rintro e w' ⟨rfl,⟨nd,rfl⟩⟩)|(go_at_call 69;(with_reducible refine (spec_l11CmdOk.calls A18.out).mono ?_);rintro e w25 ⟨rfl,hb⟩;replace HO_3:=rB HO_3 hb;replace BK413:=bK BK413 hb;replace HB:=spS HB hb;(try clear hb);have hcz26_0:=fun i_=>blk_cell BK413.out i_;have hfz26_0:=fun i_=>blk_frozen BK413.out i_)|(go_at_call 70;(with_reducible refine (spec_BlkOk.calls ?s1 ?s2 A20.out).mono ?_);(case s1=>exact cB HR0_24 HB);(case s2=>exact HC0_24.out);rintro e w27 ⟨rfl,hb⟩;replace HO_3:=rB HO_3 hb;replace BK413:=bK BK413 hb;replace HB:=spS HB hb;(try clear hb);have hcz28_0:=fun i_=>blk_cell BK413.out i_;have hfz28_0:=fun i_=>blk_frozen BK413.out i_)|(go_at_call 71;(with_reducible refine (spec_l3LastOk.calls ?s1 ?s2 A22.out).mono ?_);(case s1=>exact cB HR0_25 HB);(case s2=>exact HC0_25.out);rintro e w29 ⟨rfl,hb⟩;replace HO_3:=rB HO_3 hb;replace BK413:=bK BK413 hb;replace HB:=spS HB hb;(try clear hb)))
         go_ret
         exact rZ (pS HB.out)
        ·replace c21:=Bool.eq_false_iff.mpr c21;subst c21
         rw [if_neg nFT] at H
         obtain rfl:=Option.some.inj H;obtain ⟨Ao30,co30,rfl⟩:=Kd.R_slice HO_3.out;have hcz31_0:=fun i_=>blk_cell BK413.out i_;have hfz31_0:=fun i_=>blk_frozen BK413.out i_
         go_wp2_with (first|((with_reducible refine gLg rfl (by assumption) ?_);refine ldV ?_)|((with_reducible refine gSt rfl (by assumption) ?_);refine stV ?_)|((with_reducible refine gT 21 rfl ?_);refine gC (some 21) Try.func67 (spec_l6In.calls A12.out) ?_;rintro e w' ⟨rfl,⟨nd,rfl⟩⟩;refine ⟨_,rfl,?_⟩)|(go_at_call 68;(with_reducible refine (spec_l11Place.calls A14.out).mono ?_);rintro e w' ⟨rfl,⟨nd,rfl⟩⟩)|(go_at_call 68;(with_reducible refine (spec_l11Place.calls A16.out).mono ?_);rintro e w' ⟨rfl,⟨nd,rfl⟩⟩)|(go_at_call 69;(with_reducible refine (spec_l11CmdOk.calls A18.out).mono ?_);rintro e w32 ⟨rfl,hb⟩;replace HO_3:=rB HO_3 hb;replace BK413:=bK BK413 hb;replace HB:=spS HB hb;(try clear hb);have hcz33_0:=fun i_=>blk_cell BK413.out i_;have hfz33_0:=fun i_=>blk_frozen BK413.out i_)|(go_at_call 70;(with_reducible refine (spec_BlkOk.calls ?s1 ?s2 A20.out).mono ?_);(case s1=>exact cB HR0_24 HB);(case s2=>exact HC0_24.out);rintro e w34 ⟨rfl,hb⟩;replace HO_3:=rB HO_3 hb;replace BK413:=bK BK413 hb;replace HB:=spS HB hb;(try clear hb)))
         go_ret
         exact rZ (pS HB.out)
       ·replace c19:=Bool.eq_false_iff.mpr c19;subst c19
        rw [if_neg nFT] at H
        obtain rfl:=Option.some.inj H;obtain ⟨Ao35,co35,rfl⟩:=Kd.R_slice HO_3.out;have hcz36_0:=fun i_=>blk_cell BK413.out i_;have hfz36_0:=fun i_=>blk_frozen BK413.out i_
        go_wp2_with (first|((with_reducible refine gLg rfl (by assumption) ?_);refine ldV ?_)|((with_reducible refine gSt rfl (by assumption) ?_);refine stV ?_)|((with_reducible refine gT 21 rfl ?_);refine gC (some 21) Try.func67 (spec_l6In.calls A12.out) ?_;rintro e w' ⟨rfl,⟨nd,rfl⟩⟩;refine ⟨_,rfl,?_⟩)|(go_at_call 68;(with_reducible refine (spec_l11Place.calls A14.out).mono ?_);rintro e w' ⟨rfl,⟨nd,rfl⟩⟩)|(go_at_call 68;(with_reducible refine (spec_l11Place.calls A16.out).mono ?_);rintro e w' ⟨rfl,⟨nd,rfl⟩⟩)|(go_at_call 69;(with_reducible refine (spec_l11CmdOk.calls A18.out).mono ?_);rintro e w37 ⟨rfl,hb⟩;replace HO_3:=rB HO_3 hb;replace BK413:=bK BK413 hb;replace HB:=spS HB hb;(try clear hb)))
        go_ret
        exact rZ (pS HB.out)
      ·replace c17:=Bool.eq_false_iff.mpr c17;subst c17
       rw [if_neg nFT] at H
       obtain rfl:=Option.some.inj H;obtain ⟨Ao38,co38,rfl⟩:=Kd.R_slice HO_3.out;have hcz39_0:=fun i_=>blk_cell BK413.out i_;have hfz39_0:=fun i_=>blk_frozen BK413.out i_
       go_wp2_with (first|((with_reducible refine gLg rfl (by assumption) ?_);refine ldV ?_)|((with_reducible refine gSt rfl (by assumption) ?_);refine stV ?_)|((with_reducible refine gT 21 rfl ?_);refine gC (some 21) Try.func67 (spec_l6In.calls A12.out) ?_;rintro e w' ⟨rfl,⟨nd,rfl⟩⟩;refine ⟨_,rfl,?_⟩)|(go_at_call 68;(with_reducible refine (spec_l11Place.calls A14.out).mono ?_);rintro e w' ⟨rfl,⟨nd,rfl⟩⟩)|(go_at_call 68;(with_reducible refine (spec_l11Place.calls A16.out).mono ?_);rintro e w' ⟨rfl,⟨nd,rfl⟩⟩))
       go_ret
       exact rZ (pS HB.out)
     ·replace c15:=Bool.eq_false_iff.mpr c15;subst c15
      rw [if_neg nFT] at H
      obtain rfl:=Option.some.inj H;obtain ⟨Ao40,co40,rfl⟩:=Kd.R_slice HO_3.out;have hcz41_0:=fun i_=>blk_cell BK413.out i_;have hfz41_0:=fun i_=>blk_frozen BK413.out i_
      go_wp2_with (first|((with_reducible refine gLg rfl (by assumption) ?_);refine ldV ?_)|((with_reducible refine gSt rfl (by assumption) ?_);refine stV ?_)|((with_reducible refine gT 21 rfl ?_);refine gC (some 21) Try.func67 (spec_l6In.calls A12.out) ?_;rintro e w' ⟨rfl,⟨nd,rfl⟩⟩;refine ⟨_,rfl,?_⟩)|(go_at_call 68;(with_reducible refine (spec_l11Place.calls A14.out).mono ?_);rintro e w' ⟨rfl,⟨nd,rfl⟩⟩))
      go_ret
      exact rZ (pS HB.out)
    ·replace c13:=Bool.eq_false_iff.mpr c13;subst c13
     rw [if_neg nFT] at H
     obtain rfl:=Option.some.inj H;obtain ⟨Ao42,co42,rfl⟩:=Kd.R_slice HO_3.out;have hcz43_0:=fun i_=>blk_cell BK413.out i_;have hfz43_0:=fun i_=>blk_frozen BK413.out i_
     go_wp2_with (first|((with_reducible refine gLg rfl (by assumption) ?_);refine ldV ?_)|((with_reducible refine gSt rfl (by assumption) ?_);refine stV ?_)|((with_reducible refine gT 21 rfl ?_);refine gC (some 21) Try.func67 (spec_l6In.calls A12.out) ?_;rintro e w' ⟨rfl,⟨nd,rfl⟩⟩;refine ⟨_,rfl,?_⟩))
     go_ret
     exact rZ (pS HB.out)

/-! ### impl_piecesNumbers: function 127 -/
def impl_piecesNumbers.l0 : Nat → List Int → List (S138) → Int → Int → Option (List Int)
 | 0,_,_,_,_=>none
 | k+1,x3,x9,x10,x11=>if x11<x10 then (if 0≤x11 then (if x11<(x9.length:Int) then ((some (([(rd_T138 x9 x11).f0,(rd_T138 x9 x11).f1,(rd_T138 x9 x11).f2,(rd_T138 x9 x11).f3]:List Int):List Int)).bind fun y487=>(if x3.length+y487.length<17592186044416 then (impl_piecesNumbers.l0 k (x3 ++ y487) x9 x10 (wrap64 (x11+1))) else (none))) else (none)) else (none)) else (some x3)
def impl_piecesNumbers.f (k : Nat) (l0 : List (S138)) : Option (List Int) := impl_piecesNumbers.l0 k (([(l0.length : Int)] : List Int)) l0 (l0.length : Int) 0
theorem impl_piecesNumbers.mono_l : ∀ k, (∀ y0 y1 y2 y3, LeO (impl_piecesNumbers.l0 k y0 y1 y2 y3) (impl_piecesNumbers.l0 (k + 1) y0 y1 y2 y3))
 | 0=>fun _ _ _ _ r h=>by simp [impl_piecesNumbers.l0] at h
 | k+1=>by
  have ih0:=impl_piecesNumbers.mono_l k
  ·intros
   unfold impl_piecesNumbers.l0
   repeat' first
   | (with_reducible first|apply ih0|exact LeO.refl _|exact LeO.none _|refine LeO.ite ?_ ?_|refine LeO.bind ?_ (fun _=>?_))|exact LeO.none _|refine LeO.ite ?_ ?_|refine LeO.bind ?_ (fun _=>?_)
theorem impl_piecesNumbers.mono : ∀ a0 k, LeO (impl_piecesNumbers.f k a0) (impl_piecesNumbers.f (k + 1) a0) := by
 intro a0 k;have ih0:=impl_piecesNumbers.mono_l k
 unfold impl_piecesNumbers.f
 repeat' first
   | (with_reducible first|apply ih0|exact LeO.refl _|exact LeO.none _|refine LeO.ite ?_ ?_|refine LeO.bind ?_ (fun _=>?_))|exact LeO.none _|refine LeO.ite ?_ ?_|refine LeO.bind ?_ (fun _=>?_)
set_option maxHeartbeats 8000000 in
set_option maxRecDepth 100000 in
theorem impl_piecesNumbers.calls {k : Nat} {A0 : Option Addr} {c0 : Nat} {l0 : List (S138)} {r : List Int} {w : World} (hr0 : Kd.C k138 w A0 l0.length l0) (hc0 : l0.length ≤ c0) (h : impl_piecesNumbers.f k l0 = some r) :
  Calls Try.prog 127 #[.slice A0 l0.length c0] w fun e w'=>∃ v0_:Value,e=.returned (v0_)∧Kd.R (Kd.int .i64) 3 w' w.heap.size (fun _=>True) v0_ r∧Below w.heap.size w w':=by
 have hu138:=Try.underlying138;have HR0:=mA hr0;have HC0:=mA hc0;clear hr0 hc0;have HB:=mA (Below.refl w.heap.size w);have H:(impl_piecesNumbers.l0 k (([(l0.length:Int)]:List Int)) l0 (l0.length:Int) 0)=some r:=h;clear h;obtain ⟨y482,hy482⟩:∃ y_:List Int,y_=(([(l0.length:Int)]:List Int)):=⟨_,rfl⟩
 replace H:(impl_piecesNumbers.l0 k y482 l0 (l0.length:Int) 0)=some r:=qH hy482 H
 have Ny482:=mA hy482;clear hy482;have H':=mA H;clear H
 go_enter Try.func127,Try.ntmps127
 go_wp2_with (first|((with_reducible refine gT 8 rfl ?_);refine Kd.R_lit (Kd.int .i64) _ 3 ?hg (N:=8) ?hd (xs:=([(l0.length:Int)]:List Int)) (inner:=[.int .i64 (l0.length:Int)]) (ok:=fun _=>True) (okp:=fun _=>True) ?hr ?hp (fun _ hk=>hk) trivial (Below.refl _ _) (Nat.le_refl _) (by simp) ?_;(case hd=>rfl);(case hg=>rfl);(case hr=>first|(go_simp;done)|(go_simp;rfl));(case hp=>exact (Reps.one (show Kd.M (Kd.int .i64) _ _ _ (l0.length:Int) [.int .i64 (l0.length:Int)] from rfl) (Reps.none _ _)));intro v483 w2 ho3 hb hg_ hnew_;clear hg_ hnew_;(first|rw [← Ny482.out] at ho3|(simp only [Int.reduceToNat] at ho3;rw [← Ny482.out] at ho3));have HO484:=mA (Kd.R_lower ho3 (bpB HB));replace HB:=spB HB hb;clear hb ho3))
 go_loopg [3,11] k (fun kq v3 v11 w'=>∃ (x3_1:List Int) (x11_1:Int),v11=.int .i64 x11_1∧Aside0 (impl_piecesNumbers.l0 kq x3_1 l0 (l0.length:Int) x11_1=some r)∧Aside0 (kq≤k)∧Aside0 (Kd.R (Kd.int .i64) 3 w' w.heap.size (fun _=>True) v3 x3_1)∧Aside0 (Below w.heap.size w w'))
 case atStart=>exact ⟨(y482),(0),bZ,H',⟨Nat.le_refl _⟩,⟨pR HO484.out⟩,⟨pB HB.out⟩⟩
 case round =>
  clear H'
  obtain ⟨x3_1,x11_1,rfl,HA,HK1,HO_3,HB⟩:=hrel
  cases gk with
  | zero=>exact absurd HA.out (by simp [impl_piecesNumbers.l0])
  | succ k1 =>
   have H:=HA.out;clear HA;simp only [impl_piecesNumbers.l0] at H
   by_cases c4:x11_1<(l0.length:Int)
   ·rw [if_pos c4] at H;have c4b0:decide (x11_1<(l0.length:Int))=true:=decide_eq_true c4;clear c4
    by_cases c5:0≤x11_1
    ·rw [if_pos c5] at H;have c5b0:decide (0≤x11_1)=true:=decide_eq_true c5;clear c5
     by_cases c6:x11_1<(l0.length:Int)
     ·rw [if_pos c6] at H;have c6b0:decide (x11_1<(l0.length:Int))=true:=decide_eq_true c6;clear c6;obtain ⟨y487,hy487⟩:∃ y_:List Int,y_=(([(rd_T138 l0 x11_1).f0,(rd_T138 l0 x11_1).f1,(rd_T138 l0 x11_1).f2,(rd_T138 l0 x11_1).f3]:List Int)):=⟨_,rfl⟩
      replace H:(if x3_1.length+y487.length<17592186044416 then (impl_piecesNumbers.l0 k1 (x3_1 ++ y487) l0 (l0.length:Int) (wrap64 (x11_1+1))) else (none))=some r:=qH hy487 H
      have Ny487:=mA hy487;clear hy487
      by_cases c7:x3_1.length+y487.length<17592186044416
      ·rw [if_pos c7] at H;have LMc7:=mA c7;clear c7;obtain ⟨y490,hy490⟩:∃ y_:List Int,y_=(x3_1 ++ y487):=⟨_,rfl⟩
       replace H:(impl_piecesNumbers.l0 k1 y490 l0 (l0.length:Int) (wrap64 (x11_1+1)))=some r:=qH hy490 H
       have Ny490:=mA hy490;clear hy490;have H':=mA H;clear H;have p485:0≤(x11_1:Int):=of_decide_eq_true bA;have q485:x11_1<(l0.length:Int):=of_decide_eq_true bA;obtain ⟨ad485,e485,hx485_0,hx485_1,hx485_2,hx485_3⟩:=at_T138 HR0.out x11_1 p485 q485;cases e485;replace hx485_0:=hC HB hx485_0;replace hx485_1:=hC HB hx485_1;replace hx485_2:=hC HB hx485_2;replace hx485_3:=hC HB hx485_3;replace p485:=eq_true p485;replace q485:=eq_true q485
       go_wp2_with (first|((with_reducible refine gT 5 rfl ?_);refine bE 5 #[.int .i64 0,.int .i64 0,.int .i64 0,.int .i64 0] 138 ?_;intro gb486 hg w8 hbox hb;replace HO_3:=rB HO_3 hb;have BK486:=mA hbox;have GW486:=gbpB HB hg;have GE486:=gbpB HB hg;replace HB:=spB HB hb;clear hb hbox hg;obtain ⟨hcz9_0,hcz9_1,hcz9_2,hcz9_3,hfz9_0,hfz9_1,hfz9_2,hfz9_3⟩:=box4 BK486.out)|((with_reducible refine gT 24 rfl ?_);refine Kd.R_lit (Kd.int .i64) _ 3 ?hg (N:=24) ?hd (xs:=([(rd_T138 l0 x11_1).f0,(rd_T138 l0 x11_1).f1,(rd_T138 l0 x11_1).f2,(rd_T138 l0 x11_1).f3]:List Int)) (inner:=[.int .i64 ((rd_T138 l0 x11_1).f0),.int .i64 ((rd_T138 l0 x11_1).f1),.int .i64 ((rd_T138 l0 x11_1).f2),.int .i64 ((rd_T138 l0 x11_1).f3)]) (ok:=fun _=>True) (okp:=fun _=>True) ?hr ?hp (fun _ hk=>hk) trivial (Below.refl _ _) (Nat.le_refl _) (by simp) ?_;(case hd=>rfl);(case hg=>rfl);(case hr=>first|(go_simp;done)|(go_simp;rfl));(case hp=>exact (Reps.one (show Kd.M (Kd.int .i64) _ _ _ ((rd_T138 l0 x11_1).f0) [.int .i64 ((rd_T138 l0 x11_1).f0)] from rfl) (Reps.one (show Kd.M (Kd.int .i64) _ _ _ ((rd_T138 l0 x11_1).f1) [.int .i64 ((rd_T138 l0 x11_1).f1)] from rfl) (Reps.one (show Kd.M (Kd.int .i64) _ _ _ ((rd_T138 l0 x11_1).f2) [.int .i64 ((rd_T138 l0 x11_1).f2)] from rfl) (Reps.one (show Kd.M (Kd.int .i64) _ _ _ ((rd_T138 l0 x11_1).f3) [.int .i64 ((rd_T138 l0 x11_1).f3)] from rfl) (Reps.none _ _))))));intro v488 w10 ho11 hb hg_ hnew_;clear hg_ hnew_;(first|rw [← Ny487.out] at ho11|(simp only [Int.reduceToNat] at ho11;rw [← Ny487.out] at ho11));have HO489:=mA (Kd.R_lower (Kd.R_new' ho11 (Kd.R_lt (pG HO_3 BK486))) (bpS HB));replace HO_3:=mA (Kd.R_elder' (pG HO_3 BK486) (Kd.R_base ho11) hb);replace BK486:=mA (blk_below (g:=gb486) (o:=.cells #[.int .i64 ((rd_T138 l0 x11_1).f0),.int .i64 ((rd_T138 l0 x11_1).f1),.int .i64 ((rd_T138 l0 x11_1).f2),.int .i64 ((rd_T138 l0 x11_1).f3)] 138 (0,0)) (pP BK486) hb);replace HB:=spS HB hb;clear hb ho11;obtain ⟨Ao13,co13,rfl⟩:=Kd.R_slice HO489.out)|((with_reducible refine gate_builtin (b:=.append) (xs:=#[.tmp 15,.tmp 24]) rfl ?_);at_builtin;refine Kd.R_append_rows (Kd.int .i64) (w0:=w) w.heap.size rfl (.tmp 15) (.tmp 24) 58 3 (.int .i64 0) 8 rfl Try.underlying58 info3 rfl aD (by omega) u3 x3_1 y487 _ _ _ (fun k_=>some k_≠(.slice Ao13 y487.length co13:Value).ownBlock) (fun _=>False) rfl rfl ?aO ?aR (fun _ _ h=>h) (fun _ h=>h.elim) ?aF ?aB ?aS ?aL ?_;(case aR=>exact cR HO489);(case aB=>exact (pS HB.out));(case aF=>exact (fun k_ hk=>Kd.fresh' (rL HO489) k_ hk));(case aO=>exact (pR (Kd.R_mono HO_3.out (fun _ hk=>hk.2))));(case aS=>exact (bpS HB));(case aL=>have:=LMc7.out;omega);intro v491 w12 ho hb hg hat;rw [← Ny490.out] at ho;replace HO489:=mA (Kd.R_after (ok:=(fun _=>True)) (pR HO489.out) hg hat);have HO492:=mA ho;replace BK486:=mA (blk_grown (pK BK486.out) hg (rN HO_3 BK486));replace HB:=mA hb;clear HO_3;clear ho hb hg hat))
       go_roundg k1
       case measure=>have:=HK1.out;omega
       case rel=>exact ⟨(y490),(wrap64 (x11_1+1)),bZ,H',⟨by have:=HK1.out;omega⟩,⟨pR (Kd.R_mono HO492.out (fun _ hk=>trivial))⟩,⟨pS HB.out⟩⟩
      ·rw [if_neg c7] at H
       exact absurd H (by simp)
     ·rw [if_neg c6] at H
      exact absurd H (by simp)
    ·rw [if_neg c5] at H
     exact absurd H (by simp)
   ·rw [if_neg c4] at H;have c4b0:decide (x11_1<(l0.length:Int))=false:=decide_eq_false c4;clear c4;obtain rfl:=Option.some.inj H
    go_wp2
    go_ret
    exact ⟨_,by first|rfl|(simp [errW_none,errW_some]<;>rfl)|(simp [*,errW_none,errW_some]<;>rfl),pR HO_3.out,pB HB.out⟩

/-! ### impl_lastNumbers: function 128 -/
def impl_lastNumbers.l0 : Nat → List Int → List (S140) → Int → Int → Option (List Int)
 | 0,_,_,_,_=>none
 | k+1,x3,x9,x10,x11=>if x11<x10 then (if 0≤x11 then (if x11<(x9.length:Int) then ((some (([(rd_T140 x9 x11).f0,(rd_T140 x9 x11).f1]:List Int):List Int)).bind fun y498=>(if x3.length+y498.length<17592186044416 then (impl_lastNumbers.l0 k (x3 ++ y498) x9 x10 (wrap64 (x11+1))) else (none))) else (none)) else (none)) else (some x3)
def impl_lastNumbers.f (k : Nat) (l0 : List (S140)) : Option (List Int) := impl_lastNumbers.l0 k (([(l0.length : Int)] : List Int)) l0 (l0.length : Int) 0
theorem impl_lastNumbers.mono_l : ∀ k, (∀ y0 y1 y2 y3, LeO (impl_lastNumbers.l0 k y0 y1 y2 y3) (impl_lastNumbers.l0 (k + 1) y0 y1 y2 y3))
 | 0=>fun _ _ _ _ r h=>by simp [impl_lastNumbers.l0] at h
 | k+1=>by
  have ih0:=impl_lastNumbers.mono_l k
  ·intros
   unfold impl_lastNumbers.l0
   repeat' first
   | (with_reducible first|apply ih0|exact LeO.refl _|exact LeO.none _|refine LeO.ite ?_ ?_|refine LeO.bind ?_ (fun _=>?_))|exact LeO.none _|refine LeO.ite ?_ ?_|refine LeO.bind ?_ (fun _=>?_)
theorem impl_lastNumbers.mono : ∀ a0 k, LeO (impl_lastNumbers.f k a0) (impl_lastNumbers.f (k + 1) a0) := by
 intro a0 k;have ih0:=impl_lastNumbers.mono_l k
 unfold impl_lastNumbers.f
 repeat' first
   | (with_reducible first|apply ih0|exact LeO.refl _|exact LeO.none _|refine LeO.ite ?_ ?_|refine LeO.bind ?_ (fun _=>?_))|exact LeO.none _|refine LeO.ite ?_ ?_|refine LeO.bind ?_ (fun _=>?_)
set_option maxHeartbeats 8000000 in
set_option maxRecDepth 100000 in
theorem impl_lastNumbers.calls {k : Nat} {A0 : Option Addr} {c0 : Nat} {l0 : List (S140)} {r : List Int} {w : World} (hr0 : Kd.C k140 w A0 l0.length l0) (hc0 : l0.length ≤ c0) (h : impl_lastNumbers.f k l0 = some r) :
  Calls Try.prog 128 #[.slice A0 l0.length c0] w fun e w'=>∃ v0_:Value,e=.returned (v0_)∧Kd.R (Kd.int .i64) 3 w' w.heap.size (fun _=>True) v0_ r∧Below w.heap.size w w':=by
 have hu140:=Try.underlying140;have HR0:=mA hr0;have HC0:=mA hc0;clear hr0 hc0;have HB:=mA (Below.refl w.heap.size w);have H:(impl_lastNumbers.l0 k (([(l0.length:Int)]:List Int)) l0 (l0.length:Int) 0)=some r:=h;clear h;obtain ⟨y493,hy493⟩:∃ y_:List Int,y_=(([(l0.length:Int)]:List Int)):=⟨_,rfl⟩
 replace H:(impl_lastNumbers.l0 k y493 l0 (l0.length:Int) 0)=some r:=qH hy493 H
 have Ny493:=mA hy493;clear hy493;have H':=mA H;clear H
 go_enter Try.func128,Try.ntmps128
 go_wp2_with (first|((with_reducible refine gT 8 rfl ?_);refine Kd.R_lit (Kd.int .i64) _ 3 ?hg (N:=8) ?hd (xs:=([(l0.length:Int)]:List Int)) (inner:=[.int .i64 (l0.length:Int)]) (ok:=fun _=>True) (okp:=fun _=>True) ?hr ?hp (fun _ hk=>hk) trivial (Below.refl _ _) (Nat.le_refl _) (by simp) ?_;(case hd=>rfl);(case hg=>rfl);(case hr=>first|(go_simp;done)|(go_simp;rfl));(case hp=>exact (Reps.one (show Kd.M (Kd.int .i64) _ _ _ (l0.length:Int) [.int .i64 (l0.length:Int)] from rfl) (Reps.none _ _)));intro v494 w2 ho3 hb hg_ hnew_;clear hg_ hnew_;(first|rw [← Ny493.out] at ho3|(simp only [Int.reduceToNat] at ho3;rw [← Ny493.out] at ho3));have HO495:=mA (Kd.R_lower ho3 (bpB HB));replace HB:=spB HB hb;clear hb ho3))
 go_loopg [3,11] k (fun kq v3 v11 w'=>∃ (x3_1:List Int) (x11_1:Int),v11=.int .i64 x11_1∧Aside0 (impl_lastNumbers.l0 kq x3_1 l0 (l0.length:Int) x11_1=some r)∧Aside0 (kq≤k)∧Aside0 (Kd.R (Kd.int .i64) 3 w' w.heap.size (fun _=>True) v3 x3_1)∧Aside0 (Below w.heap.size w w'))
 case atStart=>exact ⟨(y493),(0),bZ,H',⟨Nat.le_refl _⟩,⟨pR HO495.out⟩,⟨pB HB.out⟩⟩
 case round =>
  clear H'
  obtain ⟨x3_1,x11_1,rfl,HA,HK1,HO_3,HB⟩:=hrel
  cases gk with
  | zero=>exact absurd HA.out (by simp [impl_lastNumbers.l0])
  | succ k1 =>
   have H:=HA.out;clear HA;simp only [impl_lastNumbers.l0] at H
   by_cases c4:x11_1<(l0.length:Int)
   ·rw [if_pos c4] at H;have c4b0:decide (x11_1<(l0.length:Int))=true:=decide_eq_true c4;clear c4
    by_cases c5:0≤x11_1
    ·rw [if_pos c5] at H;have c5b0:decide (0≤x11_1)=true:=decide_eq_true c5;clear c5
     by_cases c6:x11_1<(l0.length:Int)
     ·rw [if_pos c6] at H;have c6b0:decide (x11_1<(l0.length:Int))=true:=decide_eq_true c6;clear c6;obtain ⟨y498,hy498⟩:∃ y_:List Int,y_=(([(rd_T140 l0 x11_1).f0,(rd_T140 l0 x11_1).f1]:List Int)):=⟨_,rfl⟩
      replace H:(if x3_1.length+y498.length<17592186044416 then (impl_lastNumbers.l0 k1 (x3_1 ++ y498) l0 (l0.length:Int) (wrap64 (x11_1+1))) else (none))=some r:=qH hy498 H
      have Ny498:=mA hy498;clear hy498
      by_cases c7:x3_1.length+y498.length<17592186044416
      ·rw [if_pos c7] at H;have LMc7:=mA c7;clear c7;obtain ⟨y501,hy501⟩:∃ y_:List Int,y_=(x3_1 ++ y498):=⟨_,rfl⟩
       replace H:(impl_lastNumbers.l0 k1 y501 l0 (l0.length:Int) (wrap64 (x11_1+1)))=some r:=qH hy501 H
       have Ny501:=mA hy501;clear hy501;have H':=mA H;clear H;have p496:0≤(x11_1:Int):=of_decide_eq_true bA;have q496:x11_1<(l0.length:Int):=of_decide_eq_true bA;obtain ⟨ad496,e496,hx496_0,hx496_1⟩:=at_T140 HR0.out x11_1 p496 q496;cases e496;replace hx496_0:=hC HB hx496_0;replace hx496_1:=hC HB hx496_1;replace p496:=eq_true p496;replace q496:=eq_true q496
       go_wp2_with (first|((with_reducible refine gT 5 rfl ?_);refine bE 5 #[.int .i64 0,.int .i64 0] 140 ?_;intro gb497 hg w8 hbox hb;replace HO_3:=rB HO_3 hb;have BK497:=mA hbox;have GW497:=gbpB HB hg;have GE497:=gbpB HB hg;replace HB:=spB HB hb;clear hb hbox hg;obtain ⟨hcz9_0,hcz9_1,hfz9_0,hfz9_1⟩:=box2 BK497.out)|((with_reducible refine gT 20 rfl ?_);refine Kd.R_lit (Kd.int .i64) _ 3 ?hg (N:=20) ?hd (xs:=([(rd_T140 l0 x11_1).f0,(rd_T140 l0 x11_1).f1]:List Int)) (inner:=[.int .i64 ((rd_T140 l0 x11_1).f0),.int .i64 ((rd_T140 l0 x11_1).f1)]) (ok:=fun _=>True) (okp:=fun _=>True) ?hr ?hp (fun _ hk=>hk) trivial (Below.refl _ _) (Nat.le_refl _) (by simp) ?_;(case hd=>rfl);(case hg=>rfl);(case hr=>first|(go_simp;done)|(go_simp;rfl));(case hp=>exact (Reps.one (show Kd.M (Kd.int .i64) _ _ _ ((rd_T140 l0 x11_1).f0) [.int .i64 ((rd_T140 l0 x11_1).f0)] from rfl) (Reps.one (show Kd.M (Kd.int .i64) _ _ _ ((rd_T140 l0 x11_1).f1) [.int .i64 ((rd_T140 l0 x11_1).f1)] from rfl) (Reps.none _ _))));intro v499 w10 ho11 hb hg_ hnew_;clear hg_ hnew_;(first|rw [← Ny498.out] at ho11|(simp only [Int.reduceToNat] at ho11;rw [← Ny498.out] at ho11));have HO500:=mA (Kd.R_lower (Kd.R_new' ho11 (Kd.R_lt (pG HO_3 BK497))) (bpS HB));replace HO_3:=mA (Kd.R_elder' (pG HO_3 BK497) (Kd.R_base ho11) hb);replace BK497:=mA (blk_below (g:=gb497) (o:=.cells #[.int .i64 ((rd_T140 l0 x11_1).f0),.int .i64 ((rd_T140 l0 x11_1).f1)] 140 (0,0)) (pP BK497) hb);replace HB:=spS HB hb;clear hb ho11;obtain ⟨Ao13,co13,rfl⟩:=Kd.R_slice HO500.out)|((with_reducible refine gate_builtin (b:=.append) (xs:=#[.tmp 15,.tmp 20]) rfl ?_);at_builtin;refine Kd.R_append_rows (Kd.int .i64) (w0:=w) w.heap.size rfl (.tmp 15) (.tmp 20) 58 3 (.int .i64 0) 8 rfl Try.underlying58 info3 rfl aD (by omega) u3 x3_1 y498 _ _ _ (fun k_=>some k_≠(.slice Ao13 y498.length co13:Value).ownBlock) (fun _=>False) rfl rfl ?aO ?aR (fun _ _ h=>h) (fun _ h=>h.elim) ?aF ?aB ?aS ?aL ?_;(case aR=>exact cR HO500);(case aB=>exact (pS HB.out));(case aF=>exact (fun k_ hk=>Kd.fresh' (rL HO500) k_ hk));(case aO=>exact (pR (Kd.R_mono HO_3.out (fun _ hk=>hk.2))));(case aS=>exact (bpS HB));(case aL=>have:=LMc7.out;omega);intro v502 w12 ho hb hg hat;rw [← Ny501.out] at ho;replace HO500:=mA (Kd.R_after (ok:=(fun _=>True)) (pR HO500.out) hg hat);have HO503:=mA ho;replace BK497:=mA (blk_grown (pK BK497.out) hg (rN HO_3 BK497));replace HB:=mA hb;clear HO_3;clear ho hb hg hat))
       go_roundg k1
       case measure=>have:=HK1.out;omega
       case rel=>exact ⟨(y501),(wrap64 (x11_1+1)),bZ,H',⟨by have:=HK1.out;omega⟩,⟨pR (Kd.R_mono HO503.out (fun _ hk=>trivial))⟩,⟨pS HB.out⟩⟩
      ·rw [if_neg c7] at H
       exact absurd H (by simp)
     ·rw [if_neg c6] at H
      exact absurd H (by simp)
    ·rw [if_neg c5] at H
     exact absurd H (by simp)
   ·rw [if_neg c4] at H;have c4b0:decide (x11_1<(l0.length:Int))=false:=decide_eq_false c4;clear c4;obtain rfl:=Option.some.inj H
    go_wp2
    go_ret
    exact ⟨_,by first|rfl|(simp [errW_none,errW_some]<;>rfl)|(simp [*,errW_none,errW_some]<;>rfl),pR HO_3.out,pB HB.out⟩

/-! ### impl_wordNumbers: function 62 -/
def impl_wordNumbers.f (k : Nat) (a0_0 : Int) (a0_1 : Int) (a0_2 : Int) (a0_3 : Int) (a0_4 : Int) (a0_5 : Int) (a0_6 : Int) (a0_7 : Int) (a0_8 : Int) (a0_9 : Int) (a0_10 : Int) (a0_11 : Int) (a0_12 : Int) (a0_13 : Int) (a0_14 : Int) (a0_15 : Int) (a0_16 : Int) (a0_17 : Int) (a0_18 : Int) (a0_19 : Int) (a0_20 : Int) (a0_21 : Int) (a0_22 : Int) (a0_23 : Int) (l0_24 : List (S138)) (l0_25 : List (S140)) : Option (List Int) := (some (([a0_0, a0_1, a0_2, a0_3, a0_4, a0_5] : List Int) : List Int)).bind fun y505 => ((impl_cmdNumbers.f a0_6 a0_7 a0_8 a0_9 a0_10 a0_11 a0_12 a0_13 a0_14 a0_15).bind fun t508 => (if y505.length + t508.length < 17592186044416 then ((some (y505 ++ t508 : List Int)).bind fun y511 => ((some (([a0_16, a0_17, a0_18, a0_19, a0_20, a0_21, a0_22, a0_23] : List Int) : List Int)).bind fun y514 => (if y511.length + y514.length < 17592186044416 then ((some (y511 ++ y514 : List Int)).bind fun y517 => ((impl_piecesNumbers.f k l0_24).bind fun t520 => (if y517.length + t520.length < 17592186044416 then ((some (y517 ++ t520 : List Int)).bind fun y523 => ((impl_lastNumbers.f k l0_25).bind fun t526 => (if y523.length + t526.length < 17592186044416 then (some (y523 ++ t526)) else (none)))) else (none)))) else (none)))) else (none)))
theorem impl_wordNumbers.mono : ∀ a0 a1 a2 a3 a4 a5 a6 a7 a8 a9 a10 a11 a12 a13 a14 a15 a16 a17 a18 a19 a20 a21 a22 a23 a24 a25 k, LeO (impl_wordNumbers.f k a0 a1 a2 a3 a4 a5 a6 a7 a8 a9 a10 a11 a12 a13 a14 a15 a16 a17 a18 a19 a20 a21 a22 a23 a24 a25) (impl_wordNumbers.f (k + 1) a0 a1 a2 a3 a4 a5 a6 a7 a8 a9 a10 a11 a12 a13 a14 a15 a16 a17 a18 a19 a20 a21 a22 a23 a24 a25) := by
 intro a0 a1 a2 a3 a4 a5 a6 a7 a8 a9 a10 a11 a12 a13 a14 a15 a16 a17 a18 a19 a20 a21 a22 a23 a24 a25 k
 unfold impl_wordNumbers.f
 repeat' first
   | (with_reducible first|apply impl_lastNumbers.mono|apply impl_piecesNumbers.mono|exact LeO.refl _|exact LeO.none _|refine LeO.ite ?_ ?_|refine LeO.bind ?_ (fun _=>?_))|exact LeO.none _|refine LeO.ite ?_ ?_|refine LeO.bind ?_ (fun _=>?_)
set_option maxHeartbeats 8000000 in
set_option maxRecDepth 100000 in
theorem impl_wordNumbers.calls {k : Nat} {a0_0 : Int} {a0_1 : Int} {a0_2 : Int} {a0_3 : Int} {a0_4 : Int} {a0_5 : Int} {a0_6 : Int} {a0_7 : Int} {a0_8 : Int} {a0_9 : Int} {a0_10 : Int} {a0_11 : Int} {a0_12 : Int} {a0_13 : Int} {a0_14 : Int} {a0_15 : Int} {a0_16 : Int} {a0_17 : Int} {a0_18 : Int} {a0_19 : Int} {a0_20 : Int} {a0_21 : Int} {a0_22 : Int} {a0_23 : Int} {A0_24 : Option Addr} {c0_24 : Nat} {l0_24 : List (S138)} {A0_25 : Option Addr} {c0_25 : Nat} {l0_25 : List (S140)} {r : List Int} {w : World} (hr0_24 : Kd.C k138 w A0_24 l0_24.length l0_24) (hc0_24 : l0_24.length ≤ c0_24) (hr0_25 : Kd.C k140 w A0_25 l0_25.length l0_25) (hc0_25 : l0_25.length ≤ c0_25) (h : impl_wordNumbers.f k a0_0 a0_1 a0_2 a0_3 a0_4 a0_5 a0_6 a0_7 a0_8 a0_9 a0_10 a0_11 a0_12 a0_13 a0_14 a0_15 a0_16 a0_17 a0_18 a0_19 a0_20 a0_21 a0_22 a0_23 l0_24 l0_25 = some r) :
  Calls Try.prog 62 #[.agg #[.int .i64 a0_0,.int .i64 a0_1,.int .i64 a0_2,.int .i64 a0_3,.int .i64 a0_4,.int .i64 a0_5,.int .i64 a0_6,.int .i64 a0_7,.int .i64 a0_8,.int .i64 a0_9,.int .i64 a0_10,.int .i64 a0_11,.int .i64 a0_12,.int .i64 a0_13,.int .i64 a0_14,.int .i64 a0_15,.int .i64 a0_16,.int .i64 a0_17,.int .i64 a0_18,.int .i64 a0_19,.int .i64 a0_20,.int .i64 a0_21,.int .i64 a0_22,.int .i64 a0_23,.slice A0_24 l0_24.length c0_24,.slice A0_25 l0_25.length c0_25]] w fun e w'=>∃ v0_:Value,e=.returned (v0_)∧Kd.R (Kd.int .i64) 3 w' w.heap.size (fun _=>True) v0_ r∧Below w.heap.size w w':=by
 have hu28:=Try.underlying28;have hu24:=Try.underlying24;have HR0_24:=mA hr0_24;have HC0_24:=mA hc0_24;clear hr0_24 hc0_24;have HR0_25:=mA hr0_25;have HC0_25:=mA hc0_25;clear hr0_25 hc0_25;have HB:=mA (Below.refl w.heap.size w);have H:((some (([a0_0,a0_1,a0_2,a0_3,a0_4,a0_5]:List Int):List Int)).bind fun y505=>((impl_cmdNumbers.f a0_6 a0_7 a0_8 a0_9 a0_10 a0_11 a0_12 a0_13 a0_14 a0_15).bind fun t508=>(if y505.length+t508.length<17592186044416 then ((some (y505 ++ t508:List Int)).bind fun y511=>((some (([a0_16,a0_17,a0_18,a0_19,a0_20,a0_21,a0_22,a0_23]:List Int):List Int)).bind fun y514=>(if y511.length+y514.length<17592186044416 then ((some (y511 ++ y514:List Int)).bind fun y517=>((impl_piecesNumbers.f k l0_24).bind fun t520=>(if y517.length+t520.length<17592186044416 then ((some (y517 ++ t520:List Int)).bind fun y523=>((impl_lastNumbers.f k l0_25).bind fun t526=>(if y523.length+t526.length<17592186044416 then (some (y523 ++ t526)) else (none)))) else (none)))) else (none)))) else (none))))=some r:=h;clear h;obtain ⟨y505,hy505⟩:∃ y_:List Int,y_=(([a0_0,a0_1,a0_2,a0_3,a0_4,a0_5]:List Int)):=⟨_,rfl⟩
 replace H:((impl_cmdNumbers.f a0_6 a0_7 a0_8 a0_9 a0_10 a0_11 a0_12 a0_13 a0_14 a0_15).bind fun t508=>(if y505.length+t508.length<17592186044416 then ((some (y505 ++ t508:List Int)).bind fun y511=>((some (([a0_16,a0_17,a0_18,a0_19,a0_20,a0_21,a0_22,a0_23]:List Int):List Int)).bind fun y514=>(if y511.length+y514.length<17592186044416 then ((some (y511 ++ y514:List Int)).bind fun y517=>((impl_piecesNumbers.f k l0_24).bind fun t520=>(if y517.length+t520.length<17592186044416 then ((some (y517 ++ t520:List Int)).bind fun y523=>((impl_lastNumbers.f k l0_25).bind fun t526=>(if y523.length+t526.length<17592186044416 then (some (y523 ++ t526)) else (none)))) else (none)))) else (none)))) else (none)))=some r:=qH hy505 H
 have Ny505:=mA hy505;clear hy505;obtain ⟨t508,A2,H⟩:=bI H;(try dsimp only at H)
 by_cases c3:y505.length+t508.length<17592186044416
 ·rw [if_pos c3] at H;have LMc3:=mA c3;clear c3;obtain ⟨y511,hy511⟩:∃ y_:List Int,y_=(y505 ++ t508):=⟨_,rfl⟩
  replace H:((some (([a0_16,a0_17,a0_18,a0_19,a0_20,a0_21,a0_22,a0_23]:List Int):List Int)).bind fun y514=>(if y511.length+y514.length<17592186044416 then ((some (y511 ++ y514:List Int)).bind fun y517=>((impl_piecesNumbers.f k l0_24).bind fun t520=>(if y517.length+t520.length<17592186044416 then ((some (y517 ++ t520:List Int)).bind fun y523=>((impl_lastNumbers.f k l0_25).bind fun t526=>(if y523.length+t526.length<17592186044416 then (some (y523 ++ t526)) else (none)))) else (none)))) else (none)))=some r:=qH hy511 H
  have Ny511:=mA hy511;clear hy511;obtain ⟨y514,hy514⟩:∃ y_:List Int,y_=(([a0_16,a0_17,a0_18,a0_19,a0_20,a0_21,a0_22,a0_23]:List Int)):=⟨_,rfl⟩
  replace H:(if y511.length+y514.length<17592186044416 then ((some (y511 ++ y514:List Int)).bind fun y517=>((impl_piecesNumbers.f k l0_24).bind fun t520=>(if y517.length+t520.length<17592186044416 then ((some (y517 ++ t520:List Int)).bind fun y523=>((impl_lastNumbers.f k l0_25).bind fun t526=>(if y523.length+t526.length<17592186044416 then (some (y523 ++ t526)) else (none)))) else (none)))) else (none))=some r:=qH hy514 H
  have Ny514:=mA hy514;clear hy514
  by_cases c4:y511.length+y514.length<17592186044416
  ·rw [if_pos c4] at H;have LMc4:=mA c4;clear c4;obtain ⟨y517,hy517⟩:∃ y_:List Int,y_=(y511 ++ y514):=⟨_,rfl⟩
   replace H:((impl_piecesNumbers.f k l0_24).bind fun t520=>(if y517.length+t520.length<17592186044416 then ((some (y517 ++ t520:List Int)).bind fun y523=>((impl_lastNumbers.f k l0_25).bind fun t526=>(if y523.length+t526.length<17592186044416 then (some (y523 ++ t526)) else (none)))) else (none)))=some r:=qH hy517 H
   have Ny517:=mA hy517;clear hy517;obtain ⟨t520,A5,H⟩:=bI H;(try dsimp only at H)
   by_cases c6:y517.length+t520.length<17592186044416
   ·rw [if_pos c6] at H;have LMc6:=mA c6;clear c6;obtain ⟨y523,hy523⟩:∃ y_:List Int,y_=(y517 ++ t520):=⟨_,rfl⟩
    replace H:((impl_lastNumbers.f k l0_25).bind fun t526=>(if y523.length+t526.length<17592186044416 then (some (y523 ++ t526)) else (none)))=some r:=qH hy523 H
    have Ny523:=mA hy523;clear hy523;obtain ⟨t526,A7,H⟩:=bI H;(try dsimp only at H)
    by_cases c8:y523.length+t526.length<17592186044416
    ·rw [if_pos c8] at H;have LMc8:=mA c8;clear c8;obtain ⟨y529,hy529⟩:∃ y_:List Int,y_=(y523 ++ t526):=⟨_,rfl⟩
     replace H:(some y529)=some r:=qH hy529 H
     have Ny529:=mA hy529;clear hy529;obtain rfl:=Option.some.inj H
     go_enter Try.func62,Try.ntmps62
     go_wp2_with (first|((with_reducible refine gLg rfl (by assumption) ?_);refine ldV ?_)|((with_reducible refine gSt rfl (by assumption) ?_);refine stV ?_)|((with_reducible refine gT 1 rfl ?_);refine bE 1 #[.int .i64 a0_0,.int .i64 a0_1,.int .i64 a0_2,.int .i64 a0_3,.int .i64 a0_4,.int .i64 a0_5,.int .i64 a0_6,.int .i64 a0_7,.int .i64 a0_8,.int .i64 a0_9,.int .i64 a0_10,.int .i64 a0_11,.int .i64 a0_12,.int .i64 a0_13,.int .i64 a0_14,.int .i64 a0_15,.int .i64 a0_16,.int .i64 a0_17,.int .i64 a0_18,.int .i64 a0_19,.int .i64 a0_20,.int .i64 a0_21,.int .i64 a0_22,.int .i64 a0_23,.slice A0_24 l0_24.length c0_24,.slice A0_25 l0_25.length c0_25] 28 ?_;intro gb504 hg w9 hbox hb;have BK504:=mA hbox;have GW504:=gbpB HB hg;have GE504:=gbpB HB hg;replace HB:=spB HB hb;clear hb hbox hg;have hcz10_0:=fun i_=>blk_cell BK504.out i_;have hfz10_0:=fun i_=>blk_frozen BK504.out i_)|((with_reducible refine gT 16 rfl ?_);refine Kd.R_lit (Kd.int .i64) _ 3 ?hg (N:=16) ?hd (xs:=([a0_0,a0_1,a0_2,a0_3,a0_4,a0_5]:List Int)) (inner:=[.int .i64 a0_0,.int .i64 a0_1,.int .i64 a0_2,.int .i64 a0_3,.int .i64 a0_4,.int .i64 a0_5]) (ok:=fun _=>True) (okp:=fun _=>True) ?hr ?hp (fun _ hk=>hk) trivial (Below.refl _ _) (Nat.le_refl _) (by simp) ?_;(case hd=>rfl);(case hg=>rfl);(case hr=>first|(go_simp;done)|(go_simp;rfl));(case hp=>exact (Reps.one (show Kd.M (Kd.int .i64) _ _ _ a0_0 [.int .i64 a0_0] from rfl) (Reps.one (show Kd.M (Kd.int .i64) _ _ _ a0_1 [.int .i64 a0_1] from rfl) (Reps.one (show Kd.M (Kd.int .i64) _ _ _ a0_2 [.int .i64 a0_2] from rfl) (Reps.one (show Kd.M (Kd.int .i64) _ _ _ a0_3 [.int .i64 a0_3] from rfl) (Reps.one (show Kd.M (Kd.int .i64) _ _ _ a0_4 [.int .i64 a0_4] from rfl) (Reps.one (show Kd.M (Kd.int .i64) _ _ _ a0_5 [.int .i64 a0_5] from rfl) (Reps.none _ _))))))));intro v506 w11 ho12 hb hg_ hnew_;clear hg_ hnew_;(first|rw [← Ny505.out] at ho12|(simp only [Int.reduceToNat] at ho12;rw [← Ny505.out] at ho12));have HO507:=mA (Kd.R_lower ho12 (bpS HB));replace BK504:=bK BK504 hb;replace HB:=spS HB hb;clear hb ho12;have hcz13_0:=fun i_=>blk_cell BK504.out i_;have hfz13_0:=fun i_=>blk_frozen BK504.out i_)|((with_reducible refine gT 20 rfl ?_);refine gC (some 20) Try.func126 (impl_cmdNumbers.calls A2.out) ?_;rintro e w14 ⟨v509,rfl,ho0,hb⟩;refine ⟨_,rfl,?_⟩;have HO510:=mA (Kd.R_lower (Kd.R_new' ho0 (rL HO507)) (bpS HB));replace HO507:=rE HO507 ho0 hb;replace BK504:=bK BK504 hb;replace HB:=spS HB hb;(try clear hb);(try clear ho0);obtain ⟨Ao16,co16,rfl⟩:=Kd.R_slice HO510.out)|((with_reducible refine gate_builtin (b:=.append) (xs:=#[.tmp 17,.tmp 20]) rfl ?_);at_builtin;refine Kd.R_append_rows (Kd.int .i64) (w0:=w) w.heap.size rfl (.tmp 17) (.tmp 20) 58 3 (.int .i64 0) 8 rfl Try.underlying58 info3 rfl aD (by omega) v506 y505 t508 _ _ _ (fun k_=>some k_≠(.slice Ao16 t508.length co16:Value).ownBlock) (fun _=>False) rfl rfl ?aO ?aR (fun _ _ h=>h) (fun _ h=>h.elim) ?aF ?aB ?aS ?aL ?_;(case aR=>exact cR HO510);(case aB=>exact (pS HB.out));(case aF=>exact (fun k_ hk=>Kd.fresh' (rL HO510) k_ hk));(case aO=>exact (pR (Kd.R_mono HO507.out (fun _ hk=>hk.2))));(case aS=>exact (bpS HB));(case aL=>have:=LMc3.out;omega);intro v512 w15 ho hb hg hat;rw [← Ny511.out] at ho;replace HO510:=mA (Kd.R_after (ok:=(fun _=>True)) (pR HO510.out) hg hat);have HO513:=mA ho;replace BK504:=mA (blk_grown (pK BK504.out) hg (rN HO507 BK504));replace HB:=mA hb;clear HO507;clear ho hb hg hat;have hcz17_0:=fun i_=>blk_cell BK504.out i_;have hfz17_0:=fun i_=>blk_frozen BK504.out i_)|((with_reducible refine gT 39 rfl ?_);refine Kd.R_lit (Kd.int .i64) _ 3 ?hg (N:=39) ?hd (xs:=([a0_16,a0_17,a0_18,a0_19,a0_20,a0_21,a0_22,a0_23]:List Int)) (inner:=[.int .i64 a0_16,.int .i64 a0_17,.int .i64 a0_18,.int .i64 a0_19,.int .i64 a0_20,.int .i64 a0_21,.int .i64 a0_22,.int .i64 a0_23]) (ok:=fun _=>True) (okp:=fun _=>True) ?hr ?hp (fun _ hk=>hk) trivial (Below.refl _ _) (Nat.le_refl _) (by simp) ?_;(case hd=>rfl);(case hg=>rfl);(case hr=>first|(go_simp;done)|(go_simp;rfl));(case hp=>exact (Reps.one (show Kd.M (Kd.int .i64) _ _ _ a0_16 [.int .i64 a0_16] from rfl) (Reps.one (show Kd.M (Kd.int .i64) _ _ _ a0_17 [.int .i64 a0_17] from rfl) (Reps.one (show Kd.M (Kd.int .i64) _ _ _ a0_18 [.int .i64 a0_18] from rfl) (Reps.one (show Kd.M (Kd.int .i64) _ _ _ a0_19 [.int .i64 a0_19] from rfl) (Reps.one (show Kd.M (Kd.int .i64) _ _ _ a0_20 [.int .i64 a0_20] from rfl) (Reps.one (show Kd.M (Kd.int .i64) _ _ _ a0_21 [.int .i64 a0_21] from rfl) (Reps.one (show Kd.M (Kd.int .i64) _ _ _ a0_22 [.int .i64 a0_22] from rfl) (Reps.one (show Kd.M (Kd.int .i64) _ _ _ a0_23 [.int .i64 a0_23] from rfl) (Reps.none _ _))))))))));intro v515 w18 ho19 hb hg_ hnew_;clear hg_ hnew_;(first|rw [← Ny514.out] at ho19|(simp only [Int.reduceToNat] at ho19;rw [← Ny514.out] at ho19));have HO516:=mA (Kd.R_lower (Kd.R_new' (Kd.R_new' ho19 (rL HO510)) (rL HO513)) (bpS HB));replace HO510:=rE HO510 ho19 hb;replace HO513:=rE HO513 ho19 hb;replace BK504:=bK BK504 hb;replace HB:=spS HB hb;clear hb ho19;obtain ⟨Ao21,co21,rfl⟩:=Kd.R_slice HO516.out)|((with_reducible refine gate_builtin (b:=.append) (xs:=#[.tmp 22,.tmp 39]) rfl ?_);at_builtin;refine Kd.R_append_rows (Kd.int .i64) (w0:=w) w.heap.size rfl (.tmp 22) (.tmp 39) 58 3 (.int .i64 0) 8 rfl Try.underlying58 info3 rfl aD (by omega) v512 y511 y514 _ _ _ (fun k_=>some k_≠(.slice Ao16 t508.length co16:Value).ownBlock∧some k_≠(.slice Ao21 y514.length co21:Value).ownBlock) (fun _=>False) rfl rfl ?aO ?aR (fun _ _ h=>h) (fun _ h=>h.elim) ?aF ?aB ?aS ?aL ?_;(case aR=>exact cR HO516);(case aB=>exact (pS HB.out));(case aF=>exact (fun k_ hk=>⟨Kd.fresh' (rL HO510) k_ hk,Kd.fresh' (rL HO516) k_ hk⟩));(case aO=>exact (pR HO513.out));(case aS=>exact (bpS HB));(case aL=>have:=LMc4.out;omega);intro v518 w20 ho hb hg hat;rw [← Ny517.out] at ho;replace HO510:=mA (Kd.R_after (ok:=(fun k_=>some k_≠(.slice Ao21 y514.length co21:Value).ownBlock)) (pR (Kd.R_mono HO510.out (fun _ hk=>⟨hk.2,hk.1.2⟩))) hg hat);replace HO516:=mA (Kd.R_after (ok:=(fun k_=>some k_≠(.slice Ao16 t508.length co16:Value).ownBlock)) (pR (Kd.R_mono HO516.out (fun _ hk=>⟨hk.1.2,hk.2⟩))) hg hat);have HO519:=mA ho;replace BK504:=mA (blk_grown (pK BK504.out) hg (rN HO513 BK504));replace HB:=mA hb;clear HO513;clear ho hb hg hat;have hcz22_0:=fun i_=>blk_cell BK504.out i_;have hfz22_0:=fun i_=>blk_frozen BK504.out i_)|((with_reducible refine gT 44 rfl ?_);refine gC (some 44) Try.func127 (impl_piecesNumbers.calls (cB HR0_24 HB) HC0_24.out A5.out) ?_;rintro e w23 ⟨v521,rfl,ho0,hb⟩;refine ⟨_,rfl,?_⟩;have HO522:=mA (Kd.R_lower (Kd.R_new' (Kd.R_new' (Kd.R_new' ho0 (rL HO510)) (rL HO516)) (rL HO519)) (bpS HB));replace HO510:=rE HO510 ho0 hb;replace HO516:=rE HO516 ho0 hb;replace HO519:=rE HO519 ho0 hb;replace BK504:=bK BK504 hb;replace HB:=spS HB hb;(try clear hb);(try clear ho0);obtain ⟨Ao25,co25,rfl⟩:=Kd.R_slice HO522.out)|((with_reducible refine gate_builtin (b:=.append) (xs:=#[.tmp 41,.tmp 44]) rfl ?_);at_builtin;refine Kd.R_append_rows (Kd.int .i64) (w0:=w) w.heap.size rfl (.tmp 41) (.tmp 44) 58 3 (.int .i64 0) 8 rfl Try.underlying58 info3 rfl aD (by omega) v518 y517 t520 _ _ _ (fun k_=>some k_≠(.slice Ao16 t508.length co16:Value).ownBlock∧some k_≠(.slice Ao21 y514.length co21:Value).ownBlock∧some k_≠(.slice Ao25 t520.length co25:Value).ownBlock) (fun _=>False) rfl rfl ?aO ?aR (fun _ _ h=>h) (fun _ h=>h.elim) ?aF ?aB ?aS ?aL ?_;(case aR=>exact cR HO522);(case aB=>exact (pS HB.out));(case aF=>exact (fun k_ hk=>⟨Kd.fresh' (rL HO510) k_ hk,Kd.fresh' (rL HO516) k_ hk,Kd.fresh' (rL HO522) k_ hk⟩));(case aO=>exact (pR (Kd.R_mono HO519.out (fun _ hk=>⟨hk.1.1,⟨hk.1.2,hk.2⟩⟩))));(case aS=>exact (bpS HB));(case aL=>have:=LMc6.out;omega);intro v524 w24 ho hb hg hat;rw [← Ny523.out] at ho;replace HO510:=mA (Kd.R_after (ok:=(fun k_=>some k_≠(.slice Ao21 y514.length co21:Value).ownBlock∧some k_≠(.slice Ao25 t520.length co25:Value).ownBlock)) (pR (Kd.R_mono HO510.out (fun _ hk=>⟨⟨hk.1.1,hk.2⟩,hk.1.2⟩))) hg hat);replace HO516:=mA (Kd.R_after (ok:=(fun k_=>some k_≠(.slice Ao16 t508.length co16:Value).ownBlock∧some k_≠(.slice Ao25 t520.length co25:Value).ownBlock)) (pR (Kd.R_mono HO516.out (fun _ hk=>⟨⟨hk.1.1,hk.2⟩,hk.1.2⟩))) hg hat);replace HO522:=mA (Kd.R_after (ok:=(fun k_=>some k_≠(.slice Ao16 t508.length co16:Value).ownBlock∧some k_≠(.slice Ao21 y514.length co21:Value).ownBlock)) (pR (Kd.R_mono HO522.out (fun _ hk=>⟨⟨hk.1.1.2,hk.1.2⟩,hk.2⟩))) hg hat);have HO525:=mA ho;replace BK504:=mA (blk_grown (pK BK504.out) hg (rN HO519 BK504));replace HB:=mA hb;clear HO519;clear ho hb hg hat;have hcz26_0:=fun i_=>blk_cell BK504.out i_;have hfz26_0:=fun i_=>blk_frozen BK504.out i_)|((with_reducible refine gT 49 rfl ?_);refine gC (some 49) Try.func128 (impl_lastNumbers.calls (cB HR0_25 HB) HC0_25.out A7.out) ?_;rintro e w27 ⟨v527,rfl,ho0,hb⟩;refine ⟨_,rfl,?_⟩;have HO528:=mA (Kd.R_lower (Kd.R_new' (Kd.R_new' (Kd.R_new' (Kd.R_new' ho0 (rL HO510)) (rL HO516)) (rL HO522)) (rL HO525)) (bpS HB));replace HO510:=rE HO510 ho0 hb;replace HO516:=rE HO516 ho0 hb;replace HO522:=rE HO522 ho0 hb;replace HO525:=rE HO525 ho0 hb;replace BK504:=bK BK504 hb;replace HB:=spS HB hb;(try clear hb);(try clear ho0);obtain ⟨Ao29,co29,rfl⟩:=Kd.R_slice HO528.out)|((with_reducible refine gate_builtin (b:=.append) (xs:=#[.tmp 46,.tmp 49]) rfl ?_);at_builtin;refine Kd.R_append_rows (Kd.int .i64) (w0:=w) w.heap.size rfl (.tmp 46) (.tmp 49) 58 3 (.int .i64 0) 8 rfl Try.underlying58 info3 rfl aD (by omega) v524 y523 t526 _ _ _ (fun k_=>some k_≠(.slice Ao16 t508.length co16:Value).ownBlock∧some k_≠(.slice Ao21 y514.length co21:Value).ownBlock∧some k_≠(.slice Ao25 t520.length co25:Value).ownBlock∧some k_≠(.slice Ao29 t526.length co29:Value).ownBlock) (fun _=>False) rfl rfl ?aO ?aR (fun _ _ h=>h) (fun _ h=>h.elim) ?aF ?aB ?aS ?aL ?_;(case aR=>exact cR HO528);(case aB=>exact (pS HB.out));(case aF=>exact (fun k_ hk=>⟨Kd.fresh' (rL HO510) k_ hk,Kd.fresh' (rL HO516) k_ hk,Kd.fresh' (rL HO522) k_ hk,Kd.fresh' (rL HO528) k_ hk⟩));(case aO=>exact (pR (Kd.R_mono HO525.out (fun _ hk=>⟨hk.1.1,⟨hk.1.2.1,⟨hk.1.2.2,hk.2⟩⟩⟩))));(case aS=>exact (bpS HB));(case aL=>have:=LMc8.out;omega);intro v530 w28 ho hb hg hat;rw [← Ny529.out] at ho;replace HO510:=mA (Kd.R_after (ok:=(fun k_=>some k_≠(.slice Ao21 y514.length co21:Value).ownBlock∧some k_≠(.slice Ao25 t520.length co25:Value).ownBlock∧some k_≠(.slice Ao29 t526.length co29:Value).ownBlock)) (pR (Kd.R_mono HO510.out (fun _ hk=>⟨⟨hk.1.1.1,⟨hk.1.1.2,hk.2⟩⟩,hk.1.2⟩))) hg hat);replace HO516:=mA (Kd.R_after (ok:=(fun k_=>some k_≠(.slice Ao16 t508.length co16:Value).ownBlock∧some k_≠(.slice Ao25 t520.length co25:Value).ownBlock∧some k_≠(.slice Ao29 t526.length co29:Value).ownBlock)) (pR (Kd.R_mono HO516.out (fun _ hk=>⟨⟨hk.1.1.1,⟨hk.1.1.2,hk.2⟩⟩,hk.1.2⟩))) hg hat);replace HO522:=mA (Kd.R_after (ok:=(fun k_=>some k_≠(.slice Ao16 t508.length co16:Value).ownBlock∧some k_≠(.slice Ao21 y514.length co21:Value).ownBlock∧some k_≠(.slice Ao29 t526.length co29:Value).ownBlock)) (pR (Kd.R_mono HO522.out (fun _ hk=>⟨⟨hk.1.1.1,⟨hk.1.1.2,hk.2⟩⟩,hk.1.2⟩))) hg hat);replace HO528:=mA (Kd.R_after (ok:=(fun k_=>some k_≠(.slice Ao16 t508.length co16:Value).ownBlock∧some k_≠(.slice Ao21 y514.length co21:Value).ownBlock∧some k_≠(.slice Ao25 t520.length co25:Value).ownBlock)) (pR (Kd.R_mono HO528.out (fun _ hk=>⟨⟨hk.1.1.1.2,⟨hk.1.1.2,hk.1.2⟩⟩,hk.2⟩))) hg hat);have HO531:=mA ho;replace BK504:=mA (blk_grown (pK BK504.out) hg (rN HO525 BK504));replace HB:=mA hb;clear HO525;clear ho hb hg hat))
     go_ret
     exact ⟨_,by first|rfl|(simp [errW_none,errW_some]<;>rfl)|(simp [*,errW_none,errW_some]<;>rfl),pR (Kd.R_mono HO531.out (fun _ hk=>trivial)),pS HB.out⟩
    ·rw [if_neg c8] at H
     exact absurd H (by simp)
   ·rw [if_neg c6] at H
    exact absurd H (by simp)
  ·rw [if_neg c4] at H
   exact absurd H (by simp)
 ·rw [if_neg c3] at H
  exact absurd H (by simp)

/-! ### impl_isClient: function 132 -/
def impl_isClient.f (a0 : Int) : Option (Bool) := (impl_in.f a0 0 3).bind fun t533 => (some t533)
set_option maxHeartbeats 8000000 in
set_option maxRecDepth 100000 in
theorem impl_isClient.calls {a0 : Int} {r : Bool} {w : World} (h : impl_isClient.f a0 = some r) :
  Calls Try.prog 132 #[.int .i64 a0] w fun e w'=>e=.returned (.bool r)∧Drawn0 w w':=by
 have H:((impl_in.f a0 0 3).bind fun t533=>(some t533))=some r:=h;clear h;obtain ⟨t533,A2,H⟩:=bI H;(try dsimp only at H);obtain rfl:=Option.some.inj H
 go_enter Try.func132,Try.ntmps132
 go_wp2_with (first|((with_reducible refine gT 4 rfl ?_);refine gC (some 4) Try.func74 (impl_in.calls A2.out) ?_;rintro e w' ⟨rfl,⟨nd,rfl⟩⟩;refine ⟨_,rfl,?_⟩))
 go_ret
 exact ⟨by first|rfl|(simp;done)|(simp [*];done),by repeat (first|exact Drawn0.refl _|apply Drawn0.step)⟩

/-! ### impl_isPlace: function 75 -/
def impl_isPlace.f (a0 : Int) : Option (Bool) := (impl_isServer.f a0).bind fun t534 => (if t534 = true then (some true) else ((impl_isClient.f (wrap64 (a0 - 100))).bind fun t535 => (some t535)))
set_option maxHeartbeats 8000000 in
set_option maxRecDepth 100000 in
theorem impl_isPlace.calls {a0 : Int} {r : Bool} {w : World} (h : impl_isPlace.f a0 = some r) :
  Calls Try.prog 75 #[.int .i64 a0] w fun e w'=>e=.returned (.bool r)∧Drawn0 w w':=by
 have H:((impl_isServer.f a0).bind fun t534=>(if t534=true then (some true) else ((impl_isClient.f (wrap64 (a0 - 100))).bind fun t535=>(some t535))))=some r:=h;clear h;obtain ⟨t534,A2,H⟩:=bI H;(try dsimp only at H)
 by_cases c3:t534=true
 ·subst c3;rw [if_pos rfl] at H;obtain rfl:=Option.some.inj H
  go_enter Try.func75,Try.ntmps75
  go_wp2_with (first|((with_reducible refine gT 4 rfl ?_);refine gC (some 4) Try.func98 (impl_isServer.calls A2.out) ?_;rintro e w' ⟨rfl,⟨nd,rfl⟩⟩;refine ⟨_,rfl,?_⟩))
  go_ret
  exact ⟨by first|rfl|(simp;done)|(simp [*];done),by repeat (first|exact Drawn0.refl _|apply Drawn0.step)⟩
 ·replace c3:=Bool.eq_false_iff.mpr c3;subst c3
  rw [if_neg nFT] at H
  obtain ⟨t535,A4,H⟩:=bI H;(try dsimp only at H);obtain rfl:=Option.some.inj H
  go_enter Try.func75,Try.ntmps75
  go_wp2_with (first|((with_reducible refine gT 4 rfl ?_);refine gC (some 4) Try.func98 (impl_isServer.calls A2.out) ?_;rintro e w' ⟨rfl,⟨nd,rfl⟩⟩;refine ⟨_,rfl,?_⟩)|(go_at_call 132;(with_reducible refine (impl_isClient.calls A4.out).mono ?_);rintro e w' ⟨rfl,⟨nd,rfl⟩⟩))
  go_ret
  exact ⟨by first|rfl|(simp;done)|(simp [*];done),by repeat (first|exact Drawn0.refl _|apply Drawn0.step)⟩

/-! ### impl_pieceWay: function 133 -/
def impl_pieceWay.l0 : Nat → List (S155) → Int → Int → Option (Int)
 | 0,_,_,_=>none
 | k+1,x22,x23,x24=>if x24<x23 then (if 0≤x24 then (if x24<(x22.length:Int) then (if ((rd_T155 x22 x24).f0)<((rd_T155 x22 x24).f1) then (some (-1)) else (if ((rd_T155 x22 x24).f0) > ((rd_T155 x22 x24).f1) then (some 1) else (impl_pieceWay.l0 k x22 x23 (wrap64 (x24+1))))) else (none)) else (none)) else (some 0)
def impl_pieceWay.f (k : Nat) (a0_0 : Int) (a0_1 : Int) (a0_2 : Int) (a0_3 : Int) (a1_0 : Int) (a1_1 : Int) (a1_2 : Int) (a1_3 : Int) : Option (Int) := (some (([(⟨a0_0, a1_0⟩ : S155), (⟨a0_1, a1_1⟩ : S155), (⟨a0_2, a1_2⟩ : S155)] : List (S155)) : List (S155))).bind fun y546 => (impl_pieceWay.l0 k y546 (y546.length : Int) 0)
theorem impl_pieceWay.mono_l : ∀ k, (∀ y0 y1 y2, LeO (impl_pieceWay.l0 k y0 y1 y2) (impl_pieceWay.l0 (k + 1) y0 y1 y2))
 | 0=>fun _ _ _ r h=>by simp [impl_pieceWay.l0] at h
 | k+1=>by
  have ih0:=impl_pieceWay.mono_l k
  ·intros
   unfold impl_pieceWay.l0
   repeat' first
   | (with_reducible first|apply ih0|exact LeO.refl _|exact LeO.none _|refine LeO.ite ?_ ?_|refine LeO.bind ?_ (fun _=>?_))|exact LeO.none _|refine LeO.ite ?_ ?_|refine LeO.bind ?_ (fun _=>?_)
theorem impl_pieceWay.mono : ∀ a0 a1 a2 a3 a4 a5 a6 a7 k, LeO (impl_pieceWay.f k a0 a1 a2 a3 a4 a5 a6 a7) (impl_pieceWay.f (k + 1) a0 a1 a2 a3 a4 a5 a6 a7) := by
 intro a0 a1 a2 a3 a4 a5 a6 a7 k;have ih0:=impl_pieceWay.mono_l k
 unfold impl_pieceWay.f
 repeat' first
   | (with_reducible first|apply ih0|exact LeO.refl _|exact LeO.none _|refine LeO.ite ?_ ?_|refine LeO.bind ?_ (fun _=>?_))|exact LeO.none _|refine LeO.ite ?_ ?_|refine LeO.bind ?_ (fun _=>?_)
set_option maxHeartbeats 8000000 in
set_option maxRecDepth 100000 in
theorem impl_pieceWay.calls {k : Nat} {a0_0 : Int} {a0_1 : Int} {a0_2 : Int} {a0_3 : Int} {a1_0 : Int} {a1_1 : Int} {a1_2 : Int} {a1_3 : Int} {r : Int} {w : World} (h : impl_pieceWay.f k a0_0 a0_1 a0_2 a0_3 a1_0 a1_1 a1_2 a1_3 = some r) :
  Calls Try.prog 133 #[.agg #[.int .i64 a0_0,.int .i64 a0_1,.int .i64 a0_2,.int .i64 a0_3],.agg #[.int .i64 a1_0,.int .i64 a1_1,.int .i64 a1_2,.int .i64 a1_3]] w fun e w'=>e=.returned (.int .i64 r)∧Below w.heap.size w w':=by
 have hu138:=Try.underlying138;have hu155:=Try.underlying155;have HB:=mA (Below.refl w.heap.size w);have H:((some (([(⟨a0_0,a1_0⟩:S155),(⟨a0_1,a1_1⟩:S155),(⟨a0_2,a1_2⟩:S155)]:List (S155)):List (S155))).bind fun y546=>(impl_pieceWay.l0 k y546 (y546.length:Int) 0))=some r:=h;clear h;obtain ⟨y546,hy546⟩:∃ y_:List (S155),y_=(([(⟨a0_0,a1_0⟩:S155),(⟨a0_1,a1_1⟩:S155),(⟨a0_2,a1_2⟩:S155)]:List (S155))):=⟨_,rfl⟩
 replace H:(impl_pieceWay.l0 k y546 (y546.length:Int) 0)=some r:=qH hy546 H
 have Ny546:=mA hy546;clear hy546;have H':=mA H;clear H
 go_enter Try.func133,Try.ntmps133
 go_wp2_with (first|((with_reducible refine gT 2 rfl ?_);refine bE 2 #[.int .i64 a0_0,.int .i64 a0_1,.int .i64 a0_2,.int .i64 a0_3] 138 ?_;intro gb544 hg w3 hbox hb;have BK544:=mA hbox;have GW544:=gbpB HB hg;have GE544:=gbpB HB hg;replace HB:=spB HB hb;clear hb hbox hg)|((with_reducible refine gT 3 rfl ?_);refine bE 3 #[.int .i64 a1_0,.int .i64 a1_1,.int .i64 a1_2,.int .i64 a1_3] 138 ?_;intro gb545 hg w4 hbox hb;have BK545:=mA hbox;have GW545:=gbpS HB hg;have GE545:=gbpS HB hg;replace HB:=spS HB hb;have NB544_545:=mA (lN (blk_lt (pK BK544.out)) hg);have NB545_544:=nS NB544_545;replace BK544:=bK BK544 hb;clear hb hbox hg;have hnb5:=NB544_545.out;have hnc5:=NB545_544.out;obtain ⟨hcz6_0,hcz6_1,hcz6_2,hcz6_3,hfz6_0,hfz6_1,hfz6_2,hfz6_3⟩:=box4 BK544.out;obtain ⟨hcz7_0,hcz7_1,hcz7_2,hcz7_3,hfz7_0,hfz7_1,hfz7_2,hfz7_3⟩:=box4 BK545.out)|((with_reducible refine gT 22 rfl ?_);refine Kd.R_lit k155 _ 155 ?hg (N:=22) ?hd (xs:=([(⟨a0_0,a1_0⟩:S155),(⟨a0_1,a1_1⟩:S155),(⟨a0_2,a1_2⟩:S155)]:List (S155))) (inner:=[.int .i64 a0_0,.int .i64 a1_0,.int .i64 a0_1,.int .i64 a1_1,.int .i64 a0_2,.int .i64 a1_2]) (ok:=fun _=>True) (okp:=fun _=>True) ?hr ?hp (fun _ hk=>hk) trivial (Below.refl _ _) (Nat.le_refl _) (by simp) ?_;(case hd=>rfl);(case hg=>rfl);(case hr=>first|(go_simp;done)|(go_simp;rfl));(case hp=>exact (Reps.c2 (show Kd.M k155 _ _ _ (⟨a0_0,a1_0⟩:S155) [.int .i64 a0_0,.int .i64 a1_0] from (k155_mkM _ _ _ (⟨a0_0,a1_0⟩:S155) )) (Reps.c2 (show Kd.M k155 _ _ _ (⟨a0_1,a1_1⟩:S155) [.int .i64 a0_1,.int .i64 a1_1] from (k155_mkM _ _ _ (⟨a0_1,a1_1⟩:S155) )) (Reps.c2 (show Kd.M k155 _ _ _ (⟨a0_2,a1_2⟩:S155) [.int .i64 a0_2,.int .i64 a1_2] from (k155_mkM _ _ _ (⟨a0_2,a1_2⟩:S155) )) (Reps.none _ _)))));intro v547 w8 ho9 hb hg_ hnew_;clear hg_ hnew_;(first|rw [← Ny546.out] at ho9|(simp only [Int.reduceToNat] at ho9;rw [← Ny546.out] at ho9));have HO548:=mA (Kd.R_lower ho9 (bpS HB));replace BK544:=bK BK544 hb;replace BK545:=bK BK545 hb;replace HB:=spS HB hb;clear hb ho9;obtain ⟨Ao10,co10,rfl⟩:=Kd.R_slice HO548.out))
 go_loopg [24] k (fun kq v24 w'=>∃ (x24_1:Int),v24=.int .i64 x24_1∧Aside0 (impl_pieceWay.l0 kq y546 (y546.length:Int) x24_1=some r)∧Aside0 (kq≤k)∧Aside0 (Kd.R k155 155 w' w.heap.size (fun _=>True) (.slice Ao10 y546.length co10) y546)∧Aside0 (w'.heap[gb544]?=some (.cells #[.int .i64 a0_0,.int .i64 a0_1,.int .i64 a0_2,.int .i64 a0_3] 138 (0,0)))∧Aside0 (w'.heap[gb545]?=some (.cells #[.int .i64 a1_0,.int .i64 a1_1,.int .i64 a1_2,.int .i64 a1_3] 138 (0,0)))∧Aside0 (Below w.heap.size w w'))
 case atStart=>exact ⟨(0),bZ,H',⟨Nat.le_refl _⟩,⟨pR HO548.out⟩,⟨pK BK544.out⟩,⟨pK BK545.out⟩,⟨pS HB.out⟩⟩
 case round =>
  clear H'
  (try clear hcz6_0);(try clear hcz6_1);(try clear hcz6_2);(try clear hcz6_3);(try clear hcz7_0);(try clear hcz7_1);(try clear hcz7_2);(try clear hcz7_3);(try clear hfz6_0);(try clear hfz6_1);(try clear hfz6_2);(try clear hfz6_3);(try clear hfz7_0);(try clear hfz7_1);(try clear hfz7_2);(try clear hfz7_3)
  obtain ⟨x24_1,rfl,HA,HK1,HO_22,BK544,BK545,HB⟩:=hrel
  cases gk with
  | zero=>exact absurd HA.out (by simp [impl_pieceWay.l0])
  | succ k1 =>
   have H:=HA.out;clear HA;simp only [impl_pieceWay.l0] at H
   by_cases c11:x24_1<(y546.length:Int)
   ·rw [if_pos c11] at H;have c11b0:decide (x24_1<(y546.length:Int))=true:=decide_eq_true c11;clear c11
    by_cases c12:0≤x24_1
    ·rw [if_pos c12] at H;have c12b0:decide (0≤x24_1)=true:=decide_eq_true c12;clear c12
     by_cases c13:x24_1<(y546.length:Int)
     ·rw [if_pos c13] at H;have c13b0:decide (x24_1<(y546.length:Int))=true:=decide_eq_true c13;clear c13
      by_cases c14:((rd_T155 y546 x24_1).f0)<((rd_T155 y546 x24_1).f1)
      ·rw [if_pos c14] at H;have c14b0:decide (((rd_T155 y546 x24_1).f0)<((rd_T155 y546 x24_1).f1))=true:=decide_eq_true c14;clear c14;obtain rfl:=Option.some.inj H;have p549:0≤(x24_1:Int):=of_decide_eq_true bA;have q549:x24_1<(y546.length:Int):=of_decide_eq_true bA;obtain ⟨ad549,e549,hx549_0,hx549_1⟩:=at_T155 (Kd.R_reads' HO_22.out).2.2 x24_1 p549 q549;cases e549;replace p549:=eq_true p549;replace q549:=eq_true q549
       go_wp2_with (first|((with_reducible refine gT 6 rfl ?_);refine bE 6 #[.int .i64 0,.int .i64 0] 155 ?_;intro gb550 hg w15 hbox hb;replace HO_22:=mA (Kd.R_below (Kd.R_elderB (pR HO_22.out) gb550 (Nat.le_of_eq hg.symm)) hb);have BK550:=mA hbox;have GW550:=gbpS HB hg;have GE550:=gbpS HB hg;replace HB:=spS HB hb;have NB544_550:=mA (lN (blk_lt (pK BK544.out)) hg);have NB550_544:=nS NB544_550;replace BK544:=bK BK544 hb;have NB545_550:=mA (lN (blk_lt (pK BK545.out)) hg);have NB550_545:=nS NB545_550;replace BK545:=bK BK545 hb;clear hb hbox hg;have hnb16:=NB550_544.out;have hnc16:=NB544_550.out;have hnb17:=NB550_545.out;have hnc17:=NB545_550.out;obtain ⟨hcz18_0,hcz18_1,hfz18_0,hfz18_1⟩:=box2 BK550.out))
       go_ret
       exact rZ (pS HB.out)
      ·rw [if_neg c14] at H;have c14b0:decide (((rd_T155 y546 x24_1).f0)<((rd_T155 y546 x24_1).f1))=false:=decide_eq_false c14;clear c14
       by_cases c19:((rd_T155 y546 x24_1).f0) > ((rd_T155 y546 x24_1).f1)
       ·rw [if_pos c19] at H;have c19b0:decide (((rd_T155 y546 x24_1).f1)<((rd_T155 y546 x24_1).f0))=true:=decide_eq_true c19;clear c19;obtain rfl:=Option.some.inj H;have p549:0≤(x24_1:Int):=of_decide_eq_true bA;have q549:x24_1<(y546.length:Int):=of_decide_eq_true bA;obtain ⟨ad549,e549,hx549_0,hx549_1⟩:=at_T155 (Kd.R_reads' HO_22.out).2.2 x24_1 p549 q549;cases e549;replace p549:=eq_true p549;replace q549:=eq_true q549
        go_wp2_with (first|((with_reducible refine gT 6 rfl ?_);refine bE 6 #[.int .i64 0,.int .i64 0] 155 ?_;intro gb550 hg w20 hbox hb;replace HO_22:=mA (Kd.R_below (Kd.R_elderB (pR HO_22.out) gb550 (Nat.le_of_eq hg.symm)) hb);have BK550:=mA hbox;have GW550:=gbpS HB hg;have GE550:=gbpS HB hg;replace HB:=spS HB hb;have NB544_550:=mA (lN (blk_lt (pK BK544.out)) hg);have NB550_544:=nS NB544_550;replace BK544:=bK BK544 hb;have NB545_550:=mA (lN (blk_lt (pK BK545.out)) hg);have NB550_545:=nS NB545_550;replace BK545:=bK BK545 hb;clear hb hbox hg;have hnb21:=NB550_544.out;have hnc21:=NB544_550.out;have hnb22:=NB550_545.out;have hnc22:=NB545_550.out;obtain ⟨hcz23_0,hcz23_1,hfz23_0,hfz23_1⟩:=box2 BK550.out))
        go_ret
        exact rZ (pS HB.out)
       ·rw [if_neg c19] at H;have c19b0:decide (((rd_T155 y546 x24_1).f1)<((rd_T155 y546 x24_1).f0))=false:=decide_eq_false c19;clear c19;have H':=mA H;clear H;have p549:0≤(x24_1:Int):=of_decide_eq_true bA;have q549:x24_1<(y546.length:Int):=of_decide_eq_true bA;obtain ⟨ad549,e549,hx549_0,hx549_1⟩:=at_T155 (Kd.R_reads' HO_22.out).2.2 x24_1 p549 q549;cases e549;replace p549:=eq_true p549;replace q549:=eq_true q549
        go_wp2_with (first|((with_reducible refine gT 6 rfl ?_);refine bE 6 #[.int .i64 0,.int .i64 0] 155 ?_;intro gb550 hg w24 hbox hb;replace HO_22:=mA (Kd.R_below (Kd.R_elderB (pR HO_22.out) gb550 (Nat.le_of_eq hg.symm)) hb);have BK550:=mA hbox;have GW550:=gbpS HB hg;have GE550:=gbpS HB hg;replace HB:=spS HB hb;have NB544_550:=mA (lN (blk_lt (pK BK544.out)) hg);have NB550_544:=nS NB544_550;replace BK544:=bK BK544 hb;have NB545_550:=mA (lN (blk_lt (pK BK545.out)) hg);have NB550_545:=nS NB545_550;replace BK545:=bK BK545 hb;clear hb hbox hg;have hnb25:=NB550_544.out;have hnc25:=NB544_550.out;have hnb26:=NB550_545.out;have hnc26:=NB545_550.out;obtain ⟨hcz27_0,hcz27_1,hfz27_0,hfz27_1⟩:=box2 BK550.out))
        go_roundg k1
        case measure=>have:=HK1.out;omega
        case rel=>exact ⟨(wrap64 (x24_1+1)),bZ,H',⟨by have:=HK1.out;omega⟩,⟨pR (Kd.R_mono (Kd.R_far (p:=⟨gb550,1,none⟩) (Kd.R_far (p:=⟨gb550,0,none⟩) (Kd.R_mono HO_22.out (fun k_ hk=>(⟨hk,hk.2⟩:_∧k_≠gb550))) (fun _ hk=>hk.2) (.int .i64 ((rd_T155 y546 x24_1).f0))) (fun _ hk=>hk.2) (.int .i64 ((rd_T155 y546 x24_1).f1))) (fun _ hk=>trivial))⟩,⟨pF BK544.out⟩,⟨pF BK545.out⟩,⟨pS HB.out⟩⟩
     ·rw [if_neg c13] at H
      exact absurd H (by simp)
    ·rw [if_neg c12] at H
     exact absurd H (by simp)
   ·rw [if_neg c11] at H;have c11b0:decide (x24_1<(y546.length:Int))=false:=decide_eq_false c11;clear c11;obtain rfl:=Option.some.inj H
    go_wp2
    go_ret
    exact rZ (pS HB.out)

end Go.Proofs.Ytoieojmfkkidnaa.P
