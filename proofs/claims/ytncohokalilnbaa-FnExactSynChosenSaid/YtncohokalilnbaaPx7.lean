-- printed by pprint.py (this session's program over the kit's printer) out of the translation. Lean checks it.
import Derived.Test.YtncohokalilnbaaPx0
import Derived.Test.YtncohokalilnbaaPx5
import Derived.Test.YtncohokalilnbaaPx6
namespace Go.Proofs.Ytncohokalilnbaa.P
open Go.RowKit Go.Proofs.YtncohokalilnbaaX Go.Proofs.YtncohokalilnbaaW.PrintWords Go.Proofs.YtncohokalilnbaaW.PrintLast Go.Proofs.YtncohokalilnbaaW.PrintMore
attribute [local go_sem] max2_int min2_int max_two min_two max_three min_three max_four min_four   -- for this text's walks alone
set_option linter.unusedVariables false
set_option linter.unusedSimpArgs false

/-! ### spec_BlkOk: function 100 -/
mutual
def spec_BlkOk.l0 : Nat → List (S164) → Int → Option (Bool)
 | 0,_,_=>none
 | k+1,x0,x3=>if x3<(x0.length:Int) then (if 0≤x3 then ((spec_l6In.f ((rd_T164 x0 x3).f0) 1 99999).bind fun t210=>(if t210=true then ((spec_l6In.f ((rd_T164 x0 x3).f1) 0 99999).bind fun t211=>(if t211=true then ((spec_l6In.f ((rd_T164 x0 x3).f2) 1 99999).bind fun t212=>(if t212=true then ((spec_l6In.f ((rd_T164 x0 x3).f3) 0 99999).bind fun t213=>(spec_BlkOk.j1 k x0 x3 (!t213) ((rd_T164 x0 x3).f0) ((rd_T164 x0 x3).f1) ((rd_T164 x0 x3).f2) ((rd_T164 x0 x3).f3))) else (spec_BlkOk.j1 k x0 x3 true ((rd_T164 x0 x3).f0) ((rd_T164 x0 x3).f1) ((rd_T164 x0 x3).f2) ((rd_T164 x0 x3).f3)))) else (spec_BlkOk.j1 k x0 x3 true ((rd_T164 x0 x3).f0) ((rd_T164 x0 x3).f1) ((rd_T164 x0 x3).f2) ((rd_T164 x0 x3).f3)))) else (spec_BlkOk.j1 k x0 x3 true ((rd_T164 x0 x3).f0) ((rd_T164 x0 x3).f1) ((rd_T164 x0 x3).f2) ((rd_T164 x0 x3).f3)))) else (none)) else (some true)
def spec_BlkOk.j1 : Nat → List (S164) → Int → Bool → Int → Int → Int → Int → Option (Bool)
 | 0,_,_,_,_,_,_,_=>none
 | k+1,x0,x3,x39,x210000,x210001,x210002,x210003=>if x39=true then (some false) else (if x3 > 0 then (if 0≤(wrap64 (x3 - 1)) then (if (wrap64 (x3 - 1))<(x0.length:Int) then ((spec_l3Before.f ((rd_T164 x0 (wrap64 (x3 - 1))).f0) ((rd_T164 x0 (wrap64 (x3 - 1))).f1) ((rd_T164 x0 (wrap64 (x3 - 1))).f2) ((rd_T164 x0 (wrap64 (x3 - 1))).f3) x210000 x210001 x210002).bind fun t215=>(if t215=true then (spec_BlkOk.l0 k x0 (wrap64 (x3+1))) else (some false))) else (none)) else (none)) else (spec_BlkOk.l0 k x0 (wrap64 (x3+1))))
end
def spec_BlkOk.f (k : Nat) (l0 : List (S164)) : Option (Bool) := if (l0.length : Int) > 60 then (some false) else (spec_BlkOk.l0 k l0 0)
theorem spec_BlkOk.mono_l : ∀ k, (∀ y0 y1, LeO (spec_BlkOk.l0 k y0 y1) (spec_BlkOk.l0 (k + 1) y0 y1)) ∧ (∀ y0 y1 y2 y3 y4 y5 y6, LeO (spec_BlkOk.j1 k y0 y1 y2 y3 y4 y5 y6) (spec_BlkOk.j1 (k + 1) y0 y1 y2 y3 y4 y5 y6))
 | 0=>⟨fun _ _ r h=>by simp [spec_BlkOk.l0] at h,fun _ _ _ _ _ _ _ r h=>by simp [spec_BlkOk.j1] at h⟩
 | k+1=>by
  obtain ⟨ih0,ih1⟩:=spec_BlkOk.mono_l k;refine ⟨?_,?_⟩
  ·intros
   unfold spec_BlkOk.l0
   repeat' first
   | (with_reducible first|apply ih0|apply ih1|exact LeO.refl _|exact LeO.none _|refine LeO.ite ?_ ?_|refine LeO.bind ?_ (fun _=>?_))|exact LeO.none _|refine LeO.ite ?_ ?_|refine LeO.bind ?_ (fun _=>?_)
  ·intros
   unfold spec_BlkOk.j1
   repeat' first
   | (with_reducible first|apply ih0|apply ih1|exact LeO.refl _|exact LeO.none _|refine LeO.ite ?_ ?_|refine LeO.bind ?_ (fun _=>?_))|exact LeO.none _|refine LeO.ite ?_ ?_|refine LeO.bind ?_ (fun _=>?_)
theorem spec_BlkOk.mono : ∀ a0 k, LeO (spec_BlkOk.f k a0) (spec_BlkOk.f (k + 1) a0) := by
 intro a0 k;obtain ⟨ih0,ih1⟩:=spec_BlkOk.mono_l k
 unfold spec_BlkOk.f
 repeat' first
   | (with_reducible first|apply ih0|apply ih1|exact LeO.refl _|exact LeO.none _|refine LeO.ite ?_ ?_|refine LeO.bind ?_ (fun _=>?_))|exact LeO.none _|refine LeO.ite ?_ ?_|refine LeO.bind ?_ (fun _=>?_)
def spec_BlkOk.T9 : Bool × List (List Nat × List Nat) := (true, [([], []), ([0], [0]), ([1], [1]), ([2], [2]), ([2], [2]), ([4, 2], [2, 4]), ([3, 5, 2], [2, 3, 5]), ([6, 2], [2, 6]), ([2], [2]), ([8, 2], [2, 8]), ([2], [2]), ([10, 2], [2, 10]), ([2], [2]), ([12, 2], [2, 12]), ([7, 9, 11, 13, 2, 2], [2, 7, 9, 11, 13]), ([14, 2], [2, 14]), ([2, 15], [2, 15])])
def spec_BlkOk.B9 : List Nat := [0, 1, 3, 7, 7, 23, 63, 127, 7, 263, 7, 1031, 7, 4103, 16383, 32767, 65535]
theorem spec_BlkOk.tab9 : rtab .any (opsOf Try.f100 9) = spec_BlkOk.T9 := by kernel_rfl
theorem spec_BlkOk.bits9 : waitsOk spec_BlkOk.T9.2 spec_BlkOk.B9 = true := by kernel_rfl
set_option maxHeartbeats 8000000 in
set_option maxRecDepth 100000 in
theorem spec_BlkOk.calls {k : Nat} {A0 : Option Addr} {c0 : Nat} {l0 : List (S164)} {r : Bool} {w : World} (hr0 : Kd.C k164 w A0 l0.length l0) (hc0 : l0.length ≤ c0) (h : spec_BlkOk.f k l0 = some r) :
  Calls Try.prog 100 #[.slice A0 l0.length c0] w fun e w'=>e=.returned (.bool r)∧Below w.heap.size w w':=by
 have hu164:=Try.underlying164;have HR0:=mA hr0;have HC0:=mA hc0;clear hr0 hc0;have HB:=mA (Below.refl w.heap.size w);have H:(if (l0.length:Int) > 60 then (some false) else (spec_BlkOk.l0 k l0 0))=some r:=h;clear h
 by_cases c2:(l0.length:Int) > 60
 ·rw [if_pos c2] at H;have c2b0:decide (60<(l0.length:Int))=true:=decide_eq_true c2
  have c2b1:decide (60<l0.length)=true:=decide_eq_true (by omega)
  clear c2;obtain rfl:=Option.some.inj H
  go_enter Try.func100,Try.ntmps100
  go_wp2
  go_ret
  exact rZ (pB HB.out)
 ·rw [if_neg c2] at H;have c2b0:decide (60<(l0.length:Int))=false:=decide_eq_false c2
  have c2b1:decide (60<l0.length)=false:=decide_eq_false (by omega)
  clear c2;have H':=mA H;clear H
  go_enter Try.func100,Try.ntmps100
  go_wp2
  go_loopg [3] k (fun kq v3 w'=>∃ (x3_1:Int),v3=.int .i64 x3_1∧Aside0 (spec_BlkOk.l0 kq l0 x3_1=some r)∧Aside0 (kq≤k)∧Aside0 (Below w.heap.size w w'))
  case atStart=>exact ⟨(0),bZ,H',⟨Nat.le_refl _⟩,⟨pB HB.out⟩⟩
  case round =>
   clear H'
   (try clear c2);(try clear c2b0);(try clear c2b1)
   obtain ⟨x3_1,rfl,HA,HK1,HB⟩:=hrel
   cases gk with
   | zero=>exact absurd HA.out (by simp [spec_BlkOk.l0])
   | succ k1 =>
    have H:=HA.out;clear HA;simp only [spec_BlkOk.l0] at H
    by_cases c3:x3_1<(l0.length:Int)
    ·rw [if_pos c3] at H;have c3b0:decide (x3_1<(l0.length:Int))=true:=decide_eq_true c3;clear c3
     by_cases c4:0≤x3_1
     ·rw [if_pos c4] at H;have c4b0:decide (0≤x3_1)=true:=decide_eq_true c4;clear c4;have HC5:=mA H;clear H;have p208:0≤(x3_1:Int):=of_decide_eq_true bA;have q208:x3_1<(l0.length:Int):=of_decide_eq_true bA;obtain ⟨ad208,e208,hx208_0,hx208_1,hx208_2,hx208_3⟩:=at_T164 HR0.out x3_1 p208 q208;cases e208;replace hx208_0:=hC HB hx208_0;replace hx208_1:=hC HB hx208_1;replace hx208_2:=hC HB hx208_2;replace hx208_3:=hC HB hx208_3;replace p208:=eq_true p208;replace q208:=eq_true q208
      go_upto_region 7 with (first|((with_reducible refine gT 4 rfl ?_);refine bJ 4 y164 ?_;intro gb209 hg w6 hbox hb;have BK209:=mA hbox;have GW209:=gbpB HB hg;have GE209:=gbpB HB hg;replace HB:=spB HB hb;clear hb hbox hg;obtain ⟨hcz7_0,hcz7_1,hcz7_2,hcz7_3,hfz7_0,hfz7_1,hfz7_2,hfz7_3⟩:=box4 BK209.out))
      (try simp only [Act.put,List.setIfInBounds_toArray,List.set_cons_zero,List.set_cons_succ])
      go_cut [39] (fun v39 wc=>∃ (kq:Nat) (x39_4:Bool),v39=.bool x39_4∧Aside0 (spec_BlkOk.j1 kq l0 x3_1 x39_4 ((rd_T164 l0 x3_1).f0) ((rd_T164 l0 x3_1).f1) ((rd_T164 l0 x3_1).f2) ((rd_T164 l0 x3_1).f3)=some r)∧Aside0 (kq≤k1)∧Aside0 (wc.heap[gb209]?=some (.cells #[.int .i64 ((rd_T164 l0 x3_1).f0),.int .i64 ((rd_T164 l0 x3_1).f1),.int .i64 ((rd_T164 l0 x3_1).f2),.int .i64 ((rd_T164 l0 x3_1).f3)] 164 (0,0)))∧Aside0 (Below w.heap.size w wc))
      case first =>
       have H:=HC5.out;clear HC5;obtain ⟨t210,A8,H⟩:=bI H;(try dsimp only at H)
       by_cases c9:t210=true
       ·subst c9;rw [if_pos rfl] at H;obtain ⟨t211,A10,H⟩:=bI H;(try dsimp only at H)
        by_cases c11:t211=true
        ·subst c11;rw [if_pos rfl] at H;obtain ⟨t212,A12,H⟩:=bI H;(try dsimp only at H)
         by_cases c13:t212=true
         ·subst c13;rw [if_pos rfl] at H;obtain ⟨t213,A14,H⟩:=bI H;(try dsimp only at H);have H':=mA H;clear H;obtain ⟨hcz15_0,hcz15_1,hcz15_2,hcz15_3,hfz15_0,hfz15_1,hfz15_2,hfz15_3⟩:=box4 BK209.out
          go_wp2_with (first|((with_reducible refine gT 20 rfl ?_);refine gC (some 20) Try.func55 (spec_l6In.calls A8.out) ?_;rintro e w' ⟨rfl,⟨nd,rfl⟩⟩;refine ⟨_,rfl,?_⟩)|(go_at_call 55;(with_reducible refine (spec_l6In.calls A10.out).mono ?_);rintro e w' ⟨rfl,⟨nd,rfl⟩⟩)|(go_at_call 55;(with_reducible refine (spec_l6In.calls A12.out).mono ?_);rintro e w' ⟨rfl,⟨nd,rfl⟩⟩)|(go_at_call 55;(with_reducible refine (spec_l6In.calls A14.out).mono ?_);rintro e w' ⟨rfl,⟨nd,rfl⟩⟩))
          go_meet
          case rel=>exact ⟨_,(!t213),bZ,H',⟨by have:=HK1.out;first|omega|exact Nat.le_refl _⟩,⟨pP BK209⟩,⟨pS HB.out⟩⟩
         ·replace c13:=Bool.eq_false_iff.mpr c13;subst c13
          rw [if_neg nFT] at H
          have H':=mA H;clear H;obtain ⟨hcz16_0,hcz16_1,hcz16_2,hcz16_3,hfz16_0,hfz16_1,hfz16_2,hfz16_3⟩:=box4 BK209.out
          go_wp2_with (first|((with_reducible refine gT 20 rfl ?_);refine gC (some 20) Try.func55 (spec_l6In.calls A8.out) ?_;rintro e w' ⟨rfl,⟨nd,rfl⟩⟩;refine ⟨_,rfl,?_⟩)|(go_at_call 55;(with_reducible refine (spec_l6In.calls A10.out).mono ?_);rintro e w' ⟨rfl,⟨nd,rfl⟩⟩)|(go_at_call 55;(with_reducible refine (spec_l6In.calls A12.out).mono ?_);rintro e w' ⟨rfl,⟨nd,rfl⟩⟩))
          go_meet
          case rel=>exact ⟨_,(true),bZ,H',⟨by have:=HK1.out;first|omega|exact Nat.le_refl _⟩,⟨pP BK209⟩,⟨pS HB.out⟩⟩
        ·replace c11:=Bool.eq_false_iff.mpr c11;subst c11
         rw [if_neg nFT] at H
         have H':=mA H;clear H;obtain ⟨hcz17_0,hcz17_1,hcz17_2,hcz17_3,hfz17_0,hfz17_1,hfz17_2,hfz17_3⟩:=box4 BK209.out
         go_wp2_with (first|((with_reducible refine gT 20 rfl ?_);refine gC (some 20) Try.func55 (spec_l6In.calls A8.out) ?_;rintro e w' ⟨rfl,⟨nd,rfl⟩⟩;refine ⟨_,rfl,?_⟩)|(go_at_call 55;(with_reducible refine (spec_l6In.calls A10.out).mono ?_);rintro e w' ⟨rfl,⟨nd,rfl⟩⟩))
         go_meet
         case rel=>exact ⟨_,(true),bZ,H',⟨by have:=HK1.out;first|omega|exact Nat.le_refl _⟩,⟨pP BK209⟩,⟨pS HB.out⟩⟩
       ·replace c9:=Bool.eq_false_iff.mpr c9;subst c9
        rw [if_neg nFT] at H
        have H':=mA H;clear H;obtain ⟨hcz18_0,hcz18_1,hcz18_2,hcz18_3,hfz18_0,hfz18_1,hfz18_2,hfz18_3⟩:=box4 BK209.out
        go_wp2_with (first|((with_reducible refine gT 20 rfl ?_);refine gC (some 20) Try.func55 (spec_l6In.calls A8.out) ?_;rintro e w' ⟨rfl,⟨nd,rfl⟩⟩;refine ⟨_,rfl,?_⟩))
        go_meet
        case rel=>exact ⟨_,(true),bZ,H',⟨by have:=HK1.out;first|omega|exact Nat.le_refl _⟩,⟨pP BK209⟩,⟨pS HB.out⟩⟩
      case rest =>
       clear HC5
       (try clear c2);(try clear c2b0);(try clear c2b1);(try clear c3);(try clear c3b0);(try clear c4);(try clear c4b0);(try clear hcz7_0);(try clear hcz7_1);(try clear hcz7_2);(try clear hcz7_3);(try clear hfz7_0);(try clear hfz7_1);(try clear hfz7_2);(try clear hfz7_3);(try clear hx208_0);(try clear hx208_1);(try clear hx208_2);(try clear hx208_3);(try clear p208);(try clear q208)
       obtain ⟨kq,x39_4,rfl,HA,HJ4,BK209,HB⟩:=hcut
       cases kq with
       | zero=>exact absurd HA.out (by simp [spec_BlkOk.j1])
       | succ kj4 =>
        have H:=HA.out;clear HA;simp only [spec_BlkOk.j1] at H
        by_cases c19:x39_4=true
        ·subst c19;rw [if_pos rfl] at H;obtain rfl:=Option.some.inj H
         go_wp2
         go_ret
         exact rZ (pS HB.out)
        ·replace c19:=Bool.eq_false_iff.mpr c19;subst c19
         rw [if_neg nFT] at H
         by_cases c20:x3_1 > 0
         ·rw [if_pos c20] at H;have c20b0:decide (0<x3_1)=true:=decide_eq_true c20;clear c20;obtain ⟨ji21,hji21⟩:∃ j_:Int,(wrap64 (x3_1 - 1))=j_:=⟨_,rfl⟩
          replace H:(if 0≤(ji21) then (if (ji21)<(l0.length:Int) then ((spec_l3Before.f ((rd_T164 l0 (ji21)).f0) ((rd_T164 l0 (ji21)).f1) ((rd_T164 l0 (ji21)).f2) ((rd_T164 l0 (ji21)).f3) ((rd_T164 l0 x3_1).f0) ((rd_T164 l0 x3_1).f1) ((rd_T164 l0 x3_1).f2)).bind fun t215=>(if t215=true then (spec_BlkOk.l0 kj4 l0 (wrap64 (x3_1+1))) else (some false))) else (none)) else (none))=some r:=by first|(rw [hji21] at H;exact H)|(simp only [hji21] at H ⊢;exact H)
          have hji21w:(IntKind.i64.wrap (x3_1 - 1))=ji21:=(i64_w _).trans hji21
          by_cases c22:0≤(ji21)
          ·rw [if_pos c22] at H;have c22b0:decide (0≤(ji21))=true:=decide_eq_true c22;clear c22
           by_cases c23:(ji21)<(l0.length:Int)
           ·rw [if_pos c23] at H;have c23b0:decide ((ji21)<(l0.length:Int))=true:=decide_eq_true c23;clear c23;obtain ⟨t215,A24,H⟩:=bI H;(try dsimp only at H)
            have H0_:=mA H;clear H
            try go_wp2
            replace BK209:=mA (blk_drew BK209.out);replace HB:=mA (below_drew1 HB.out);have p214:0≤((ji21):Int):=of_decide_eq_true bA;have q214:(ji21)<(l0.length:Int):=of_decide_eq_true bA;obtain ⟨ad214,e214,hs214⟩:=at_R164 HR0.out (ji21) p214 q214
            obtain rfl:ad208=ad214:=(by injection e214)
            replace p214:=eq_true p214;replace q214:=eq_true q214
            refine start_ (n:=17) (S:=fun w'=>w'.heap[gb209]?=some (.cells #[.int .i64 ((rd_T164 l0 x3_1).f0),.int .i64 ((rd_T164 l0 x3_1).f1),.int .i64 ((rd_T164 l0 x3_1).f2),.int .i64 ((rd_T164 l0 x3_1).f3)] 164 (0,0))∧RS w' (ad208.add (((ji21)).toNat * 4)) (d164 (rd_T164 l0 (ji21)))) (ds:=[]) _ aK rfl rfl ⟨BK209.out,rS HB hs214⟩ (fun hHeld=>?_);refine with_tabW spec_BlkOk.tab9 spec_BlkOk.bits9 (fun HT_ HW_=>?_)
            generalize wc.drew=w26 at BK209 HB hHeld ⊢
            refine qu 0 ?_;refine qu 1 ?_;refine qu 2 ?_;refine qu 3 ?_;refine qu 4 ?_;refine qu 5 ?_;refine qu 6 ?_;refine qu 8 ?_;refine qu 10 ?_;refine qu 12 ?_;refine qt 7 ?_;refine qt 9 ?_;refine qt 11 ?_;refine qt 13 ?_
            refine qo 14 ?_;intro K hK
            refine goes_ Try.func136 aK rfl #[.agg #[.int .i64 ((rd_T164 l0 (ji21)).f0),.int .i64 ((rd_T164 l0 (ji21)).f1),.int .i64 ((rd_T164 l0 (ji21)).f2),.int .i64 ((rd_T164 l0 (ji21)).f3)],.int .i64 ((rd_T164 l0 x3_1).f0),.int .i64 ((rd_T164 l0 x3_1).f1),.int .i64 ((rd_T164 l0 x3_1).f2)] (by rfl) rfl rfl (by (try simp only [List.map_toArray,List.map_cons,List.map_nil]);first|done|(simp only [hji21];rfl)|rfl|(simp only [List.length_drop,List.length_take];rfl)) ?_
            with_reducible refine (spec_l3Before.calls A24.out).mono ?_
            rintro e w27 ⟨rfl,hb⟩;refine ⟨_,rfl,?_⟩;replace BK209:=bK BK209 hb;replace HB:=spS HB hb
            (try clear hb)
            refine hK.out _ _ ⟨BK209.out,rS HB hs214⟩ (fun hHeld=>?_);clear hK K;refine no_ (some 54) ?_;refine qu 15 ?_;refine qu 16 ?_;refine qe ?_
            have H:=H0_.out;clear H0_
            by_cases c25:t215=true
            ·subst c25;rw [if_pos rfl] at H;have H':=mA H;clear H
             try go_wp2
             go_roundg kj4
             case measure=>have:=HK1.out;have:=HJ4.out;omega
             case rel=>exact ⟨(wrap64 (x3_1+1)),bZ,H',⟨by have:=HK1.out;have:=HJ4.out;omega⟩,⟨pS HB.out⟩⟩
            ·replace c25:=Bool.eq_false_iff.mpr c25;subst c25
             rw [if_neg nFT] at H
             obtain rfl:=Option.some.inj H
             try go_wp2
             go_ret
             exact ⟨by first|rfl|(simp [errW_none,errW_some]<;>rfl)|(simp only [← hji21];first|rfl|(simp [errW_none,errW_some]<;>rfl))|(simp [*,errW_none,errW_some]<;>rfl),pS HB.out⟩
           ·rw [if_neg c23] at H
            exact absurd H (by simp)
          ·rw [if_neg c22] at H
           exact absurd H (by simp)
         ·rw [if_neg c20] at H;have c20b0:decide (0<x3_1)=false:=decide_eq_false c20;clear c20;have H':=mA H;clear H
          try go_wp2
          replace BK209:=mA (blk_drew BK209.out);replace HB:=mA (below_drew1 HB.out)
          refine start_ (n:=17) (S:=fun w'=>True) (ds:=[]) _ aK rfl rfl trivial (fun hHeld=>?_);refine with_tabW spec_BlkOk.tab9 spec_BlkOk.bits9 (fun HT_ HW_=>?_)
          generalize wc.drew=w30 at BK209 HB hHeld ⊢
          refine qu 0 ?_;refine qu 1 ?_;refine qu 2 ?_;refine qd 3 ?_;refine qd 4 ?_;refine qd 5 ?_;refine qd 6 ?_;refine qd 7 ?_;refine qd 8 ?_;refine qd 9 ?_;refine qd 10 ?_;refine qd 11 ?_;refine qd 12 ?_;refine qd 13 ?_;refine qd 14 ?_;refine qd 15 ?_;refine qu 16 ?_;refine qe ?_
          try go_wp2
          go_roundg kj4
          case measure=>have:=HK1.out;have:=HJ4.out;omega
          case rel=>exact ⟨(wrap64 (x3_1+1)),bZ,H',⟨by have:=HK1.out;have:=HJ4.out;omega⟩,⟨pS HB.out⟩⟩
     ·rw [if_neg c4] at H
      exact absurd H (by simp)
    ·rw [if_neg c3] at H;have c3b0:decide (x3_1<(l0.length:Int))=false:=decide_eq_false c3;clear c3;obtain rfl:=Option.some.inj H
     go_wp2
     go_ret
     exact rZ (pB HB.out)

/-! ### spec_l3LastOk: function 101 -/
def spec_l3LastOk.l0 : Nat → List (S166) → Int → Option (Bool)
 | 0,_,_=>none
 | k+1,x0,x3=>if x3<(x0.length:Int) then (if 0≤x3 then ((spec_l6In.f ((rd_T166 x0 x3).f0) 0 3).bind fun t217=>(if t217=true then ((spec_l6In.f ((rd_T166 x0 x3).f1) 1 99999).bind fun t219=>(if t219=true then (if x3 > 0 then (if 0≤(wrap64 (x3 - 1)) then (if (wrap64 (x3 - 1))<(x0.length:Int) then (if ((rd_T166 x0 (wrap64 (x3 - 1))).f0) ≥ ((rd_T166 x0 x3).f0) then (some false) else (spec_l3LastOk.l0 k x0 (wrap64 (x3+1)))) else (none)) else (none)) else (spec_l3LastOk.l0 k x0 (wrap64 (x3+1)))) else (some false))) else (some false))) else (none)) else (some true)
def spec_l3LastOk.f (k : Nat) (l0 : List (S166)) : Option (Bool) := if (l0.length : Int) > 4 then (some false) else (spec_l3LastOk.l0 k l0 0)
theorem spec_l3LastOk.mono_l : ∀ k, (∀ y0 y1, LeO (spec_l3LastOk.l0 k y0 y1) (spec_l3LastOk.l0 (k + 1) y0 y1))
 | 0=>fun _ _ r h=>by simp [spec_l3LastOk.l0] at h
 | k+1=>by
  have ih0:=spec_l3LastOk.mono_l k
  ·intros
   unfold spec_l3LastOk.l0
   repeat' first
   | (with_reducible first|apply ih0|exact LeO.refl _|exact LeO.none _|refine LeO.ite ?_ ?_|refine LeO.bind ?_ (fun _=>?_))|exact LeO.none _|refine LeO.ite ?_ ?_|refine LeO.bind ?_ (fun _=>?_)
theorem spec_l3LastOk.mono : ∀ a0 k, LeO (spec_l3LastOk.f k a0) (spec_l3LastOk.f (k + 1) a0) := by
 intro a0 k;have ih0:=spec_l3LastOk.mono_l k
 unfold spec_l3LastOk.f
 repeat' first
   | (with_reducible first|apply ih0|exact LeO.refl _|exact LeO.none _|refine LeO.ite ?_ ?_|refine LeO.bind ?_ (fun _=>?_))|exact LeO.none _|refine LeO.ite ?_ ?_|refine LeO.bind ?_ (fun _=>?_)
def spec_l3LastOk.T6 : Bool × List (List Nat × List Nat) := (true, [([], []), ([], []), ([0, 1], [0, 1]), ([2], [2]), ([3], [3]), ([4], [4]), ([5], [5]), ([6, 5], [6]), ([7], [7]), ([7], [7]), ([8, 9, 7], [7, 8, 9]), ([10, 7], [7, 10]), ([11, 7], [7, 11]), ([12, 7, 7], [7, 12]), ([13, 7], [7, 13]), ([7, 14], [7, 14]), ([15, 13], [15]), ([16], [16]), ([17, 16], [16, 17]), ([18, 16, 16], [16, 18]), ([19], [19]), ([19], [19]), ([21, 19], [19, 21]), ([20, 22, 19], [19, 20, 22]), ([23, 19], [19, 23]), ([24, 19], [19, 24]), ([19], [19]), ([19], [19]), ([26, 27, 19], [19, 26, 27]), ([28, 19], [19, 28]), ([29, 19], [19, 29]), ([25, 30, 19], [19, 25, 30]), ([19, 31, 16], [16, 19, 31]), ([16, 32], [16, 32])])
def spec_l3LastOk.B6 : List Nat := [0, 0, 3, 7, 15, 31, 63, 127, 255, 255, 1023, 2047, 4095, 8191, 16383, 32767, 65535, 131071, 262143, 524287, 1048575, 1048575, 3145727, 8388607, 16777215, 33554431, 1048575, 1048575, 202375167, 470810623, 1007681535, 2147483647, 4294967295, 8589934591]
theorem spec_l3LastOk.tab6 : rtab .any (opsOf Try.f101 6) = spec_l3LastOk.T6 := by kernel_rfl
theorem spec_l3LastOk.bits6 : waitsOk spec_l3LastOk.T6.2 spec_l3LastOk.B6 = true := by kernel_rfl
set_option maxHeartbeats 8000000 in
set_option maxRecDepth 100000 in
theorem spec_l3LastOk.calls {k : Nat} {A0 : Option Addr} {c0 : Nat} {l0 : List (S166)} {r : Bool} {w : World} (hr0 : Kd.C k166 w A0 l0.length l0) (hc0 : l0.length ≤ c0) (h : spec_l3LastOk.f k l0 = some r) :
  Calls Try.prog 101 #[.slice A0 l0.length c0] w fun e w'=>e=.returned (.bool r)∧Below w.heap.size w w':=by
 have HR0:=mA hr0;have HC0:=mA hc0;clear hr0 hc0;have HB:=mA (Below.refl w.heap.size w);have H:(if (l0.length:Int) > 4 then (some false) else (spec_l3LastOk.l0 k l0 0))=some r:=h;clear h
 by_cases c2:(l0.length:Int) > 4
 ·rw [if_pos c2] at H;have c2b0:decide (4<(l0.length:Int))=true:=decide_eq_true c2
  have c2b1:decide (4<l0.length)=true:=decide_eq_true (by omega)
  clear c2;obtain rfl:=Option.some.inj H
  go_enter Try.func101,Try.ntmps101
  go_wp2
  go_ret
  exact rZ (pB HB.out)
 ·rw [if_neg c2] at H;have c2b0:decide (4<(l0.length:Int))=false:=decide_eq_false c2
  have c2b1:decide (4<l0.length)=false:=decide_eq_false (by omega)
  clear c2;have H':=mA H;clear H
  go_enter Try.func101,Try.ntmps101
  go_wp2
  go_loopg [3] k (fun kq v3 w'=>∃ (x3_1:Int),v3=.int .i64 x3_1∧Aside0 (spec_l3LastOk.l0 kq l0 x3_1=some r)∧Aside0 (kq≤k)∧Aside0 (Below w.heap.size w w'))
  case atStart=>exact ⟨(0),bZ,H',⟨Nat.le_refl _⟩,⟨pB HB.out⟩⟩
  case round =>
   clear H'
   (try clear c2);(try clear c2b0);(try clear c2b1)
   obtain ⟨x3_1,rfl,HA,HK1,HB⟩:=hrel
   cases gk with
   | zero=>exact absurd HA.out (by simp [spec_l3LastOk.l0])
   | succ k1 =>
    have H:=HA.out;clear HA;simp only [spec_l3LastOk.l0] at H
    by_cases c3:x3_1<(l0.length:Int)
    ·rw [if_pos c3] at H;have c3b0:decide (x3_1<(l0.length:Int))=true:=decide_eq_true c3;clear c3
     by_cases c4:0≤x3_1
     ·rw [if_pos c4] at H;have c4b0:decide (0≤x3_1)=true:=decide_eq_true c4;clear c4;obtain ⟨t217,A5,H⟩:=bI H;(try dsimp only at H)
      by_cases c6:t217=true
      ·subst c6;rw [if_pos rfl] at H;obtain ⟨t219,A7,H⟩:=bI H;(try dsimp only at H)
       by_cases c8:t219=true
       ·subst c8;rw [if_pos rfl] at H
        by_cases c9:x3_1 > 0
        ·rw [if_pos c9] at H;have c9b0:decide (0<x3_1)=true:=decide_eq_true c9;clear c9;obtain ⟨ji10,hji10⟩:∃ j_:Int,(wrap64 (x3_1 - 1))=j_:=⟨_,rfl⟩
         replace H:(if 0≤(ji10) then (if (ji10)<(l0.length:Int) then (if ((rd_T166 l0 (ji10)).f0) ≥ ((rd_T166 l0 x3_1).f0) then (some false) else (spec_l3LastOk.l0 k1 l0 (wrap64 (x3_1+1)))) else (none)) else (none))=some r:=by first|(rw [hji10] at H;exact H)|(simp only [hji10] at H ⊢;exact H)
         (try rw [hji10] at A5)
         (try rw [hji10] at A7)
         have hji10w:(IntKind.i64.wrap (x3_1 - 1))=ji10:=(i64_w _).trans hji10
         by_cases c11:0≤(ji10)
         ·rw [if_pos c11] at H;have c11b0:decide (0≤(ji10))=true:=decide_eq_true c11;clear c11
          by_cases c12:(ji10)<(l0.length:Int)
          ·rw [if_pos c12] at H;have c12b0:decide ((ji10)<(l0.length:Int))=true:=decide_eq_true c12;clear c12
           by_cases c13:((rd_T166 l0 (ji10)).f0) ≥ ((rd_T166 l0 x3_1).f0)
           ·rw [if_pos c13] at H;have c13b0:decide (((rd_T166 l0 x3_1).f0)≤((rd_T166 l0 (ji10)).f0))=true:=decide_eq_true c13;clear c13;obtain rfl:=Option.some.inj H
            try go_wp2
            replace HB:=mA (below_drew1 HB.out);have p216:0≤(x3_1:Int):=of_decide_eq_true bA;have q216:x3_1<(l0.length:Int):=of_decide_eq_true bA;obtain ⟨ad216,e216,hs216⟩:=at_R166 HR0.out x3_1 p216 q216;cases e216;replace p216:=eq_true p216;replace q216:=eq_true q216;have p218:0≤(x3_1:Int):=of_decide_eq_true bA;have q218:x3_1<(l0.length:Int):=of_decide_eq_true bA;obtain ⟨ad218,e218,hs218⟩:=at_R166 HR0.out x3_1 p218 q218
            obtain rfl:ad216=ad218:=(by injection e218)
            replace p218:=eq_true p218;replace q218:=eq_true q218;have p220:0≤((ji10):Int):=of_decide_eq_true bA;have q220:(ji10)<(l0.length:Int):=of_decide_eq_true bA;obtain ⟨ad220,e220,hs220⟩:=at_R166 HR0.out (ji10) p220 q220
            obtain rfl:ad216=ad220:=(by injection e220)
            replace p220:=eq_true p220;replace q220:=eq_true q220;have p221:0≤(x3_1:Int):=of_decide_eq_true bA;have q221:x3_1<(l0.length:Int):=of_decide_eq_true bA;obtain ⟨ad221,e221,hs221⟩:=at_R166 HR0.out x3_1 p221 q221
            obtain rfl:ad216=ad221:=(by injection e221)
            replace p221:=eq_true p221;replace q221:=eq_true q221
            refine start_ (n:=34) (S:=fun w'=>RS w' (ad216.add ((x3_1).toNat * 2)) (d166 (rd_T166 l0 x3_1))∧RS w' (ad216.add ((x3_1).toNat * 2)) (d166 (rd_T166 l0 x3_1))∧RS w' (ad216.add (((ji10)).toNat * 2)) (d166 (rd_T166 l0 (ji10)))∧RS w' (ad216.add ((x3_1).toNat * 2)) (d166 (rd_T166 l0 x3_1))) (ds:=[]) _ aK rfl rfl ⟨rS HB hs216,rS HB hs218,rS HB hs220,rS HB hs221⟩ (fun hHeld=>?_);refine with_tabW spec_l3LastOk.tab6 spec_l3LastOk.bits6 (fun HT_ HW_=>?_)
            generalize wr.drew=w14 at HB hHeld ⊢
            refine qu 0 ?_;refine qu 1 ?_;refine qu 2 ?_;refine qu 3 ?_;refine qt 4 ?_
            refine qo 5 ?_;intro K hK
            refine gD Try.func55 (spec_l6In.calls A5.out) ?_
            rintro e w' ⟨rfl,⟨nd,rfl⟩⟩;refine ⟨_,rfl,?_⟩;refine hK.out _ _ ⟨rS HB hs216,rS HB hs218,rS HB hs220,rS HB hs221⟩ (fun hHeld=>?_);clear hK K;refine no_ (some 18) ?_;refine qu 6 ?_;refine qu 7 ?_;refine qu 8 ?_;refine qu 9 ?_;refine qu 10 ?_;refine qu 11 ?_;refine qt 12 ?_
            refine qo 13 ?_;intro K hK
            refine gD Try.func55 (spec_l6In.calls A7.out) ?_
            rintro e w' ⟨rfl,⟨nd,rfl⟩⟩;refine ⟨_,rfl,?_⟩;refine hK.out _ _ ⟨rS HB hs216,rS HB hs218,rS HB hs220,rS HB hs221⟩ (fun hHeld=>?_);clear hK K;refine no_ (some 26) ?_;refine qu 14 ?_;refine qu 15 ?_;refine qu 16 ?_;refine qu 17 ?_;refine qu 18 ?_;refine qu 19 ?_;refine qu 20 ?_;refine qu 21 ?_;refine qu 22 ?_;refine qu 23 ?_;refine qu 24 ?_;refine qu 26 ?_;refine qu 27 ?_;refine qu 28 ?_;refine qu 29 ?_;refine qt 25 ?_;refine qt 30 ?_;refine qu 31 ?_;refine qu 32 ?_;refine qu 33 ?_;refine qe ?_
            try go_wp2
            go_ret
            exact ⟨by first|rfl|(simp [errW_none,errW_some]<;>rfl)|(simp only [← hji10];first|rfl|(simp [errW_none,errW_some]<;>rfl))|(simp [*,errW_none,errW_some]<;>rfl),pB HB.out⟩
           ·rw [if_neg c13] at H;have c13b0:decide (((rd_T166 l0 x3_1).f0)≤((rd_T166 l0 (ji10)).f0))=false:=decide_eq_false c13;clear c13;have H':=mA H;clear H
            try go_wp2
            replace HB:=mA (below_drew1 HB.out);have p216:0≤(x3_1:Int):=of_decide_eq_true bA;have q216:x3_1<(l0.length:Int):=of_decide_eq_true bA;obtain ⟨ad216,e216,hs216⟩:=at_R166 HR0.out x3_1 p216 q216;cases e216;replace p216:=eq_true p216;replace q216:=eq_true q216;have p218:0≤(x3_1:Int):=of_decide_eq_true bA;have q218:x3_1<(l0.length:Int):=of_decide_eq_true bA;obtain ⟨ad218,e218,hs218⟩:=at_R166 HR0.out x3_1 p218 q218
            obtain rfl:ad216=ad218:=(by injection e218)
            replace p218:=eq_true p218;replace q218:=eq_true q218;have p220:0≤((ji10):Int):=of_decide_eq_true bA;have q220:(ji10)<(l0.length:Int):=of_decide_eq_true bA;obtain ⟨ad220,e220,hs220⟩:=at_R166 HR0.out (ji10) p220 q220
            obtain rfl:ad216=ad220:=(by injection e220)
            replace p220:=eq_true p220;replace q220:=eq_true q220;have p221:0≤(x3_1:Int):=of_decide_eq_true bA;have q221:x3_1<(l0.length:Int):=of_decide_eq_true bA;obtain ⟨ad221,e221,hs221⟩:=at_R166 HR0.out x3_1 p221 q221
            obtain rfl:ad216=ad221:=(by injection e221)
            replace p221:=eq_true p221;replace q221:=eq_true q221
            refine start_ (n:=34) (S:=fun w'=>RS w' (ad216.add ((x3_1).toNat * 2)) (d166 (rd_T166 l0 x3_1))∧RS w' (ad216.add ((x3_1).toNat * 2)) (d166 (rd_T166 l0 x3_1))∧RS w' (ad216.add (((ji10)).toNat * 2)) (d166 (rd_T166 l0 (ji10)))∧RS w' (ad216.add ((x3_1).toNat * 2)) (d166 (rd_T166 l0 x3_1))) (ds:=[]) _ aK rfl rfl ⟨rS HB hs216,rS HB hs218,rS HB hs220,rS HB hs221⟩ (fun hHeld=>?_);refine with_tabW spec_l3LastOk.tab6 spec_l3LastOk.bits6 (fun HT_ HW_=>?_)
            generalize wr.drew=w15 at HB hHeld ⊢
            refine qu 0 ?_;refine qu 1 ?_;refine qu 2 ?_;refine qu 3 ?_;refine qt 4 ?_
            refine qo 5 ?_;intro K hK
            refine gD Try.func55 (spec_l6In.calls A5.out) ?_
            rintro e w' ⟨rfl,⟨nd,rfl⟩⟩;refine ⟨_,rfl,?_⟩;refine hK.out _ _ ⟨rS HB hs216,rS HB hs218,rS HB hs220,rS HB hs221⟩ (fun hHeld=>?_);clear hK K;refine no_ (some 18) ?_;refine qu 6 ?_;refine qu 7 ?_;refine qu 8 ?_;refine qu 9 ?_;refine qu 10 ?_;refine qu 11 ?_;refine qt 12 ?_
            refine qo 13 ?_;intro K hK
            refine gD Try.func55 (spec_l6In.calls A7.out) ?_
            rintro e w' ⟨rfl,⟨nd,rfl⟩⟩;refine ⟨_,rfl,?_⟩;refine hK.out _ _ ⟨rS HB hs216,rS HB hs218,rS HB hs220,rS HB hs221⟩ (fun hHeld=>?_);clear hK K;refine no_ (some 26) ?_;refine qu 14 ?_;refine qu 15 ?_;refine qu 16 ?_;refine qu 17 ?_;refine qu 18 ?_;refine qu 19 ?_;refine qu 20 ?_;refine qu 21 ?_;refine qu 22 ?_;refine qu 23 ?_;refine qu 24 ?_;refine qu 26 ?_;refine qu 27 ?_;refine qu 28 ?_;refine qu 29 ?_;refine qt 25 ?_;refine qt 30 ?_;refine qu 31 ?_;refine qu 32 ?_;refine qu 33 ?_;refine qe ?_
            try go_wp2
            go_roundg k1
            case measure=>have:=HK1.out;omega
            case rel=>exact ⟨(wrap64 (x3_1+1)),bZ,H',⟨by have:=HK1.out;omega⟩,⟨pB HB.out⟩⟩
          ·rw [if_neg c12] at H
           exact absurd H (by simp)
         ·rw [if_neg c11] at H
          exact absurd H (by simp)
        ·rw [if_neg c9] at H;have c9b0:decide (0<x3_1)=false:=decide_eq_false c9;clear c9;have H':=mA H;clear H
         try go_wp2
         replace HB:=mA (below_drew1 HB.out);have p216:0≤(x3_1:Int):=of_decide_eq_true bA;have q216:x3_1<(l0.length:Int):=of_decide_eq_true bA;obtain ⟨ad216,e216,hs216⟩:=at_R166 HR0.out x3_1 p216 q216;cases e216;replace p216:=eq_true p216;replace q216:=eq_true q216;have p218:0≤(x3_1:Int):=of_decide_eq_true bA;have q218:x3_1<(l0.length:Int):=of_decide_eq_true bA;obtain ⟨ad218,e218,hs218⟩:=at_R166 HR0.out x3_1 p218 q218
         obtain rfl:ad216=ad218:=(by injection e218)
         replace p218:=eq_true p218;replace q218:=eq_true q218
         refine start_ (n:=34) (S:=fun w'=>RS w' (ad216.add ((x3_1).toNat * 2)) (d166 (rd_T166 l0 x3_1))∧RS w' (ad216.add ((x3_1).toNat * 2)) (d166 (rd_T166 l0 x3_1))) (ds:=[]) _ aK rfl rfl ⟨rS HB hs216,rS HB hs218⟩ (fun hHeld=>?_);refine with_tabW spec_l3LastOk.tab6 spec_l3LastOk.bits6 (fun HT_ HW_=>?_)
         generalize wr.drew=w16 at HB hHeld ⊢
         refine qu 0 ?_;refine qu 1 ?_;refine qu 2 ?_;refine qu 3 ?_;refine qt 4 ?_
         refine qo 5 ?_;intro K hK
         refine gD Try.func55 (spec_l6In.calls A5.out) ?_
         rintro e w' ⟨rfl,⟨nd,rfl⟩⟩;refine ⟨_,rfl,?_⟩;refine hK.out _ _ ⟨rS HB hs216,rS HB hs218⟩ (fun hHeld=>?_);clear hK K;refine no_ (some 18) ?_;refine qu 6 ?_;refine qu 7 ?_;refine qu 8 ?_;refine qu 9 ?_;refine qu 10 ?_;refine qu 11 ?_;refine qt 12 ?_
         refine qo 13 ?_;intro K hK
         refine gD Try.func55 (spec_l6In.calls A7.out) ?_
         rintro e w' ⟨rfl,⟨nd,rfl⟩⟩;refine ⟨_,rfl,?_⟩;refine hK.out _ _ ⟨rS HB hs216,rS HB hs218⟩ (fun hHeld=>?_);clear hK K;refine no_ (some 26) ?_;refine qu 14 ?_;refine qu 15 ?_;refine qu 16 ?_;refine qu 17 ?_;refine qu 18 ?_;refine qu 19 ?_;refine qd 20 ?_;refine qd 21 ?_;refine qd 22 ?_;refine qd 23 ?_;refine qd 24 ?_;refine qd 25 ?_;refine qd 26 ?_;refine qd 27 ?_;refine qd 28 ?_;refine qd 29 ?_;refine qd 30 ?_;refine qd 31 ?_;refine qu 32 ?_;refine qu 33 ?_;refine qe ?_
         try go_wp2
         go_roundg k1
         case measure=>have:=HK1.out;omega
         case rel=>exact ⟨(wrap64 (x3_1+1)),bZ,H',⟨by have:=HK1.out;omega⟩,⟨pB HB.out⟩⟩
       ·replace c8:=Bool.eq_false_iff.mpr c8;subst c8
        rw [if_neg nFT] at H
        obtain rfl:=Option.some.inj H
        try go_wp2
        replace HB:=mA (below_drew1 HB.out);have p216:0≤(x3_1:Int):=of_decide_eq_true bA;have q216:x3_1<(l0.length:Int):=of_decide_eq_true bA;obtain ⟨ad216,e216,hs216⟩:=at_R166 HR0.out x3_1 p216 q216;cases e216;replace p216:=eq_true p216;replace q216:=eq_true q216;have p218:0≤(x3_1:Int):=of_decide_eq_true bA;have q218:x3_1<(l0.length:Int):=of_decide_eq_true bA;obtain ⟨ad218,e218,hs218⟩:=at_R166 HR0.out x3_1 p218 q218
        obtain rfl:ad216=ad218:=(by injection e218)
        replace p218:=eq_true p218;replace q218:=eq_true q218
        refine start_ (n:=34) (S:=fun w'=>RS w' (ad216.add ((x3_1).toNat * 2)) (d166 (rd_T166 l0 x3_1))∧RS w' (ad216.add ((x3_1).toNat * 2)) (d166 (rd_T166 l0 x3_1))) (ds:=[]) _ aK rfl rfl ⟨rS HB hs216,rS HB hs218⟩ (fun hHeld=>?_);refine with_tabW spec_l3LastOk.tab6 spec_l3LastOk.bits6 (fun HT_ HW_=>?_)
        generalize wr.drew=w17 at HB hHeld ⊢
        refine qu 0 ?_;refine qu 1 ?_;refine qu 2 ?_;refine qu 3 ?_;refine qt 4 ?_
        refine qo 5 ?_;intro K hK
        refine gD Try.func55 (spec_l6In.calls A5.out) ?_
        rintro e w' ⟨rfl,⟨nd,rfl⟩⟩;refine ⟨_,rfl,?_⟩;refine hK.out _ _ ⟨rS HB hs216,rS HB hs218⟩ (fun hHeld=>?_);clear hK K;refine no_ (some 18) ?_;refine qu 6 ?_;refine qu 7 ?_;refine qu 8 ?_;refine qu 9 ?_;refine qu 10 ?_;refine qu 11 ?_;refine qt 12 ?_
        refine qo 13 ?_;intro K hK
        refine gD Try.func55 (spec_l6In.calls A7.out) ?_
        rintro e w' ⟨rfl,⟨nd,rfl⟩⟩;refine ⟨_,rfl,?_⟩;refine hK.out _ _ ⟨rS HB hs216,rS HB hs218⟩ (fun hHeld=>?_);clear hK K;refine no_ (some 26) ?_;refine qu 14 ?_;refine qu 15 ?_;refine qu 16 ?_;refine qd 17 ?_;refine qd 18 ?_;refine qd 19 ?_;refine qd 20 ?_;refine qd 21 ?_;refine qd 22 ?_;refine qd 23 ?_;refine qd 24 ?_;refine qd 25 ?_;refine qd 26 ?_;refine qd 27 ?_;refine qd 28 ?_;refine qd 29 ?_;refine qd 30 ?_;refine qd 31 ?_;refine qd 32 ?_;refine qu 33 ?_;refine qe ?_
        try go_wp2
        go_ret
        exact rZ (pB HB.out)
      ·replace c6:=Bool.eq_false_iff.mpr c6;subst c6
       rw [if_neg nFT] at H
       obtain rfl:=Option.some.inj H
       try go_wp2
       replace HB:=mA (below_drew1 HB.out);have p216:0≤(x3_1:Int):=of_decide_eq_true bA;have q216:x3_1<(l0.length:Int):=of_decide_eq_true bA;obtain ⟨ad216,e216,hs216⟩:=at_R166 HR0.out x3_1 p216 q216;cases e216;replace p216:=eq_true p216;replace q216:=eq_true q216
       refine start_ (n:=34) (S:=fun w'=>RS w' (ad216.add ((x3_1).toNat * 2)) (d166 (rd_T166 l0 x3_1))) (ds:=[]) _ aK rfl rfl (rS HB hs216) (fun hHeld=>?_);refine with_tabW spec_l3LastOk.tab6 spec_l3LastOk.bits6 (fun HT_ HW_=>?_)
       generalize wr.drew=w18 at HB hHeld ⊢
       refine qu 0 ?_;refine qu 1 ?_;refine qu 2 ?_;refine qu 3 ?_;refine qt 4 ?_
       refine qo 5 ?_;intro K hK
       refine gD Try.func55 (spec_l6In.calls A5.out) ?_
       rintro e w' ⟨rfl,⟨nd,rfl⟩⟩;refine ⟨_,rfl,?_⟩;refine hK.out _ _ (rS HB hs216) (fun hHeld=>?_);clear hK K;refine no_ (some 18) ?_;refine qu 6 ?_;refine qu 7 ?_;refine qd 8 ?_;refine qd 9 ?_;refine qd 10 ?_;refine qd 11 ?_;refine qd 12 ?_;refine qd 13 ?_;refine qd 14 ?_;refine qu 15 ?_;refine qu 16 ?_;refine qd 17 ?_;refine qd 18 ?_;refine qd 19 ?_;refine qd 20 ?_;refine qd 21 ?_;refine qd 22 ?_;refine qd 23 ?_;refine qd 24 ?_;refine qd 25 ?_;refine qd 26 ?_;refine qd 27 ?_;refine qd 28 ?_;refine qd 29 ?_;refine qd 30 ?_;refine qd 31 ?_;refine qd 32 ?_;refine qu 33 ?_;refine qe ?_
       try go_wp2
       go_ret
       exact rZ (pB HB.out)
     ·rw [if_neg c4] at H
      exact absurd H (by simp)
    ·rw [if_neg c3] at H;have c3b0:decide (x3_1<(l0.length:Int))=false:=decide_eq_false c3;clear c3;obtain rfl:=Option.some.inj H
     go_wp2
     go_ret
     exact rZ (pB HB.out)

/-! ### spec_WordOk: function 57 -/
def spec_WordOk.l0 : Nat → List Int → Int → Int → Int → Int → Int → Int → Int → Int → Int → Int → Int → Int → Int → Int → Int → Int → Int → Int → Int → Int → Int → Int → Int → Int → Int → List (S164) → List (S166) → Option (Bool)
 | 0,_,_,_,_,_,_,_,_,_,_,_,_,_,_,_,_,_,_,_,_,_,_,_,_,_,_,_,_=>none
 | k+1,x3,x4,x223000,x223001,x223002,x223003,x223004,x223005,x223006,x223007,x223008,x223009,x223010,x223011,x223012,x223013,x223014,x223015,x223016,x223017,x223018,x223019,x223020,x223021,x223022,x223023,x223024,x223025=>if x4<(x3.length:Int) then (if 0≤x4 then ((spec_l11Num.f (rd x3 x4)).bind fun t227=>(if t227=true then (spec_WordOk.l0 k x3 (wrap64 (x4+1)) x223000 x223001 x223002 x223003 x223004 x223005 x223006 x223007 x223008 x223009 x223010 x223011 x223012 x223013 x223014 x223015 x223016 x223017 x223018 x223019 x223020 x223021 x223022 x223023 x223024 x223025) else (some false))) else (none)) else ((spec_l6In.f x223000 1 15).bind fun t228=>(if t228=true then ((spec_l11Place.f x223001).bind fun t229=>(if t229=true then ((spec_l11Place.f x223002).bind fun t230=>(if t230=true then ((spec_l11CmdOk.f x223006 x223007 x223008 x223009 x223010 x223011 x223012 x223013 x223014 x223015).bind fun t231=>(if t231=true then ((spec_BlkOk.f k x223024).bind fun t232=>(if t232=true then ((spec_l3LastOk.f k x223025).bind fun t233=>(some t233)) else (some false))) else (some false))) else (some false))) else (some false))) else (some false)))
def spec_WordOk.f (k : Nat) (a0_0 a0_1 a0_2 a0_3 a0_4 a0_5 a0_6 a0_7 a0_8 a0_9 a0_10 a0_11 a0_12 a0_13 a0_14 a0_15 a0_16 a0_17 a0_18 a0_19 a0_20 a0_21 a0_22 a0_23 : Int) (l0_24 : List (S164)) (l0_25 : List (S166)) : Option (Bool) := (spec_l11Nums.f a0_0 a0_1 a0_2 a0_3 a0_4 a0_5 a0_6 a0_7 a0_8 a0_9 a0_10 a0_11 a0_12 a0_13 a0_14 a0_15 a0_16 a0_17 a0_18 a0_19 a0_20 a0_21 a0_22 a0_23 l0_24 l0_25).bind fun t223 => (spec_WordOk.l0 k t223 0 a0_0 a0_1 a0_2 a0_3 a0_4 a0_5 a0_6 a0_7 a0_8 a0_9 a0_10 a0_11 a0_12 a0_13 a0_14 a0_15 a0_16 a0_17 a0_18 a0_19 a0_20 a0_21 a0_22 a0_23 l0_24 l0_25)
theorem spec_WordOk.mono_l : ∀ k, (∀ y0 y1 y2 y3 y4 y5 y6 y7 y8 y9 y10 y11 y12 y13 y14 y15 y16 y17 y18 y19 y20 y21 y22 y23 y24 y25 y26 y27, LeO (spec_WordOk.l0 k y0 y1 y2 y3 y4 y5 y6 y7 y8 y9 y10 y11 y12 y13 y14 y15 y16 y17 y18 y19 y20 y21 y22 y23 y24 y25 y26 y27) (spec_WordOk.l0 (k + 1) y0 y1 y2 y3 y4 y5 y6 y7 y8 y9 y10 y11 y12 y13 y14 y15 y16 y17 y18 y19 y20 y21 y22 y23 y24 y25 y26 y27))
 | 0=>fun _ _ _ _ _ _ _ _ _ _ _ _ _ _ _ _ _ _ _ _ _ _ _ _ _ _ _ _ r h=>by simp [spec_WordOk.l0] at h
 | k+1=>by
  have ih0:=spec_WordOk.mono_l k
  ·intros
   unfold spec_WordOk.l0
   repeat' first
   | (with_reducible first|apply ih0|apply spec_BlkOk.mono|apply spec_l3LastOk.mono|exact LeO.refl _|exact LeO.none _|refine LeO.ite ?_ ?_|refine LeO.bind ?_ (fun _=>?_))|exact LeO.none _|refine LeO.ite ?_ ?_|refine LeO.bind ?_ (fun _=>?_)
theorem spec_WordOk.mono : ∀ a0 a1 a2 a3 a4 a5 a6 a7 a8 a9 a10 a11 a12 a13 a14 a15 a16 a17 a18 a19 a20 a21 a22 a23 a24 a25 k, LeO (spec_WordOk.f k a0 a1 a2 a3 a4 a5 a6 a7 a8 a9 a10 a11 a12 a13 a14 a15 a16 a17 a18 a19 a20 a21 a22 a23 a24 a25) (spec_WordOk.f (k + 1) a0 a1 a2 a3 a4 a5 a6 a7 a8 a9 a10 a11 a12 a13 a14 a15 a16 a17 a18 a19 a20 a21 a22 a23 a24 a25) := by
 intro a0 a1 a2 a3 a4 a5 a6 a7 a8 a9 a10 a11 a12 a13 a14 a15 a16 a17 a18 a19 a20 a21 a22 a23 a24 a25 k;have ih0:=spec_WordOk.mono_l k
 unfold spec_WordOk.f
 repeat' first
   | (with_reducible first|apply ih0|apply spec_BlkOk.mono|apply spec_l3LastOk.mono|exact LeO.refl _|exact LeO.none _|refine LeO.ite ?_ ?_|refine LeO.bind ?_ (fun _=>?_))|exact LeO.none _|refine LeO.ite ?_ ?_|refine LeO.bind ?_ (fun _=>?_)
set_option maxHeartbeats 8000000 in
set_option maxRecDepth 100000 in
theorem spec_WordOk.calls {k : Nat} {a0_0 a0_1 a0_2 a0_3 a0_4 a0_5 a0_6 a0_7 a0_8 a0_9 a0_10 a0_11 a0_12 a0_13 a0_14 a0_15 a0_16 a0_17 a0_18 a0_19 a0_20 a0_21 a0_22 a0_23 : Int} {A0_24 : Option Addr} {c0_24 : Nat} {l0_24 : List (S164)} {A0_25 : Option Addr} {c0_25 : Nat} {l0_25 : List (S166)} {r : Bool} {w : World} (hr0_24 : Kd.C k164 w A0_24 l0_24.length l0_24) (hc0_24 : l0_24.length ≤ c0_24) (hr0_25 : Kd.C k166 w A0_25 l0_25.length l0_25) (hc0_25 : l0_25.length ≤ c0_25) (h : spec_WordOk.f k a0_0 a0_1 a0_2 a0_3 a0_4 a0_5 a0_6 a0_7 a0_8 a0_9 a0_10 a0_11 a0_12 a0_13 a0_14 a0_15 a0_16 a0_17 a0_18 a0_19 a0_20 a0_21 a0_22 a0_23 l0_24 l0_25 = some r) :
  Calls Try.prog 57 #[.agg #[.int .i64 a0_0,.int .i64 a0_1,.int .i64 a0_2,.int .i64 a0_3,.int .i64 a0_4,.int .i64 a0_5,.int .i64 a0_6,.int .i64 a0_7,.int .i64 a0_8,.int .i64 a0_9,.int .i64 a0_10,.int .i64 a0_11,.int .i64 a0_12,.int .i64 a0_13,.int .i64 a0_14,.int .i64 a0_15,.int .i64 a0_16,.int .i64 a0_17,.int .i64 a0_18,.int .i64 a0_19,.int .i64 a0_20,.int .i64 a0_21,.int .i64 a0_22,.int .i64 a0_23,.slice A0_24 l0_24.length c0_24,.slice A0_25 l0_25.length c0_25]] w fun e w'=>e=.returned (.bool r)∧Below w.heap.size w w':=by
 have hu93:=Try.underlying93;have hu44:=Try.underlying44;have HR0_24:=mA hr0_24;have HC0_24:=mA hc0_24;clear hr0_24 hc0_24;have HR0_25:=mA hr0_25;have HC0_25:=mA hc0_25;clear hr0_25 hc0_25;have HB:=mA (Below.refl w.heap.size w);have H:((spec_l11Nums.f a0_0 a0_1 a0_2 a0_3 a0_4 a0_5 a0_6 a0_7 a0_8 a0_9 a0_10 a0_11 a0_12 a0_13 a0_14 a0_15 a0_16 a0_17 a0_18 a0_19 a0_20 a0_21 a0_22 a0_23 l0_24 l0_25).bind fun t223=>(spec_WordOk.l0 k t223 0 a0_0 a0_1 a0_2 a0_3 a0_4 a0_5 a0_6 a0_7 a0_8 a0_9 a0_10 a0_11 a0_12 a0_13 a0_14 a0_15 a0_16 a0_17 a0_18 a0_19 a0_20 a0_21 a0_22 a0_23 l0_24 l0_25))=some r:=h;clear h;obtain ⟨t223,A2,H⟩:=bI H;(try dsimp only at H);have H':=mA H;clear H
 go_enter Try.func57,Try.ntmps57
 go_wp2_with (first|((with_reducible refine gLg rfl (by assumption) ?_);refine ldV ?_)|((with_reducible refine gSt rfl (by assumption) ?_);refine stV ?_)|((with_reducible refine gT 1 rfl ?_);refine bX 1 ?_;intro gb222 hg w3 hbox hb;have BK222:=mA hbox;have GW222:=gbpB HB hg;have GE222:=gbpB HB hg;replace HB:=spB HB hb;clear hb hbox hg;have hcz4_0:=fun i_=>blk_cell BK222.out i_;have hfz4_0:=fun i_=>blk_frozen BK222.out i_)|((with_reducible refine gT 6 rfl ?_);refine gC (some 6) Try.func97 (spec_l11Nums.calls (cB HR0_24 HB) HC0_24.out (cB HR0_25 HB) HC0_25.out A2.out) ?_;rintro e w5 ⟨v224,rfl,ho0,hb⟩;refine ⟨_,rfl,?_⟩;have HO225:=mA (Kd.R_lower ho0 (bpS HB));replace BK222:=bK BK222 hb;replace HB:=spS HB hb;(try clear hb);(try clear ho0)))
 go_loopg [4] k (fun kq v4 w'=>∃ (x4_1:Int),v4=.int .i64 x4_1∧Aside0 (spec_WordOk.l0 kq t223 x4_1 a0_0 a0_1 a0_2 a0_3 a0_4 a0_5 a0_6 a0_7 a0_8 a0_9 a0_10 a0_11 a0_12 a0_13 a0_14 a0_15 a0_16 a0_17 a0_18 a0_19 a0_20 a0_21 a0_22 a0_23 l0_24 l0_25=some r)∧Aside0 (kq≤k)∧Aside0 (Kd.R (Kd.int .i64) 3 w' w.heap.size (fun _=>True) v224 t223)∧Aside0 (w'.heap[gb222]?=some (.cells #[.int .i64 a0_0,.int .i64 a0_1,.int .i64 a0_2,.int .i64 a0_3,.int .i64 a0_4,.int .i64 a0_5,.int .i64 a0_6,.int .i64 a0_7,.int .i64 a0_8,.int .i64 a0_9,.int .i64 a0_10,.int .i64 a0_11,.int .i64 a0_12,.int .i64 a0_13,.int .i64 a0_14,.int .i64 a0_15,.int .i64 a0_16,.int .i64 a0_17,.int .i64 a0_18,.int .i64 a0_19,.int .i64 a0_20,.int .i64 a0_21,.int .i64 a0_22,.int .i64 a0_23,(.slice A0_24 l0_24.length c0_24),(.slice A0_25 l0_25.length c0_25)] 93 (0,0)))∧Aside0 (Below w.heap.size w w'))
 case atStart=>exact ⟨(0),bZ,H',⟨Nat.le_refl _⟩,⟨pR HO225.out⟩,⟨pK BK222.out⟩,⟨pS HB.out⟩⟩
 case round =>
  clear H'
  (try clear hcz4_0);(try clear hfz4_0)
  obtain ⟨x4_1,rfl,HA,HK1,HO_3,BK222,HB⟩:=hrel
  cases gk with
  | zero=>exact absurd HA.out (by simp [spec_WordOk.l0])
  | succ k1 =>
   have H:=HA.out;clear HA;simp only [spec_WordOk.l0] at H
   by_cases c6:x4_1<(t223.length:Int)
   ·rw [if_pos c6] at H;have c6b0:decide (x4_1<(t223.length:Int))=true:=decide_eq_true c6;clear c6
    by_cases c7:0≤x4_1
    ·rw [if_pos c7] at H;have c7b0:decide (0≤x4_1)=true:=decide_eq_true c7;clear c7;obtain ⟨t227,A8,H⟩:=bI H;(try dsimp only at H)
     by_cases c9:t227=true
     ·subst c9;rw [if_pos rfl] at H;have H':=mA H;clear H;obtain ⟨Ao10,co10,rfl⟩:=Kd.R_slice HO_3.out;have p226:0≤(x4_1:Int):=of_decide_eq_true bA;have q226:x4_1<(t223.length:Int):=of_decide_eq_true bA;obtain ⟨ad226,e226,hx226_0⟩:=Kd.at_int (Kd.R_reads' HO_3.out).2.2 x4_1 p226 q226;cases e226;replace p226:=eq_true p226;replace q226:=eq_true q226
      go_wp2_with (first|((with_reducible refine gLg rfl (by assumption) ?_);refine ldV ?_)|((with_reducible refine gSt rfl (by assumption) ?_);refine stV ?_)|((with_reducible refine gT 17 rfl ?_);refine gC (some 17) Try.func98 (spec_l11Num.calls A8.out) ?_;rintro e w' ⟨rfl,⟨nd,rfl⟩⟩;refine ⟨_,rfl,?_⟩))
      go_roundg k1
      case measure=>have:=HK1.out;omega
      case rel=>exact ⟨(wrap64 (x4_1+1)),bZ,H',⟨by have:=HK1.out;omega⟩,⟨pR HO_3.out⟩,⟨pK BK222.out⟩,⟨pS HB.out⟩⟩
     ·replace c9:=Bool.eq_false_iff.mpr c9;subst c9
      rw [if_neg nFT] at H
      obtain rfl:=Option.some.inj H;obtain ⟨Ao11,co11,rfl⟩:=Kd.R_slice HO_3.out;have p226:0≤(x4_1:Int):=of_decide_eq_true bA;have q226:x4_1<(t223.length:Int):=of_decide_eq_true bA;obtain ⟨ad226,e226,hx226_0⟩:=Kd.at_int (Kd.R_reads' HO_3.out).2.2 x4_1 p226 q226;cases e226;replace p226:=eq_true p226;replace q226:=eq_true q226
      go_wp2_with (first|((with_reducible refine gLg rfl (by assumption) ?_);refine ldV ?_)|((with_reducible refine gSt rfl (by assumption) ?_);refine stV ?_)|((with_reducible refine gT 17 rfl ?_);refine gC (some 17) Try.func98 (spec_l11Num.calls A8.out) ?_;rintro e w' ⟨rfl,⟨nd,rfl⟩⟩;refine ⟨_,rfl,?_⟩))
      go_ret
      exact rZ (pS HB.out)
    ·rw [if_neg c7] at H
     exact absurd H (by simp)
   ·rw [if_neg c6] at H;have c6b0:decide (x4_1<(t223.length:Int))=false:=decide_eq_false c6;clear c6;obtain ⟨t228,A12,H⟩:=bI H;(try dsimp only at H)
    by_cases c13:t228=true
    ·subst c13;rw [if_pos rfl] at H;obtain ⟨t229,A14,H⟩:=bI H;(try dsimp only at H)
     by_cases c15:t229=true
     ·subst c15;rw [if_pos rfl] at H;obtain ⟨t230,A16,H⟩:=bI H;(try dsimp only at H)
      by_cases c17:t230=true
      ·subst c17;rw [if_pos rfl] at H;obtain ⟨t231,A18,H⟩:=bI H;(try dsimp only at H)
       by_cases c19:t231=true
       ·subst c19;rw [if_pos rfl] at H;obtain ⟨t232,A20,H⟩:=bI H;(try dsimp only at H)
        by_cases c21:t232=true
        ·subst c21;rw [if_pos rfl] at H;obtain ⟨t233,A22,H⟩:=bI H;(try dsimp only at H);obtain rfl:=Option.some.inj H;obtain ⟨Ao23,co23,rfl⟩:=Kd.R_slice HO_3.out;have hcz24_0:=fun i_=>blk_cell BK222.out i_;have hfz24_0:=fun i_=>blk_frozen BK222.out i_
         go_wp2_with (first|((with_reducible refine gLg rfl (by assumption) ?_);refine ldV ?_)|((with_reducible refine gSt rfl (by assumption) ?_);refine stV ?_)|((with_reducible refine gT 21 rfl ?_);refine gC (some 21) Try.func55 (spec_l6In.calls A12.out) ?_;rintro e w' ⟨rfl,⟨nd,rfl⟩⟩;refine ⟨_,rfl,?_⟩)|(go_at_call 99;(with_reducible refine (spec_l11Place.calls A14.out).mono ?_);rintro e w' ⟨rfl,⟨nd,rfl⟩⟩)|(go_at_call 99;(with_reducible refine (spec_l11Place.calls A16.out).mono ?_);rintro e w' ⟨rfl,⟨nd,rfl⟩⟩)|(go_at_call 81;(with_reducible refine (spec_l11CmdOk.calls A18.out).mono ?_);rintro e w25 ⟨rfl,hb⟩;replace HO_3:=rB HO_3 hb;replace BK222:=bK BK222 hb;replace HB:=spS HB hb;(try clear hb);have hcz26_0:=fun i_=>blk_cell BK222.out i_;have hfz26_0:=fun i_=>blk_frozen BK222.out i_)|(go_at_call 100;(with_reducible refine (spec_BlkOk.calls ?s1 ?s2 A20.out).mono ?_);(case s1=>exact cB HR0_24 HB);(case s2=>exact HC0_24.out);rintro e w27 ⟨rfl,hb⟩;replace HO_3:=rB HO_3 hb;replace BK222:=bK BK222 hb;replace HB:=spS HB hb;(try clear hb);have hcz28_0:=fun i_=>blk_cell BK222.out i_;have hfz28_0:=fun i_=>blk_frozen BK222.out i_)|(go_at_call 101;(with_reducible refine (spec_l3LastOk.calls ?s1 ?s2 A22.out).mono ?_);(case s1=>exact cB HR0_25 HB);(case s2=>exact HC0_25.out);rintro e w29 ⟨rfl,hb⟩;replace HO_3:=rB HO_3 hb;replace BK222:=bK BK222 hb;replace HB:=spS HB hb;(try clear hb)))
         go_ret
         exact rZ (pS HB.out)
        ·replace c21:=Bool.eq_false_iff.mpr c21;subst c21
         rw [if_neg nFT] at H
         obtain rfl:=Option.some.inj H;obtain ⟨Ao30,co30,rfl⟩:=Kd.R_slice HO_3.out;have hcz31_0:=fun i_=>blk_cell BK222.out i_;have hfz31_0:=fun i_=>blk_frozen BK222.out i_
         go_wp2_with (first|((with_reducible refine gLg rfl (by assumption) ?_);refine ldV ?_)|((with_reducible refine gSt rfl (by assumption) ?_);refine stV ?_)|((with_reducible refine gT 21 rfl ?_);refine gC (some 21) Try.func55 (spec_l6In.calls A12.out) ?_;rintro e w' ⟨rfl,⟨nd,rfl⟩⟩;refine ⟨_,rfl,?_⟩)|(go_at_call 99;(with_reducible refine (spec_l11Place.calls A14.out).mono ?_);rintro e w' ⟨rfl,⟨nd,rfl⟩⟩)|(go_at_call 99;(with_reducible refine (spec_l11Place.calls A16.out).mono ?_);rintro e w' ⟨rfl,⟨nd,rfl⟩⟩)|(go_at_call 81;(with_reducible refine (spec_l11CmdOk.calls A18.out).mono ?_);rintro e w32 ⟨rfl,hb⟩;replace HO_3:=rB HO_3 hb;replace BK222:=bK BK222 hb;replace HB:=spS HB hb;(try clear hb);have hcz33_0:=fun i_=>blk_cell BK222.out i_;have hfz33_0:=fun i_=>blk_frozen BK222.out i_)|(go_at_call 100;(with_reducible refine (spec_BlkOk.calls ?s1 ?s2 A20.out).mono ?_);(case s1=>exact cB HR0_24 HB);(case s2=>exact HC0_24.out);rintro e w34 ⟨rfl,hb⟩;replace HO_3:=rB HO_3 hb;replace BK222:=bK BK222 hb;replace HB:=spS HB hb;(try clear hb)))
         go_ret
         exact rZ (pS HB.out)
       ·replace c19:=Bool.eq_false_iff.mpr c19;subst c19
        rw [if_neg nFT] at H
        obtain rfl:=Option.some.inj H;obtain ⟨Ao35,co35,rfl⟩:=Kd.R_slice HO_3.out;have hcz36_0:=fun i_=>blk_cell BK222.out i_;have hfz36_0:=fun i_=>blk_frozen BK222.out i_
        go_wp2_with (first|((with_reducible refine gLg rfl (by assumption) ?_);refine ldV ?_)|((with_reducible refine gSt rfl (by assumption) ?_);refine stV ?_)|((with_reducible refine gT 21 rfl ?_);refine gC (some 21) Try.func55 (spec_l6In.calls A12.out) ?_;rintro e w' ⟨rfl,⟨nd,rfl⟩⟩;refine ⟨_,rfl,?_⟩)|(go_at_call 99;(with_reducible refine (spec_l11Place.calls A14.out).mono ?_);rintro e w' ⟨rfl,⟨nd,rfl⟩⟩)|(go_at_call 99;(with_reducible refine (spec_l11Place.calls A16.out).mono ?_);rintro e w' ⟨rfl,⟨nd,rfl⟩⟩)|(go_at_call 81;(with_reducible refine (spec_l11CmdOk.calls A18.out).mono ?_);rintro e w37 ⟨rfl,hb⟩;replace HO_3:=rB HO_3 hb;replace BK222:=bK BK222 hb;replace HB:=spS HB hb;(try clear hb)))
        go_ret
        exact rZ (pS HB.out)
      ·replace c17:=Bool.eq_false_iff.mpr c17;subst c17
       rw [if_neg nFT] at H
       obtain rfl:=Option.some.inj H;obtain ⟨Ao38,co38,rfl⟩:=Kd.R_slice HO_3.out;have hcz39_0:=fun i_=>blk_cell BK222.out i_;have hfz39_0:=fun i_=>blk_frozen BK222.out i_
       go_wp2_with (first|((with_reducible refine gLg rfl (by assumption) ?_);refine ldV ?_)|((with_reducible refine gSt rfl (by assumption) ?_);refine stV ?_)|((with_reducible refine gT 21 rfl ?_);refine gC (some 21) Try.func55 (spec_l6In.calls A12.out) ?_;rintro e w' ⟨rfl,⟨nd,rfl⟩⟩;refine ⟨_,rfl,?_⟩)|(go_at_call 99;(with_reducible refine (spec_l11Place.calls A14.out).mono ?_);rintro e w' ⟨rfl,⟨nd,rfl⟩⟩)|(go_at_call 99;(with_reducible refine (spec_l11Place.calls A16.out).mono ?_);rintro e w' ⟨rfl,⟨nd,rfl⟩⟩))
       go_ret
       exact rZ (pS HB.out)
     ·replace c15:=Bool.eq_false_iff.mpr c15;subst c15
      rw [if_neg nFT] at H
      obtain rfl:=Option.some.inj H;obtain ⟨Ao40,co40,rfl⟩:=Kd.R_slice HO_3.out;have hcz41_0:=fun i_=>blk_cell BK222.out i_;have hfz41_0:=fun i_=>blk_frozen BK222.out i_
      go_wp2_with (first|((with_reducible refine gLg rfl (by assumption) ?_);refine ldV ?_)|((with_reducible refine gSt rfl (by assumption) ?_);refine stV ?_)|((with_reducible refine gT 21 rfl ?_);refine gC (some 21) Try.func55 (spec_l6In.calls A12.out) ?_;rintro e w' ⟨rfl,⟨nd,rfl⟩⟩;refine ⟨_,rfl,?_⟩)|(go_at_call 99;(with_reducible refine (spec_l11Place.calls A14.out).mono ?_);rintro e w' ⟨rfl,⟨nd,rfl⟩⟩))
      go_ret
      exact rZ (pS HB.out)
    ·replace c13:=Bool.eq_false_iff.mpr c13;subst c13
     rw [if_neg nFT] at H
     obtain rfl:=Option.some.inj H;obtain ⟨Ao42,co42,rfl⟩:=Kd.R_slice HO_3.out;have hcz43_0:=fun i_=>blk_cell BK222.out i_;have hfz43_0:=fun i_=>blk_frozen BK222.out i_
     go_wp2_with (first|((with_reducible refine gLg rfl (by assumption) ?_);refine ldV ?_)|((with_reducible refine gSt rfl (by assumption) ?_);refine stV ?_)|((with_reducible refine gT 21 rfl ?_);refine gC (some 21) Try.func55 (spec_l6In.calls A12.out) ?_;rintro e w' ⟨rfl,⟨nd,rfl⟩⟩;refine ⟨_,rfl,?_⟩))
     go_ret
     exact rZ (pS HB.out)

/-! ### spec_SynCouncilOk: function 16 -/
mutual
def spec_SynCouncilOk.j0 : Nat → Bool → List (S84) → List Int → List (S88) → List (S93) → List (S53) → Option (Bool)
 | 0,_,_,_,_,_,_=>none
 | k+1,x33,x235000,x235001,x235002,x235003,x235004=>if x33=true then (some false) else (spec_SynCouncilOk.l0 k 0 x235000 x235001 x235002 x235003 x235004)
def spec_SynCouncilOk.l0 : Nat → Int → List (S84) → List Int → List (S88) → List (S93) → List (S53) → Option (Bool)
 | 0,_,_,_,_,_,_=>none
 | k+1,x3,x235000,x235001,x235002,x235003,x235004=>if x3<3 then (if 0≤x3 then (if x3<(x235000.length:Int) then ((spec_SynVoterOk.f k ((rd_T84 x235000 x3).f0) ((rd_T84 x235000 x3).f1)).bind fun t236=>(if t236=true then (if x3<(x235001.length:Int) then ((spec_l6In.f (rd x235001 x3) 0 12498).bind fun t238=>(if t238=true then (if x3<(x235002.length:Int) then ((spec_SynSeekerOk.f k ((rd_T88 x235002 x3).f0) ((rd_T88 x235002 x3).f1) ((rd_T88 x235002 x3).f2) ((rd_T88 x235002 x3).f3.f0) ((rd_T88 x235002 x3).f3.f1) ((rd_T88 x235002 x3).f3.f2) ((rd_T88 x235002 x3).f3.f3) ((rd_T88 x235002 x3).f3.f4) ((rd_T88 x235002 x3).f3.f5) ((rd_T88 x235002 x3).f3.f6) ((rd_T88 x235002 x3).f3.f7) ((rd_T88 x235002 x3).f3.f8) ((rd_T88 x235002 x3).f3.f9) ((rd_T88 x235002 x3).f4.f0) ((rd_T88 x235002 x3).f4.f1) ((rd_T88 x235002 x3).f4.f2.f0) ((rd_T88 x235002 x3).f4.f2.f1) ((rd_T88 x235002 x3).f4.f2.f2) ((rd_T88 x235002 x3).f4.f2.f3) ((rd_T88 x235002 x3).f4.f2.f4) ((rd_T88 x235002 x3).f4.f2.f5) ((rd_T88 x235002 x3).f4.f2.f6) ((rd_T88 x235002 x3).f4.f2.f7) ((rd_T88 x235002 x3).f4.f2.f8) ((rd_T88 x235002 x3).f4.f2.f9) ((rd_T88 x235002 x3).f5)).bind fun t240=>(if t240=true then (spec_SynCouncilOk.l0 k (wrap64 (x3+1)) x235000 x235001 x235002 x235003 x235004) else (some false))) else (none)) else (some false))) else (none)) else (some false))) else (none)) else (none)) else (spec_SynCouncilOk.l1 k 0 x235000 x235001 x235002 x235003 x235004)
def spec_SynCouncilOk.l1 : Nat → Int → List (S84) → List Int → List (S88) → List (S93) → List (S53) → Option (Bool)
 | 0,_,_,_,_,_,_=>none
 | k+1,x4,x235000,x235001,x235002,x235003,x235004=>if x4<(x235003.length:Int) then (if 0≤x4 then ((spec_WordOk.f k ((rd_T93 x235003 x4).f0) ((rd_T93 x235003 x4).f1) ((rd_T93 x235003 x4).f2) ((rd_T93 x235003 x4).f3) ((rd_T93 x235003 x4).f4) ((rd_T93 x235003 x4).f5) ((rd_T93 x235003 x4).f6.f0) ((rd_T93 x235003 x4).f6.f1) ((rd_T93 x235003 x4).f6.f2) ((rd_T93 x235003 x4).f6.f3) ((rd_T93 x235003 x4).f6.f4) ((rd_T93 x235003 x4).f6.f5) ((rd_T93 x235003 x4).f6.f6) ((rd_T93 x235003 x4).f6.f7) ((rd_T93 x235003 x4).f6.f8) ((rd_T93 x235003 x4).f6.f9) ((rd_T93 x235003 x4).f7) ((rd_T93 x235003 x4).f8) ((rd_T93 x235003 x4).f9) ((rd_T93 x235003 x4).f10) ((rd_T93 x235003 x4).f11) ((rd_T93 x235003 x4).f12) ((rd_T93 x235003 x4).f13) ((rd_T93 x235003 x4).f14) ((rd_T93 x235003 x4).f15) ((rd_T93 x235003 x4).f16)).bind fun t242=>(if t242=true then (spec_SynCouncilOk.l1 k (wrap64 (x4+1)) x235000 x235001 x235002 x235003 x235004) else (some false))) else (none)) else (spec_SynCouncilOk.l2 k 0 x235000 x235001 x235002 x235003 x235004)
def spec_SynCouncilOk.l2 : Nat → Int → List (S84) → List Int → List (S88) → List (S93) → List (S53) → Option (Bool)
 | 0,_,_,_,_,_,_=>none
 | k+1,x5,x235000,x235001,x235002,x235003,x235004=>if x5<(x235004.length:Int) then (if 0≤x5 then ((spec_l21PaperOk.f ((rd_T53 x235004 x5).f0) ((rd_T53 x235004 x5).f1) ((rd_T53 x235004 x5).f2.f0) ((rd_T53 x235004 x5).f2.f1) ((rd_T53 x235004 x5).f2.f2) ((rd_T53 x235004 x5).f2.f3) ((rd_T53 x235004 x5).f2.f4) ((rd_T53 x235004 x5).f2.f5) ((rd_T53 x235004 x5).f2.f6) ((rd_T53 x235004 x5).f2.f7) ((rd_T53 x235004 x5).f2.f8) ((rd_T53 x235004 x5).f2.f9)).bind fun t244=>(if t244=true then (spec_SynCouncilOk.l2 k (wrap64 (x5+1)) x235000 x235001 x235002 x235003 x235004) else (some false))) else (none)) else (some true)
end
def spec_SynCouncilOk.f (k : Nat) (l0_0 : List (S84)) (l0_1 : List Int) (l0_2 : List (S88)) (l0_3 : List (S93)) (l0_4 : List (S53)) : Option (Bool) := if (l0_0.length : Int) = 3 then (if (l0_1.length : Int) = 3 then (if (l0_2.length : Int) = 3 then (if (l0_3.length : Int) > 60 then (spec_SynCouncilOk.j0 k true l0_0 l0_1 l0_2 l0_3 l0_4) else (spec_SynCouncilOk.j0 k (decide ((l0_4.length : Int) > 240)) l0_0 l0_1 l0_2 l0_3 l0_4)) else (spec_SynCouncilOk.j0 k true l0_0 l0_1 l0_2 l0_3 l0_4)) else (spec_SynCouncilOk.j0 k true l0_0 l0_1 l0_2 l0_3 l0_4)) else (spec_SynCouncilOk.j0 k true l0_0 l0_1 l0_2 l0_3 l0_4)
theorem spec_SynCouncilOk.mono_l : ∀ k, (∀ y0 y1 y2 y3 y4 y5, LeO (spec_SynCouncilOk.j0 k y0 y1 y2 y3 y4 y5) (spec_SynCouncilOk.j0 (k + 1) y0 y1 y2 y3 y4 y5)) ∧ (∀ y0 y1 y2 y3 y4 y5, LeO (spec_SynCouncilOk.l0 k y0 y1 y2 y3 y4 y5) (spec_SynCouncilOk.l0 (k + 1) y0 y1 y2 y3 y4 y5)) ∧ (∀ y0 y1 y2 y3 y4 y5, LeO (spec_SynCouncilOk.l1 k y0 y1 y2 y3 y4 y5) (spec_SynCouncilOk.l1 (k + 1) y0 y1 y2 y3 y4 y5)) ∧ (∀ y0 y1 y2 y3 y4 y5, LeO (spec_SynCouncilOk.l2 k y0 y1 y2 y3 y4 y5) (spec_SynCouncilOk.l2 (k + 1) y0 y1 y2 y3 y4 y5))
 | 0=>⟨fun _ _ _ _ _ _ r h=>by simp [spec_SynCouncilOk.j0] at h,fun _ _ _ _ _ _ r h=>by simp [spec_SynCouncilOk.l0] at h,fun _ _ _ _ _ _ r h=>by simp [spec_SynCouncilOk.l1] at h,fun _ _ _ _ _ _ r h=>by simp [spec_SynCouncilOk.l2] at h⟩
 | k+1=>by
  obtain ⟨ih0,ih1,ih2,ih3⟩:=spec_SynCouncilOk.mono_l k;refine ⟨?_,?_,?_,?_⟩
  ·intros
   unfold spec_SynCouncilOk.j0
   repeat' first
   | (with_reducible first|apply ih0|apply ih1|apply ih2|apply ih3|apply spec_SynSeekerOk.mono|apply spec_SynVoterOk.mono|apply spec_WordOk.mono|exact LeO.refl _|exact LeO.none _|refine LeO.ite ?_ ?_|refine LeO.bind ?_ (fun _=>?_))|exact LeO.none _|refine LeO.ite ?_ ?_|refine LeO.bind ?_ (fun _=>?_)
  ·intros
   unfold spec_SynCouncilOk.l0
   repeat' first
   | (with_reducible first|apply ih0|apply ih1|apply ih2|apply ih3|apply spec_SynSeekerOk.mono|apply spec_SynVoterOk.mono|apply spec_WordOk.mono|exact LeO.refl _|exact LeO.none _|refine LeO.ite ?_ ?_|refine LeO.bind ?_ (fun _=>?_))|exact LeO.none _|refine LeO.ite ?_ ?_|refine LeO.bind ?_ (fun _=>?_)
  ·intros
   unfold spec_SynCouncilOk.l1
   repeat' first
   | (with_reducible first|apply ih0|apply ih1|apply ih2|apply ih3|apply spec_SynSeekerOk.mono|apply spec_SynVoterOk.mono|apply spec_WordOk.mono|exact LeO.refl _|exact LeO.none _|refine LeO.ite ?_ ?_|refine LeO.bind ?_ (fun _=>?_))|exact LeO.none _|refine LeO.ite ?_ ?_|refine LeO.bind ?_ (fun _=>?_)
  ·intros
   unfold spec_SynCouncilOk.l2
   repeat' first
   | (with_reducible first|apply ih0|apply ih1|apply ih2|apply ih3|apply spec_SynSeekerOk.mono|apply spec_SynVoterOk.mono|apply spec_WordOk.mono|exact LeO.refl _|exact LeO.none _|refine LeO.ite ?_ ?_|refine LeO.bind ?_ (fun _=>?_))|exact LeO.none _|refine LeO.ite ?_ ?_|refine LeO.bind ?_ (fun _=>?_)
theorem spec_SynCouncilOk.mono : ∀ a0 a1 a2 a3 a4 k, LeO (spec_SynCouncilOk.f k a0 a1 a2 a3 a4) (spec_SynCouncilOk.f (k + 1) a0 a1 a2 a3 a4) := by
 intro a0 a1 a2 a3 a4 k;obtain ⟨ih0,ih1,ih2,ih3⟩:=spec_SynCouncilOk.mono_l k
 unfold spec_SynCouncilOk.f
 repeat' first
   | (with_reducible first|apply ih0|apply ih1|apply ih2|apply ih3|apply spec_SynSeekerOk.mono|apply spec_SynVoterOk.mono|apply spec_WordOk.mono|exact LeO.refl _|exact LeO.none _|refine LeO.ite ?_ ?_|refine LeO.bind ?_ (fun _=>?_))|exact LeO.none _|refine LeO.ite ?_ ?_|refine LeO.bind ?_ (fun _=>?_)
set_option maxHeartbeats 8000000 in
set_option maxRecDepth 100000 in
theorem spec_SynCouncilOk.calls {k : Nat} {A0_0 : Option Addr} {c0_0 : Nat} {l0_0 : List (S84)} {A0_1 : Option Addr} {c0_1 : Nat} {l0_1 : List Int} {A0_2 : Option Addr} {c0_2 : Nat} {l0_2 : List (S88)} {A0_3 : Option Addr} {c0_3 : Nat} {l0_3 : List (S93)} {A0_4 : Option Addr} {c0_4 : Nat} {l0_4 : List (S53)} {r : Bool} {w : World} (hr0_0 : Kd.C k84 w A0_0 l0_0.length l0_0) (hc0_0 : l0_0.length ≤ c0_0) (hr0_1 : Kd.C (Kd.int .i64) w A0_1 l0_1.length l0_1) (hc0_1 : l0_1.length ≤ c0_1) (hr0_2 : Kd.C k88 w A0_2 l0_2.length l0_2) (hc0_2 : l0_2.length ≤ c0_2) (hr0_3 : Kd.C k93 w A0_3 l0_3.length l0_3) (hc0_3 : l0_3.length ≤ c0_3) (hr0_4 : Kd.C k53 w A0_4 l0_4.length l0_4) (hc0_4 : l0_4.length ≤ c0_4) (h : spec_SynCouncilOk.f k l0_0 l0_1 l0_2 l0_3 l0_4 = some r) :
  Calls Try.prog 16 #[.agg #[.slice A0_0 l0_0.length c0_0,.slice A0_1 l0_1.length c0_1,.slice A0_2 l0_2.length c0_2,.slice A0_3 l0_3.length c0_3,.slice A0_4 l0_4.length c0_4]] w fun e w'=>e=.returned (.bool r)∧Below w.heap.size w w':=by
 have hu28:=Try.underlying28;have hu84:=Try.underlying84;have hu88:=Try.underlying88;have hu93:=Try.underlying93;have hu53:=Try.underlying53;have HR0_0:=mA hr0_0;have HC0_0:=mA hc0_0;clear hr0_0 hc0_0;have HR0_1:=mA hr0_1;have HC0_1:=mA hc0_1;clear hr0_1 hc0_1;have HR0_2:=mA hr0_2;have HC0_2:=mA hc0_2;clear hr0_2 hc0_2;have HR0_3:=mA hr0_3;have HC0_3:=mA hc0_3;clear hr0_3 hc0_3;have HR0_4:=mA hr0_4;have HC0_4:=mA hc0_4;clear hr0_4 hc0_4;have HB:=mA (Below.refl w.heap.size w);have H:(if (l0_0.length:Int)=3 then (if (l0_1.length:Int)=3 then (if (l0_2.length:Int)=3 then (if (l0_3.length:Int) > 60 then (spec_SynCouncilOk.j0 k true l0_0 l0_1 l0_2 l0_3 l0_4) else (spec_SynCouncilOk.j0 k (decide ((l0_4.length:Int) > 240)) l0_0 l0_1 l0_2 l0_3 l0_4)) else (spec_SynCouncilOk.j0 k true l0_0 l0_1 l0_2 l0_3 l0_4)) else (spec_SynCouncilOk.j0 k true l0_0 l0_1 l0_2 l0_3 l0_4)) else (spec_SynCouncilOk.j0 k true l0_0 l0_1 l0_2 l0_3 l0_4))=some r:=h;clear h;have HC2:=mA H;clear H
 go_enter Try.func16,Try.ntmps16
 go_upto_region 1 with (first|((with_reducible refine gLg rfl (by assumption) ?_);first|refine ldW ?_|refine ldX ?_)|((with_reducible refine gT 1 rfl ?_);(try (refine gate_guard (by rfl) ?_;dsimp only));refine bX 1 ?_;intro gb234 hg w3 hbox hb;have BK234:=mA hbox;have GW234:=gbpB HB hg;have GE234:=gbpB HB hg;replace HB:=spB HB hb;clear hb hbox hg))
 (try simp only [Act.put,List.setIfInBounds_toArray,List.set_cons_zero,List.set_cons_succ])
 go_cut [33] (fun v33 wc=>∃ (kq:Nat) (x33_1:Bool),v33=.bool x33_1∧Aside0 (spec_SynCouncilOk.j0 kq x33_1 l0_0 l0_1 l0_2 l0_3 l0_4=some r)∧Aside0 (kq≤k)∧Aside0 (wc.heap[gb234]?=some (.cells #[(.slice A0_0 l0_0.length c0_0),(.slice A0_1 l0_1.length c0_1),(.slice A0_2 l0_2.length c0_2),(.slice A0_3 l0_3.length c0_3),(.slice A0_4 l0_4.length c0_4)] 28 (0,0)))∧Aside0 (Below w.heap.size w wc))
 case first =>
  have H:=HC2.out;clear HC2
  by_cases c4:(l0_0.length:Int)=3
  ·rw [if_pos c4] at H;obtain ⟨c4b0,c4b1⟩:=eqB c4;clear c4
   (first|rw [c4b0]|(simp only [i64_w,i32_w];rw [c4b0])|skip)
   by_cases c5:(l0_1.length:Int)=3
   ·rw [if_pos c5] at H;obtain ⟨c5b0,c5b1⟩:=eqB c5;clear c5
    by_cases c6:(l0_2.length:Int)=3
    ·rw [if_pos c6] at H;obtain ⟨c6b0,c6b1⟩:=eqB c6;clear c6
     by_cases c7:(l0_3.length:Int) > 60
     ·rw [if_pos c7] at H;have c7b0:decide (60<(l0_3.length:Int))=true:=decide_eq_true c7
      have c7b1:decide (60<l0_3.length)=true:=decide_eq_true (by omega)
      clear c7;have H':=mA H;clear H;obtain ⟨hcz8_0,hcz8_1,hcz8_2,hcz8_3,hcz8_4,hfz8_0,hfz8_1,hfz8_2,hfz8_3,hfz8_4⟩:=box5 BK234.out
      go_wp2_with (first|((with_reducible refine gLg rfl (by assumption) ?_);first|refine ldW ?_|refine ldX ?_))
      go_meet
      case rel=>exact ⟨_,(true),bZ,H',⟨by first|omega|exact Nat.le_refl _⟩,⟨pK BK234.out⟩,⟨pS HB.out⟩⟩
     ·rw [if_neg c7] at H;have c7b0:decide (60<(l0_3.length:Int))=false:=decide_eq_false c7
      have c7b1:decide (60<l0_3.length)=false:=decide_eq_false (by omega)
      clear c7;have H':=mA H;clear H;obtain ⟨hcz9_0,hcz9_1,hcz9_2,hcz9_3,hcz9_4,hfz9_0,hfz9_1,hfz9_2,hfz9_3,hfz9_4⟩:=box5 BK234.out
      go_wp2_with (first|((with_reducible refine gLg rfl (by assumption) ?_);first|refine ldW ?_|refine ldX ?_))
      go_meet
      case rel=>exact ⟨_,(decide ((l0_4.length:Int) > 240)),bZ,H',⟨by first|omega|exact Nat.le_refl _⟩,⟨pK BK234.out⟩,⟨pS HB.out⟩⟩
    ·rw [if_neg c6] at H;have c6b0:((l0_2.length:Int) == 3)=false:=beq_eq_false_iff_ne.mpr c6;have c6b1:((l0_2.length:Int) != 3)=true:=bne_iff_ne.mpr c6;have H':=mA H;clear H;obtain ⟨hcz10_0,hcz10_1,hcz10_2,hcz10_3,hcz10_4,hfz10_0,hfz10_1,hfz10_2,hfz10_3,hfz10_4⟩:=box5 BK234.out
     go_wp2_with (first|((with_reducible refine gLg rfl (by assumption) ?_);first|refine ldW ?_|refine ldX ?_))
     go_meet
     case rel=>exact ⟨_,(true),bZ,H',⟨by first|omega|exact Nat.le_refl _⟩,⟨pK BK234.out⟩,⟨pS HB.out⟩⟩
   ·rw [if_neg c5] at H;have c5b0:((l0_1.length:Int) == 3)=false:=beq_eq_false_iff_ne.mpr c5;have c5b1:((l0_1.length:Int) != 3)=true:=bne_iff_ne.mpr c5;have H':=mA H;clear H;obtain ⟨hcz11_0,hcz11_1,hcz11_2,hcz11_3,hcz11_4,hfz11_0,hfz11_1,hfz11_2,hfz11_3,hfz11_4⟩:=box5 BK234.out
    go_wp2_with (first|((with_reducible refine gLg rfl (by assumption) ?_);first|refine ldW ?_|refine ldX ?_))
    go_meet
    case rel=>exact ⟨_,(true),bZ,H',⟨by first|omega|exact Nat.le_refl _⟩,⟨pK BK234.out⟩,⟨pS HB.out⟩⟩
  ·rw [if_neg c4] at H;have c4b0:((l0_0.length:Int) == 3)=false:=beq_eq_false_iff_ne.mpr c4;have c4b1:((l0_0.length:Int) != 3)=true:=bne_iff_ne.mpr c4
   (first|rw [c4b0]|(simp only [i64_w,i32_w];rw [c4b0])|skip)
   have H':=mA H;clear H;obtain ⟨hcz12_0,hcz12_1,hcz12_2,hcz12_3,hcz12_4,hfz12_0,hfz12_1,hfz12_2,hfz12_3,hfz12_4⟩:=box5 BK234.out
   go_wp2_with (first|((with_reducible refine gLg rfl (by assumption) ?_);first|refine ldW ?_|refine ldX ?_))
   go_meet
   case rel=>exact ⟨_,(true),bZ,H',⟨by first|omega|exact Nat.le_refl _⟩,⟨pK BK234.out⟩,⟨pS HB.out⟩⟩
 case rest =>
  clear HC2
  obtain ⟨kq,x33_1,rfl,HA,HJ1,BK234,HB⟩:=hcut
  cases kq with
  | zero=>exact absurd HA.out (by simp [spec_SynCouncilOk.j0])
  | succ kj1 =>
   have H:=HA.out;clear HA;simp only [spec_SynCouncilOk.j0] at H
   by_cases c13:x33_1=true
   ·subst c13;rw [if_pos rfl] at H;obtain rfl:=Option.some.inj H
    go_wp2_with (first|((with_reducible refine gLg rfl (by assumption) ?_);first|refine ldW ?_|refine ldX ?_))
    go_ret
    exact rZ (pS HB.out)
   ·replace c13:=Bool.eq_false_iff.mpr c13;subst c13
    rw [if_neg nFT] at H
    have H':=mA H;clear H
    go_wp2_with (first|((with_reducible refine gLg rfl (by assumption) ?_);first|refine ldW ?_|refine ldX ?_))
    go_loopg [3] kj1 (fun kq v3 w'=>∃ (x3_2:Int),v3=.int .i64 x3_2∧Aside0 (spec_SynCouncilOk.l0 kq x3_2 l0_0 l0_1 l0_2 l0_3 l0_4=some r)∧Aside0 (kq≤kj1)∧Aside0 (w'.heap[gb234]?=some (.cells #[(.slice A0_0 l0_0.length c0_0),(.slice A0_1 l0_1.length c0_1),(.slice A0_2 l0_2.length c0_2),(.slice A0_3 l0_3.length c0_3),(.slice A0_4 l0_4.length c0_4)] 28 (0,0)))∧Aside0 (Below w.heap.size w w'))
    case atStart=>exact ⟨(0),bZ,H',⟨Nat.le_refl _⟩,⟨pK BK234.out⟩,⟨pS HB.out⟩⟩
    case round =>
     clear H'
     (try clear c13)
     obtain ⟨x3_2,rfl,HA,HK2,BK234,HB⟩:=hrel
     cases gk with
     | zero=>exact absurd HA.out (by simp [spec_SynCouncilOk.l0])
     | succ k2 =>
      have H:=HA.out;clear HA;simp only [spec_SynCouncilOk.l0] at H
      by_cases c14:x3_2<3
      ·rw [if_pos c14] at H;have c14b0:decide (x3_2<3)=true:=decide_eq_true c14;clear c14
       by_cases c15:0≤x3_2
       ·rw [if_pos c15] at H;have c15b0:decide (0≤x3_2)=true:=decide_eq_true c15;clear c15
        by_cases c16:x3_2<(l0_0.length:Int)
        ·rw [if_pos c16] at H;have c16b0:decide (x3_2<(l0_0.length:Int))=true:=decide_eq_true c16;clear c16;obtain ⟨t236,A17,H⟩:=bI H;(try dsimp only at H)
         by_cases c18:t236=true
         ·subst c18;rw [if_pos rfl] at H
          by_cases c19:x3_2<(l0_1.length:Int)
          ·rw [if_pos c19] at H;have c19b0:decide (x3_2<(l0_1.length:Int))=true:=decide_eq_true c19;clear c19;obtain ⟨t238,A20,H⟩:=bI H;(try dsimp only at H)
           by_cases c21:t238=true
           ·subst c21;rw [if_pos rfl] at H
            by_cases c22:x3_2<(l0_2.length:Int)
            ·rw [if_pos c22] at H;have c22b0:decide (x3_2<(l0_2.length:Int))=true:=decide_eq_true c22;clear c22;obtain ⟨t240,A23,H⟩:=bI H;(try dsimp only at H)
             by_cases c24:t240=true
             ·subst c24;rw [if_pos rfl] at H;have H':=mA H;clear H;obtain ⟨hcz25_0,hcz25_1,hcz25_2,hcz25_3,hcz25_4,hfz25_0,hfz25_1,hfz25_2,hfz25_3,hfz25_4⟩:=box5 BK234.out;have p235:0≤(x3_2:Int):=of_decide_eq_true bA;have q235:x3_2<(l0_0.length:Int):=of_decide_eq_true bA;obtain ⟨ad235,A235_1,c235_1,e235,hx235_0,hx235_1,hl235_1,hi235_1⟩:=at_T84 HR0_0.out x3_2 p235 q235;cases e235;replace hx235_0:=hC HB hx235_0;replace hx235_1:=hC HB hx235_1;have HR235_1:=mA hi235_1;have HC235_1:=mA hl235_1;clear hi235_1 hl235_1;replace p235:=eq_true p235;replace q235:=eq_true q235
              go_wp2_with (first|((with_reducible refine gLg rfl (by assumption) ?_);first|refine ldW ?_|refine ldX ?_)|((with_reducible refine gT 43 rfl ?_);refine gC (some 43) Try.func54 (spec_SynVoterOk.calls (cB HR235_1 HB) HC235_1.out A17.out) ?_;rintro e w26 ⟨rfl,hb⟩;refine ⟨_,rfl,?_⟩;replace BK234:=bK BK234 hb;replace HB:=spS HB hb;(try clear hb);obtain ⟨hcz27_0,hcz27_1,hcz27_2,hcz27_3,hcz27_4,hfz27_0,hfz27_1,hfz27_2,hfz27_3,hfz27_4⟩:=box5 BK234.out;have p237:0≤(x3_2:Int):=of_decide_eq_true bA;have q237:x3_2<(l0_1.length:Int):=of_decide_eq_true bA;obtain ⟨ad237,e237,hx237_0⟩:=Kd.at_int HR0_1.out x3_2 p237 q237;cases e237;replace hx237_0:=hC HB hx237_0;replace p237:=eq_true p237;replace q237:=eq_true q237)|(go_at_call 55;(with_reducible refine (spec_l6In.calls A20.out).mono ?_);rintro e w' ⟨rfl,⟨nd,rfl⟩⟩;have p239:0≤(x3_2:Int):=of_decide_eq_true bA;have q239:x3_2<(l0_2.length:Int):=of_decide_eq_true bA;obtain ⟨ad239,A239_25,c239_25,e239,hs239,hl239_25,hi239_25⟩:=at_R88 HR0_2.out x3_2 p239 q239;have hx239_0:=RS.hd hs239 rfl;cases e239;replace hx239_0:=hC HB hx239_0;replace hs239:=rS HB hs239;have HR239_25:=mA hi239_25;have HC239_25:=mA hl239_25;clear hi239_25 hl239_25;replace p239:=eq_true p239;replace q239:=eq_true q239)|(go_at_call 56;(with_reducible refine (spec_SynSeekerOk.calls ?s1 ?s2 A23.out).mono ?_);(case s1=>exact pC (Kd.C_below HR239_25.out (pS HB.out)));(case s2=>exact HC239_25.out);rintro e w28 ⟨rfl,hb⟩;replace BK234:=bK BK234 hb;replace HB:=spS HB hb;(try clear hb)))
              go_roundg k2
              case measure=>have:=HJ1.out;have:=HK2.out;omega
              case rel=>exact ⟨(wrap64 (x3_2+1)),bZ,H',⟨by have:=HJ1.out;have:=HK2.out;omega⟩,⟨pK BK234.out⟩,⟨pS HB.out⟩⟩
             ·replace c24:=Bool.eq_false_iff.mpr c24;subst c24
              rw [if_neg nFT] at H
              obtain rfl:=Option.some.inj H;obtain ⟨hcz29_0,hcz29_1,hcz29_2,hcz29_3,hcz29_4,hfz29_0,hfz29_1,hfz29_2,hfz29_3,hfz29_4⟩:=box5 BK234.out;have p235:0≤(x3_2:Int):=of_decide_eq_true bA;have q235:x3_2<(l0_0.length:Int):=of_decide_eq_true bA;obtain ⟨ad235,A235_1,c235_1,e235,hx235_0,hx235_1,hl235_1,hi235_1⟩:=at_T84 HR0_0.out x3_2 p235 q235;cases e235;replace hx235_0:=hC HB hx235_0;replace hx235_1:=hC HB hx235_1;have HR235_1:=mA hi235_1;have HC235_1:=mA hl235_1;clear hi235_1 hl235_1;replace p235:=eq_true p235;replace q235:=eq_true q235
              go_wp2_with (first|((with_reducible refine gLg rfl (by assumption) ?_);first|refine ldW ?_|refine ldX ?_)|((with_reducible refine gT 43 rfl ?_);refine gC (some 43) Try.func54 (spec_SynVoterOk.calls (cB HR235_1 HB) HC235_1.out A17.out) ?_;rintro e w30 ⟨rfl,hb⟩;refine ⟨_,rfl,?_⟩;replace BK234:=bK BK234 hb;replace HB:=spS HB hb;(try clear hb);obtain ⟨hcz31_0,hcz31_1,hcz31_2,hcz31_3,hcz31_4,hfz31_0,hfz31_1,hfz31_2,hfz31_3,hfz31_4⟩:=box5 BK234.out;have p237:0≤(x3_2:Int):=of_decide_eq_true bA;have q237:x3_2<(l0_1.length:Int):=of_decide_eq_true bA;obtain ⟨ad237,e237,hx237_0⟩:=Kd.at_int HR0_1.out x3_2 p237 q237;cases e237;replace hx237_0:=hC HB hx237_0;replace p237:=eq_true p237;replace q237:=eq_true q237)|(go_at_call 55;(with_reducible refine (spec_l6In.calls A20.out).mono ?_);rintro e w' ⟨rfl,⟨nd,rfl⟩⟩;have p239:0≤(x3_2:Int):=of_decide_eq_true bA;have q239:x3_2<(l0_2.length:Int):=of_decide_eq_true bA;obtain ⟨ad239,A239_25,c239_25,e239,hs239,hl239_25,hi239_25⟩:=at_R88 HR0_2.out x3_2 p239 q239;have hx239_0:=RS.hd hs239 rfl;cases e239;replace hx239_0:=hC HB hx239_0;replace hs239:=rS HB hs239;have HR239_25:=mA hi239_25;have HC239_25:=mA hl239_25;clear hi239_25 hl239_25;replace p239:=eq_true p239;replace q239:=eq_true q239)|(go_at_call 56;(with_reducible refine (spec_SynSeekerOk.calls ?s1 ?s2 A23.out).mono ?_);(case s1=>exact pC (Kd.C_below HR239_25.out (pS HB.out)));(case s2=>exact HC239_25.out);rintro e w32 ⟨rfl,hb⟩;replace BK234:=bK BK234 hb;replace HB:=spS HB hb;(try clear hb)))
              go_ret
              exact rZ (pS HB.out)
            ·rw [if_neg c22] at H
             exact absurd H (by simp)
           ·replace c21:=Bool.eq_false_iff.mpr c21;subst c21
            rw [if_neg nFT] at H
            obtain rfl:=Option.some.inj H;obtain ⟨hcz33_0,hcz33_1,hcz33_2,hcz33_3,hcz33_4,hfz33_0,hfz33_1,hfz33_2,hfz33_3,hfz33_4⟩:=box5 BK234.out;have p235:0≤(x3_2:Int):=of_decide_eq_true bA;have q235:x3_2<(l0_0.length:Int):=of_decide_eq_true bA;obtain ⟨ad235,A235_1,c235_1,e235,hx235_0,hx235_1,hl235_1,hi235_1⟩:=at_T84 HR0_0.out x3_2 p235 q235;cases e235;replace hx235_0:=hC HB hx235_0;replace hx235_1:=hC HB hx235_1;have HR235_1:=mA hi235_1;have HC235_1:=mA hl235_1;clear hi235_1 hl235_1;replace p235:=eq_true p235;replace q235:=eq_true q235
            go_wp2_with (first|((with_reducible refine gLg rfl (by assumption) ?_);first|refine ldW ?_|refine ldX ?_)|((with_reducible refine gT 43 rfl ?_);refine gC (some 43) Try.func54 (spec_SynVoterOk.calls (cB HR235_1 HB) HC235_1.out A17.out) ?_;rintro e w34 ⟨rfl,hb⟩;refine ⟨_,rfl,?_⟩;replace BK234:=bK BK234 hb;replace HB:=spS HB hb;(try clear hb);obtain ⟨hcz35_0,hcz35_1,hcz35_2,hcz35_3,hcz35_4,hfz35_0,hfz35_1,hfz35_2,hfz35_3,hfz35_4⟩:=box5 BK234.out;have p237:0≤(x3_2:Int):=of_decide_eq_true bA;have q237:x3_2<(l0_1.length:Int):=of_decide_eq_true bA;obtain ⟨ad237,e237,hx237_0⟩:=Kd.at_int HR0_1.out x3_2 p237 q237;cases e237;replace hx237_0:=hC HB hx237_0;replace p237:=eq_true p237;replace q237:=eq_true q237)|(go_at_call 55;(with_reducible refine (spec_l6In.calls A20.out).mono ?_);rintro e w' ⟨rfl,⟨nd,rfl⟩⟩))
            go_ret
            exact rZ (pS HB.out)
          ·rw [if_neg c19] at H
           exact absurd H (by simp)
         ·replace c18:=Bool.eq_false_iff.mpr c18;subst c18
          rw [if_neg nFT] at H
          obtain rfl:=Option.some.inj H;obtain ⟨hcz36_0,hcz36_1,hcz36_2,hcz36_3,hcz36_4,hfz36_0,hfz36_1,hfz36_2,hfz36_3,hfz36_4⟩:=box5 BK234.out;have p235:0≤(x3_2:Int):=of_decide_eq_true bA;have q235:x3_2<(l0_0.length:Int):=of_decide_eq_true bA;obtain ⟨ad235,A235_1,c235_1,e235,hx235_0,hx235_1,hl235_1,hi235_1⟩:=at_T84 HR0_0.out x3_2 p235 q235;cases e235;replace hx235_0:=hC HB hx235_0;replace hx235_1:=hC HB hx235_1;have HR235_1:=mA hi235_1;have HC235_1:=mA hl235_1;clear hi235_1 hl235_1;replace p235:=eq_true p235;replace q235:=eq_true q235
          go_wp2_with (first|((with_reducible refine gLg rfl (by assumption) ?_);first|refine ldW ?_|refine ldX ?_)|((with_reducible refine gT 43 rfl ?_);refine gC (some 43) Try.func54 (spec_SynVoterOk.calls (cB HR235_1 HB) HC235_1.out A17.out) ?_;rintro e w37 ⟨rfl,hb⟩;refine ⟨_,rfl,?_⟩;replace BK234:=bK BK234 hb;replace HB:=spS HB hb;(try clear hb)))
          go_ret
          exact rZ (pS HB.out)
        ·rw [if_neg c16] at H
         exact absurd H (by simp)
       ·rw [if_neg c15] at H
        exact absurd H (by simp)
      ·rw [if_neg c14] at H;have c14b0:decide (x3_2<3)=false:=decide_eq_false c14;clear c14;have H':=mA H;clear H
       go_wp2_with (first|((with_reducible refine gLg rfl (by assumption) ?_);first|refine ldW ?_|refine ldX ?_))
       go_loopg [4] k2 (fun kq v4 w'=>∃ (x4_3:Int),v4=.int .i64 x4_3∧Aside0 (spec_SynCouncilOk.l1 kq x4_3 l0_0 l0_1 l0_2 l0_3 l0_4=some r)∧Aside0 (kq≤k2)∧Aside0 (w'.heap[gb234]?=some (.cells #[(.slice A0_0 l0_0.length c0_0),(.slice A0_1 l0_1.length c0_1),(.slice A0_2 l0_2.length c0_2),(.slice A0_3 l0_3.length c0_3),(.slice A0_4 l0_4.length c0_4)] 28 (0,0)))∧Aside0 (Below w.heap.size w w'))
       case atStart=>exact ⟨(0),bZ,H',⟨Nat.le_refl _⟩,⟨pK BK234.out⟩,⟨pS HB.out⟩⟩
       case round =>
        clear H'
        (try clear c13);(try clear c14);(try clear c14b0)
        obtain ⟨x4_3,rfl,HA,HK3,BK234,HB⟩:=hrel
        cases gk with
        | zero=>exact absurd HA.out (by simp [spec_SynCouncilOk.l1])
        | succ k3 =>
         have H:=HA.out;clear HA;simp only [spec_SynCouncilOk.l1] at H
         by_cases c38:x4_3<(l0_3.length:Int)
         ·rw [if_pos c38] at H;have c38b0:decide (x4_3<(l0_3.length:Int))=true:=decide_eq_true c38;clear c38
          by_cases c39:0≤x4_3
          ·rw [if_pos c39] at H;have c39b0:decide (0≤x4_3)=true:=decide_eq_true c39;clear c39;obtain ⟨t242,A40,H⟩:=bI H;(try dsimp only at H)
           by_cases c41:t242=true
           ·subst c41;rw [if_pos rfl] at H;have H':=mA H;clear H;obtain ⟨hcz42_0,hcz42_1,hcz42_2,hcz42_3,hcz42_4,hfz42_0,hfz42_1,hfz42_2,hfz42_3,hfz42_4⟩:=box5 BK234.out;have p241:0≤(x4_3:Int):=of_decide_eq_true bA;have q241:x4_3<(l0_3.length:Int):=of_decide_eq_true bA;obtain ⟨ad241,A241_24,c241_24,A241_25,c241_25,e241,hs241,hl241_24,hi241_24,hl241_25,hi241_25⟩:=at_R93 HR0_3.out x4_3 p241 q241;have hx241_0:=RS.hd hs241 rfl;cases e241;replace hx241_0:=hC HB hx241_0;replace hs241:=rS HB hs241;have HR241_24:=mA hi241_24;have HC241_24:=mA hl241_24;clear hi241_24 hl241_24;have HR241_25:=mA hi241_25;have HC241_25:=mA hl241_25;clear hi241_25 hl241_25;replace p241:=eq_true p241;replace q241:=eq_true q241
            go_wp2_with (first|((with_reducible refine gLg rfl (by assumption) ?_);first|refine ldW ?_|refine ldX ?_)|((with_reducible refine gT 75 rfl ?_);refine gC (some 75) Try.func57 (spec_WordOk.calls (cB HR241_24 HB) HC241_24.out (cB HR241_25 HB) HC241_25.out A40.out) ?_;rintro e w43 ⟨rfl,hb⟩;refine ⟨_,rfl,?_⟩;replace BK234:=bK BK234 hb;replace HB:=spS HB hb;(try clear hb)))
            go_roundg k3
            case measure=>have:=HJ1.out;have:=HK2.out;have:=HK3.out;omega
            case rel=>exact ⟨(wrap64 (x4_3+1)),bZ,H',⟨by have:=HJ1.out;have:=HK2.out;have:=HK3.out;omega⟩,⟨pK BK234.out⟩,⟨pS HB.out⟩⟩
           ·replace c41:=Bool.eq_false_iff.mpr c41;subst c41
            rw [if_neg nFT] at H
            obtain rfl:=Option.some.inj H;obtain ⟨hcz44_0,hcz44_1,hcz44_2,hcz44_3,hcz44_4,hfz44_0,hfz44_1,hfz44_2,hfz44_3,hfz44_4⟩:=box5 BK234.out;have p241:0≤(x4_3:Int):=of_decide_eq_true bA;have q241:x4_3<(l0_3.length:Int):=of_decide_eq_true bA;obtain ⟨ad241,A241_24,c241_24,A241_25,c241_25,e241,hs241,hl241_24,hi241_24,hl241_25,hi241_25⟩:=at_R93 HR0_3.out x4_3 p241 q241;have hx241_0:=RS.hd hs241 rfl;cases e241;replace hx241_0:=hC HB hx241_0;replace hs241:=rS HB hs241;have HR241_24:=mA hi241_24;have HC241_24:=mA hl241_24;clear hi241_24 hl241_24;have HR241_25:=mA hi241_25;have HC241_25:=mA hl241_25;clear hi241_25 hl241_25;replace p241:=eq_true p241;replace q241:=eq_true q241
            go_wp2_with (first|((with_reducible refine gLg rfl (by assumption) ?_);first|refine ldW ?_|refine ldX ?_)|((with_reducible refine gT 75 rfl ?_);refine gC (some 75) Try.func57 (spec_WordOk.calls (cB HR241_24 HB) HC241_24.out (cB HR241_25 HB) HC241_25.out A40.out) ?_;rintro e w45 ⟨rfl,hb⟩;refine ⟨_,rfl,?_⟩;replace BK234:=bK BK234 hb;replace HB:=spS HB hb;(try clear hb)))
            go_ret
            exact rZ (pS HB.out)
          ·rw [if_neg c39] at H
           exact absurd H (by simp)
         ·rw [if_neg c38] at H;have c38b0:decide (x4_3<(l0_3.length:Int))=false:=decide_eq_false c38;clear c38;have H':=mA H;clear H;obtain ⟨hcz46_0,hcz46_1,hcz46_2,hcz46_3,hcz46_4,hfz46_0,hfz46_1,hfz46_2,hfz46_3,hfz46_4⟩:=box5 BK234.out
          go_wp2_with (first|((with_reducible refine gLg rfl (by assumption) ?_);first|refine ldW ?_|refine ldX ?_))
          go_loopg [5] k3 (fun kq v5 w'=>∃ (x5_4:Int),v5=.int .i64 x5_4∧Aside0 (spec_SynCouncilOk.l2 kq x5_4 l0_0 l0_1 l0_2 l0_3 l0_4=some r)∧Aside0 (kq≤k3)∧Aside0 (w'.heap[gb234]?=some (.cells #[(.slice A0_0 l0_0.length c0_0),(.slice A0_1 l0_1.length c0_1),(.slice A0_2 l0_2.length c0_2),(.slice A0_3 l0_3.length c0_3),(.slice A0_4 l0_4.length c0_4)] 28 (0,0)))∧Aside0 (Below w.heap.size w w'))
          case atStart=>exact ⟨(0),bZ,H',⟨Nat.le_refl _⟩,⟨pK BK234.out⟩,⟨pS HB.out⟩⟩
          case round =>
           clear H'
           (try clear c13);(try clear c14);(try clear c14b0);(try clear c38);(try clear c38b0);(try clear hcz46_0);(try clear hcz46_1);(try clear hcz46_2);(try clear hcz46_3);(try clear hcz46_4);(try clear hfz46_0);(try clear hfz46_1);(try clear hfz46_2);(try clear hfz46_3);(try clear hfz46_4)
           obtain ⟨x5_4,rfl,HA,HK4,BK234,HB⟩:=hrel
           cases gk with
           | zero=>exact absurd HA.out (by simp [spec_SynCouncilOk.l2])
           | succ k4 =>
            have H:=HA.out;clear HA;simp only [spec_SynCouncilOk.l2] at H
            by_cases c47:x5_4<(l0_4.length:Int)
            ·rw [if_pos c47] at H;have c47b0:decide (x5_4<(l0_4.length:Int))=true:=decide_eq_true c47;clear c47
             by_cases c48:0≤x5_4
             ·rw [if_pos c48] at H;have c48b0:decide (0≤x5_4)=true:=decide_eq_true c48;clear c48;obtain ⟨t244,A49,H⟩:=bI H;(try dsimp only at H)
              by_cases c50:t244=true
              ·subst c50;rw [if_pos rfl] at H;have H':=mA H;clear H;obtain ⟨hcz51_0,hcz51_1,hcz51_2,hcz51_3,hcz51_4,hfz51_0,hfz51_1,hfz51_2,hfz51_3,hfz51_4⟩:=box5 BK234.out;have p243:0≤(x5_4:Int):=of_decide_eq_true bA;have q243:x5_4<(l0_4.length:Int):=of_decide_eq_true bA;obtain ⟨ad243,e243,hs243⟩:=at_R53 HR0_4.out x5_4 p243 q243;have hx243_0:=RS.hd hs243 rfl;cases e243;replace hx243_0:=hC HB hx243_0;replace hs243:=rS HB hs243;replace p243:=eq_true p243;replace q243:=eq_true q243
               go_wp2_with (first|((with_reducible refine gLg rfl (by assumption) ?_);first|refine ldW ?_|refine ldX ?_)|((with_reducible refine gT 89 rfl ?_);refine gC (some 89) Try.func58 (spec_l21PaperOk.calls A49.out) ?_;rintro e w52 ⟨rfl,hb⟩;refine ⟨_,rfl,?_⟩;replace BK234:=bK BK234 hb;replace HB:=spS HB hb;(try clear hb)))
               go_roundg k4
               case measure=>have:=HJ1.out;have:=HK2.out;have:=HK3.out;have:=HK4.out;omega
               case rel=>exact ⟨(wrap64 (x5_4+1)),bZ,H',⟨by have:=HJ1.out;have:=HK2.out;have:=HK3.out;have:=HK4.out;omega⟩,⟨pK BK234.out⟩,⟨pS HB.out⟩⟩
              ·replace c50:=Bool.eq_false_iff.mpr c50;subst c50
               rw [if_neg nFT] at H
               obtain rfl:=Option.some.inj H;obtain ⟨hcz53_0,hcz53_1,hcz53_2,hcz53_3,hcz53_4,hfz53_0,hfz53_1,hfz53_2,hfz53_3,hfz53_4⟩:=box5 BK234.out;have p243:0≤(x5_4:Int):=of_decide_eq_true bA;have q243:x5_4<(l0_4.length:Int):=of_decide_eq_true bA;obtain ⟨ad243,e243,hs243⟩:=at_R53 HR0_4.out x5_4 p243 q243;have hx243_0:=RS.hd hs243 rfl;cases e243;replace hx243_0:=hC HB hx243_0;replace hs243:=rS HB hs243;replace p243:=eq_true p243;replace q243:=eq_true q243
               go_wp2_with (first|((with_reducible refine gLg rfl (by assumption) ?_);first|refine ldW ?_|refine ldX ?_)|((with_reducible refine gT 89 rfl ?_);refine gC (some 89) Try.func58 (spec_l21PaperOk.calls A49.out) ?_;rintro e w54 ⟨rfl,hb⟩;refine ⟨_,rfl,?_⟩;replace BK234:=bK BK234 hb;replace HB:=spS HB hb;(try clear hb)))
               go_ret
               exact rZ (pS HB.out)
             ·rw [if_neg c48] at H
              exact absurd H (by simp)
            ·rw [if_neg c47] at H;have c47b0:decide (x5_4<(l0_4.length:Int))=false:=decide_eq_false c47;clear c47;obtain rfl:=Option.some.inj H;obtain ⟨hcz55_0,hcz55_1,hcz55_2,hcz55_3,hcz55_4,hfz55_0,hfz55_1,hfz55_2,hfz55_3,hfz55_4⟩:=box5 BK234.out
             go_wp2_with (first|((with_reducible refine gLg rfl (by assumption) ?_);first|refine ldW ?_|refine ldX ?_))
             go_ret
             exact rZ (pS HB.out)

/-! ### laws_toCmd: function 137 -/
def laws_toCmd.f (a0_0 a0_1 a0_2 a0_3 a0_4 a0_5 a0_6 a0_7 a0_8 a0_9 : Int) : Option (Int × Int × Int × Int × Int × Int × Int × Int × Int × Int) := some (a0_0, a0_1, a0_2, a0_3, a0_4, a0_5, a0_6, a0_7, a0_8, a0_9)
set_option maxHeartbeats 8000000 in
set_option maxRecDepth 100000 in
theorem laws_toCmd.calls {a0_0 a0_1 a0_2 a0_3 a0_4 a0_5 a0_6 a0_7 a0_8 a0_9 r1 r2 r3 r4 r5 r6 r7 r8 r9 r10 : Int} {w : World} (h : laws_toCmd.f a0_0 a0_1 a0_2 a0_3 a0_4 a0_5 a0_6 a0_7 a0_8 a0_9 = some (r1, r2, r3, r4, r5, r6, r7, r8, r9, r10)) :
  Calls Try.prog 137 #[.agg #[.int .i64 a0_0,.int .i64 a0_1,.int .i64 a0_2,.int .i64 a0_3,.int .i64 a0_4,.int .i64 a0_5,.int .i64 a0_6,.int .i64 a0_7,.int .i64 a0_8,.int .i64 a0_9]] w fun e w'=>e=.returned (.agg #[.int .i64 r1,.int .i64 r2,.int .i64 r3,.int .i64 r4,.int .i64 r5,.int .i64 r6,.int .i64 r7,.int .i64 r8,.int .i64 r9,.int .i64 r10])∧Below w.heap.size w w':=by
 have hu125:=Try.underlying125;have hu44:=Try.underlying44;have HB:=mA (Below.refl w.heap.size w);have H:(some (a0_0,a0_1,a0_2,a0_3,a0_4,a0_5,a0_6,a0_7,a0_8,a0_9))=some (r1,r2,r3,r4,r5,r6,r7,r8,r9,r10):=h;clear h;simp only [Option.some.injEq,Prod.mk.injEq] at H;obtain ⟨rfl,rfl,rfl,rfl,rfl,rfl,rfl,rfl,rfl,rfl⟩:=H
 go_enter Try.func137,Try.ntmps137
 go_wp2_with (first|((with_reducible refine gLg rfl (by assumption) ?_);refine ldV ?_)|((with_reducible refine gSt rfl (by assumption) ?_);refine stV ?_)|((with_reducible refine gT 1 rfl ?_);refine bX 1 ?_;intro gb245 hg w2 hbox hb;have BK245:=mA hbox;have GW245:=gbpB HB hg;have GE245:=gbpB HB hg;replace HB:=spB HB hb;clear hb hbox hg)|((with_reducible refine gT 2 rfl ?_);refine bJ 2 y44 ?_;intro gb246 hg w3 hbox hb;have BK246:=mA hbox;have GW246:=gbpS HB hg;have GE246:=gbpS HB hg;replace HB:=spS HB hb;have NB245_246:=mA (lN (blk_lt (pK BK245.out)) hg);have hN245_246:=NB245_246.out;have NB246_245:=nS NB245_246;have hN246_245:=NB246_245.out;replace BK245:=bK BK245 hb;clear hb hbox hg)|((with_reducible refine gT 3 rfl ?_);refine bJ 3 y44 ?_;intro gb247 hg w4 hbox hb;have BK247:=mA hbox;have GW247:=gbpS HB hg;have GE247:=gbpS HB hg;replace HB:=spS HB hb;have NB245_247:=mA (lN (blk_lt (pK BK245.out)) hg);have hN245_247:=NB245_247.out;have NB247_245:=nS NB245_247;have hN247_245:=NB247_245.out;replace BK245:=bK BK245 hb;have NB246_247:=mA (lN (blk_lt (pK BK246.out)) hg);have hN246_247:=NB246_247.out;have NB247_246:=nS NB246_247;have hN247_246:=NB247_246.out;replace BK246:=bK BK246 hb;clear hb hbox hg;have hcz7_0:=fun i_=>blk_cell BK245.out i_;have hfz7_0:=fun i_=>blk_frozen BK245.out i_;have hcz9_0:=fun i_=>blk_cell BK247.out i_;have hfz9_0:=fun i_=>blk_frozen BK247.out i_;have hcz10_0:=fun i_=>blk_cell BK246.out i_;have hfz10_0:=fun i_=>blk_frozen BK246.out i_))
 refine bodyPost_ret (results_cell_row rfl _ _ gb246 44 #[.int .i64 a0_0,.int .i64 a0_1,.int .i64 a0_2,.int .i64 a0_3,.int .i64 a0_4,.int .i64 a0_5,.int .i64 a0_6,.int .i64 a0_7,.int .i64 a0_8,.int .i64 a0_9] (0,0) _ rfl (pP BK246) Try.underlying44 rfl aK) rfl ?_
 exact rZ (pS HB.out)

/-! ### laws_toSynPaper: function 105 -/
def laws_toSynPaper.f (a0_0 a0_1 a0_2 a0_3 a0_4 a0_5 a0_6 a0_7 a0_8 a0_9 a0_10 a0_11 : Int) : Option (Int × Int × Int × Int × Int × Int × Int × Int × Int × Int × Int × Int) := (laws_toCmd.f a0_2 a0_3 a0_4 a0_5 a0_6 a0_7 a0_8 a0_9 a0_10 a0_11).bind fun bt251 => (some (a0_0, a0_1, bt251.1, bt251.2.1, bt251.2.2.1, bt251.2.2.2.1, bt251.2.2.2.2.1, bt251.2.2.2.2.2.1, bt251.2.2.2.2.2.2.1, bt251.2.2.2.2.2.2.2.1, bt251.2.2.2.2.2.2.2.2.1, bt251.2.2.2.2.2.2.2.2.2))
set_option maxHeartbeats 8000000 in
set_option maxRecDepth 100000 in
theorem laws_toSynPaper.calls {a0_0 a0_1 a0_2 a0_3 a0_4 a0_5 a0_6 a0_7 a0_8 a0_9 a0_10 a0_11 r1 r2 r3 r4 r5 r6 r7 r8 r9 r10 r11 r12 : Int} {w : World} (h : laws_toSynPaper.f a0_0 a0_1 a0_2 a0_3 a0_4 a0_5 a0_6 a0_7 a0_8 a0_9 a0_10 a0_11 = some (r1, r2, r3, r4, r5, r6, r7, r8, r9, r10, r11, r12)) :
  Calls Try.prog 105 #[.agg #[.int .i64 a0_0,.int .i64 a0_1,.int .i64 a0_2,.int .i64 a0_3,.int .i64 a0_4,.int .i64 a0_5,.int .i64 a0_6,.int .i64 a0_7,.int .i64 a0_8,.int .i64 a0_9,.int .i64 a0_10,.int .i64 a0_11]] w fun e w'=>e=.returned (.agg #[.int .i64 r1,.int .i64 r2,.int .i64 r3,.int .i64 r4,.int .i64 r5,.int .i64 r6,.int .i64 r7,.int .i64 r8,.int .i64 r9,.int .i64 r10,.int .i64 r11,.int .i64 r12])∧Below w.heap.size w w':=by
 have hu127:=Try.underlying127;have hu53:=Try.underlying53;have hu125:=Try.underlying125;have hu44:=Try.underlying44;have HB:=mA (Below.refl w.heap.size w);have H:((laws_toCmd.f a0_2 a0_3 a0_4 a0_5 a0_6 a0_7 a0_8 a0_9 a0_10 a0_11).bind fun bt251=>(some (a0_0,a0_1,bt251.1,bt251.2.1,bt251.2.2.1,bt251.2.2.2.1,bt251.2.2.2.2.1,bt251.2.2.2.2.2.1,bt251.2.2.2.2.2.2.1,bt251.2.2.2.2.2.2.2.1,bt251.2.2.2.2.2.2.2.2.1,bt251.2.2.2.2.2.2.2.2.2)))=some (r1,r2,r3,r4,r5,r6,r7,r8,r9,r10,r11,r12):=h;clear h;obtain ⟨⟨t251,t252,t253,t254,t255,t256,t257,t258,t259,t260⟩,A2,H⟩:=bI H;(try dsimp only at H);simp only [Option.some.injEq,Prod.mk.injEq] at H;obtain ⟨rfl,rfl,rfl,rfl,rfl,rfl,rfl,rfl,rfl,rfl,rfl,rfl⟩:=H
 go_enter Try.func105,Try.ntmps105
 go_wp2_with (first|((with_reducible refine gLg rfl (by assumption) ?_);refine ldV ?_)|((with_reducible refine gSt rfl (by assumption) ?_);refine stV ?_)|((with_reducible refine gT 1 rfl ?_);refine bX 1 ?_;intro gb248 hg w3 hbox hb;have BK248:=mA hbox;have GW248:=gbpB HB hg;have GE248:=gbpB HB hg;replace HB:=spB HB hb;clear hb hbox hg)|((with_reducible refine gT 2 rfl ?_);refine bJ 2 y53 ?_;intro gb249 hg w4 hbox hb;have BK249:=mA hbox;have GW249:=gbpS HB hg;have GE249:=gbpS HB hg;replace HB:=spS HB hb;have NB248_249:=mA (lN (blk_lt (pK BK248.out)) hg);have hN248_249:=NB248_249.out;have NB249_248:=nS NB248_249;have hN249_248:=NB249_248.out;replace BK248:=bK BK248 hb;clear hb hbox hg)|((with_reducible refine gT 3 rfl ?_);refine bJ 3 y53 ?_;intro gb250 hg w5 hbox hb;have BK250:=mA hbox;have GW250:=gbpS HB hg;have GE250:=gbpS HB hg;replace HB:=spS HB hb;have NB248_250:=mA (lN (blk_lt (pK BK248.out)) hg);have hN248_250:=NB248_250.out;have NB250_248:=nS NB248_250;have hN250_248:=NB250_248.out;replace BK248:=bK BK248 hb;have NB249_250:=mA (lN (blk_lt (pK BK249.out)) hg);have hN249_250:=NB249_250.out;have NB250_249:=nS NB249_250;have hN250_249:=NB250_249.out;replace BK249:=bK BK249 hb;clear hb hbox hg;have hcz8_0:=fun i_=>blk_cell BK248.out i_;have hfz8_0:=fun i_=>blk_frozen BK248.out i_;have hcz10_0:=fun i_=>blk_cell BK250.out i_;have hfz10_0:=fun i_=>blk_frozen BK250.out i_)|((with_reducible refine gT 12 rfl ?_);refine gC (some 12) Try.func137 (laws_toCmd.calls A2.out) ?_;rintro e w11 ⟨rfl,hb⟩;refine ⟨_,rfl,?_⟩;replace BK248:=bF BK248 hb;replace BK249:=bF BK249 hb;replace BK250:=mA (blk_below (g:=gb250) (o:=.cells #[.int .i64 a0_0,.int .i64 a0_1,.int .i64 0,.int .i64 0,.int .i64 0,.int .i64 0,.int .i64 0,.int .i64 0,.int .i64 0,.int .i64 0,.int .i64 0,.int .i64 0] 53 (0,0)) (pP BK250) hb);replace HB:=spS HB hb;(try clear hb);have hcz12_0:=fun i_=>blk_cell BK250.out i_;have hfz12_0:=fun i_=>blk_frozen BK250.out i_;have hcz13_0:=fun i_=>blk_cell BK249.out i_;have hfz13_0:=fun i_=>blk_frozen BK249.out i_))
 refine bodyPost_ret (results_cell_row rfl _ _ gb249 53 #[.int .i64 a0_0,.int .i64 a0_1,.int .i64 t251,.int .i64 t252,.int .i64 t253,.int .i64 t254,.int .i64 t255,.int .i64 t256,.int .i64 t257,.int .i64 t258,.int .i64 t259,.int .i64 t260] (0,0) _ rfl (pP BK249) Try.underlying53 rfl aK) rfl ?_
 exact rZ (pS HB.out)

/-! ### laws_toSynPaperS: function 63 -/
def laws_toSynPaperS.l0 : Nat → List (S127) → List (S53) → Int → Option ((List (S53)))
 | 0,_,_,_=>none
 | k+1,x0,x3,x4=>if x4<(x0.length:Int) then (if 0≤x4 then ((laws_toSynPaper.f ((rd_T127 x0 x4).f0) ((rd_T127 x0 x4).f1) ((rd_T127 x0 x4).f2.f0) ((rd_T127 x0 x4).f2.f1) ((rd_T127 x0 x4).f2.f2) ((rd_T127 x0 x4).f2.f3) ((rd_T127 x0 x4).f2.f4) ((rd_T127 x0 x4).f2.f5) ((rd_T127 x0 x4).f2.f6) ((rd_T127 x0 x4).f2.f7) ((rd_T127 x0 x4).f2.f8) ((rd_T127 x0 x4).f2.f9)).bind fun bt265=>(if x4<(x3.length:Int) then (laws_toSynPaperS.l0 k x0 (x3.set (x4:Int).toNat (⟨bt265.1,bt265.2.1,(⟨bt265.2.2.1,bt265.2.2.2.1,bt265.2.2.2.2.1,bt265.2.2.2.2.2.1,bt265.2.2.2.2.2.2.1,bt265.2.2.2.2.2.2.2.1,bt265.2.2.2.2.2.2.2.2.1,bt265.2.2.2.2.2.2.2.2.2.1,bt265.2.2.2.2.2.2.2.2.2.2.1,bt265.2.2.2.2.2.2.2.2.2.2.2⟩:S44)⟩:S53)) (wrap64 (x4+1))) else (none))) else (none)) else (some x3)
def laws_toSynPaperS.f (k : Nat) (l0 : List (S127)) : Option ((List (S53))) := if 0 ≤ (l0.length : Int) then (if ((l0.length : Int) : Int).toNat ≤ 2932031007402 then (laws_toSynPaperS.l0 k l0 (List.replicate ((l0.length : Int) : Int).toNat z53) 0) else (none)) else (none)
theorem laws_toSynPaperS.mono_l : ∀ k, (∀ y0 y1 y2, LeO (laws_toSynPaperS.l0 k y0 y1 y2) (laws_toSynPaperS.l0 (k + 1) y0 y1 y2))
 | 0=>fun _ _ _ r h=>by simp [laws_toSynPaperS.l0] at h
 | k+1=>by
  have ih0:=laws_toSynPaperS.mono_l k
  ·intros
   unfold laws_toSynPaperS.l0
   repeat' first
   | (with_reducible first|apply ih0|exact LeO.refl _|exact LeO.none _|refine LeO.ite ?_ ?_|refine LeO.bind ?_ (fun _=>?_))|exact LeO.none _|refine LeO.ite ?_ ?_|refine LeO.bind ?_ (fun _=>?_)
theorem laws_toSynPaperS.mono : ∀ a0 k, LeO (laws_toSynPaperS.f k a0) (laws_toSynPaperS.f (k + 1) a0) := by
 intro a0 k;have ih0:=laws_toSynPaperS.mono_l k
 unfold laws_toSynPaperS.f
 repeat' first
   | (with_reducible first|apply ih0|exact LeO.refl _|exact LeO.none _|refine LeO.ite ?_ ?_|refine LeO.bind ?_ (fun _=>?_))|exact LeO.none _|refine LeO.ite ?_ ?_|refine LeO.bind ?_ (fun _=>?_)
set_option maxHeartbeats 8000000 in
set_option maxRecDepth 100000 in
theorem laws_toSynPaperS.calls {k : Nat} {A0 : Option Addr} {c0 : Nat} {l0 : List (S127)} {r : List (S53)} {w : World} (hr0 : Kd.C k127 w A0 l0.length l0) (hc0 : l0.length ≤ c0) (h : laws_toSynPaperS.f k l0 = some r) :
  Calls Try.prog 63 #[.slice A0 l0.length c0] w fun e w'=>∃ v0_:Value,e=.returned (v0_)∧Kd.R k53 53 w' w.heap.size (fun _=>True) v0_ r∧Below w.heap.size w w':=by
 have hu127:=Try.underlying127;have hu53:=Try.underlying53;have HR0:=mA hr0;have HC0:=mA hc0;clear hr0 hc0;have HB:=mA (Below.refl w.heap.size w);have H:(if 0≤(l0.length:Int) then (if ((l0.length:Int):Int).toNat≤2932031007402 then (laws_toSynPaperS.l0 k l0 (List.replicate ((l0.length:Int):Int).toNat z53) 0) else (none)) else (none))=some r:=h;clear h
 by_cases c2:0≤(l0.length:Int)
 ·rw [if_pos c2] at H;have c2b0:=eq_true c2;have c2b1:decide (0≤(l0.length:Int))=true:=decide_eq_true c2;clear c2
  by_cases c3:((l0.length:Int):Int).toNat≤2932031007402
  ·rw [if_pos c3] at H;have c3b0:=eq_true c3;have c3b1:decide (((l0.length:Int):Int).toNat≤2932031007402)=true:=decide_eq_true c3;clear c3;obtain ⟨y261,hy261⟩:∃ y_:List (S53),y_=(List.replicate ((l0.length:Int):Int).toNat z53):=⟨_,rfl⟩
   replace H:(laws_toSynPaperS.l0 k l0 y261 0)=some r:=qH hy261 H
   have Ny261:=mA hy261;clear hy261;have H':=mA H;clear H
   go_enter Try.func63,Try.ntmps63
   go_wp2_with (first|((with_reducible refine gLg rfl (by assumption) ?_);first|refine ldW ?_|refine ldX ?_)|((with_reducible refine gT 7 rfl ?_);refine Kd.R_make k53 _ 53 rfl (N:=7) rfl 26 _ _ rfl (l0.length:Int) rfl rfl Try.underlying26 (.agg #[(.int .i64 0),(.int .i64 0),(.int .i64 0),(.int .i64 0),(.int .i64 0),(.int .i64 0),(.int .i64 0),(.int .i64 0),(.int .i64 0),(.int .i64 0),(.int .i64 0),(.int .i64 0)]) 96 info53 rfl aD (by omega) z53 (ok:=fun _=>True) (okp:=fun _=>True) (k53_mkM _ _ _ z53 ) (fun _ hk=>hk) trivial (of_decide_eq_true bA) (Nat.le_trans (Nat.mul_le_mul_right _ (of_decide_eq_true bA:(l0.length:Int).toNat≤2932031007402)) (by omega)) (Below.refl _ _) (Nat.le_refl _) ?_;intro v262 w4 ho5 hb hg_ hnew_;clear hg_ hnew_;(first|rw [← Ny261.out] at ho5|(simp only [Int.reduceToNat] at ho5;rw [← Ny261.out] at ho5));have HO263:=mA (Kd.R_lower ho5 (bpB HB));replace HB:=spB HB hb;clear hb ho5))
   go_loopg [4] k (fun kq v4 w'=>∃ (x3_1:List (S53)) (x4_1:Int),v4=.int .i64 x4_1∧Aside0 (laws_toSynPaperS.l0 kq l0 x3_1 x4_1=some r)∧Aside0 (kq≤k)∧Aside0 (Kd.R k53 53 w' w.heap.size (fun _=>True) v262 x3_1)∧Aside0 (Below w.heap.size w w'))
   case atStart=>exact ⟨(y261),(0),bZ,H',⟨Nat.le_refl _⟩,⟨pR HO263.out⟩,⟨pB HB.out⟩⟩
   case round =>
    clear H'
    (try clear c2);(try clear c2b0);(try clear c2b1);(try clear c3);(try clear c3b0);(try clear c3b1)
    obtain ⟨x3_1,x4_1,rfl,HA,HK1,HO_3,HB⟩:=hrel
    cases gk with
    | zero=>exact absurd HA.out (by simp [laws_toSynPaperS.l0])
    | succ k1 =>
     have H:=HA.out;clear HA;simp only [laws_toSynPaperS.l0] at H
     by_cases c6:x4_1<(l0.length:Int)
     ·rw [if_pos c6] at H;have c6b0:decide (x4_1<(l0.length:Int))=true:=decide_eq_true c6;clear c6
      by_cases c7:0≤x4_1
      ·rw [if_pos c7] at H;have c7b0:decide (0≤x4_1)=true:=decide_eq_true c7;clear c7;obtain ⟨⟨t265,t266,t267,t268,t269,t270,t271,t272,t273,t274,t275,t276⟩,A8,H⟩:=bI H;(try dsimp only at H)
       by_cases c9:x4_1<(x3_1.length:Int)
       ·rw [if_pos c9] at H;have c9b0:decide (x4_1<(x3_1.length:Int))=true:=decide_eq_true c9;clear c9;obtain ⟨y277,hy277⟩:∃ y_:List (S53),y_=(x3_1.set (x4_1:Int).toNat (⟨t265,t266,(⟨t267,t268,t269,t270,t271,t272,t273,t274,t275,t276⟩:S44)⟩:S53)):=⟨_,rfl⟩
        replace H:(laws_toSynPaperS.l0 k1 l0 y277 (wrap64 (x4_1+1)))=some r:=qH hy277 H
        have Ny277:=mA hy277;clear hy277;have H':=mA H;clear H;have p264:0≤(x4_1:Int):=of_decide_eq_true bA;have q264:x4_1<(l0.length:Int):=of_decide_eq_true bA;obtain ⟨ad264,e264,hs264⟩:=at_R127 HR0.out x4_1 p264 q264;have hx264_0:=RS.hd hs264 rfl;cases e264;replace hx264_0:=hC HB hx264_0;replace hs264:=rS HB hs264;replace p264:=eq_true p264;replace q264:=eq_true q264
        go_wp2_with (first|((with_reducible refine gLg rfl (by assumption) ?_);first|refine ldW ?_|refine ldX ?_)|((with_reducible refine gT 20 rfl ?_);refine gC (some 20) Try.func105 (laws_toSynPaper.calls A8.out) ?_;rintro e w11 ⟨rfl,hb⟩;refine ⟨_,rfl,?_⟩;replace HO_3:=rB HO_3 hb;replace HB:=spB HB hb;(try clear hb);have p10:0≤(x4_1:Int):=of_decide_eq_true bA;have q10:(x4_1:Int)<((x3_1.length:Int):Int):=of_decide_eq_true bA;obtain ⟨go10,co10,eo10,gb10,gl10,cl10,HG10⟩:=Kd.R_form HO_3.out (by omega);(first|cases eo10|(injection eo10 with ea_ en_ ec_;(first|subst ea_|(injection ea_ with ea_;subst ea_));subst ec_;clear en_));have GB10:=mA gb10;have GG10:=mA HG10;clear gb10 gl10 HG10;replace p10:=eq_true p10;replace q10:=eq_true q10;have HX12:=mA (show Kd.R k53 53 w11 w.heap.size (fun _=>True) (.slice (some ⟨go10,0,none⟩) x3_1.length co10) x3_1 from (pR HO_3.out));obtain ⟨ce12,hcl12,hM12,hcc12,hfr12⟩:=Kd.R_elem HX12.out z53 (x4_1:Int) (of_decide_eq_true bA) (by have h_:(x4_1:Int)<((x3_1.length:Int):Int):=of_decide_eq_true bA;first|exact h_|(have e_:=(Kd.R_reads' HO_3.out).1;omega)|simpa using h_);obtain rfl:=k53_openM hM12;have HP12:=Kd.R_seg HX12.out (x4_1:Int) (of_decide_eq_true bA) (by have h_:(x4_1:Int)<((x3_1.length:Int):Int):=of_decide_eq_true bA;first|exact h_|(have e_:=(Kd.R_reads' HO_3.out).1;omega)|simpa using h_) (seg:=[.int .i64 t265,.int .i64 t266,.int .i64 t267,.int .i64 t268,.int .i64 t269,.int .i64 t270,.int .i64 t271,.int .i64 t272,.int .i64 t273,.int .i64 t274,.int .i64 t275,.int .i64 t276]) (j:=0) hcl12 hcc12 (show 12≤12 from by decide) (x':=(⟨t265,t266,(⟨t267,t268,t269,t270,t271,t272,t273,t274,t275,t276⟩:S44)⟩:S53)) (k53_mkM _ _ _ (⟨t265,t266,(⟨t267,t268,t269,t270,t271,t272,t273,t274,t275,t276⟩:S44)⟩:S53) ) (fun _ hk=>hk);have HCC12:=mA hcc12;clear hcl12 hcc12 hfr12 hM12)|((with_reducible refine gate_store (t:=53) (p:=21) rfl ?_);refine stR (p:=21) GG10 HCC12.out ?_;intro w13 hw;have hg:w11.grownBy w13 (some go10):=(by rw [hw];exact HP12.2);have hp_:Kd.R k53 53 w13 w.heap.size (fun _=>True) (.slice (some ⟨go10,0,none⟩) x3_1.length co10) y277:=(by rw [hw,Ny277.out];exact HP12.1);clear HP12;replace HO_3:=mA hp_;replace HB:=mA (by rw [hw];exact below_sets GB10.out _ _ (HB.out):Below w.heap.size w w13);clear hg hw hp_))
        go_roundg k1
        case measure=>have:=HK1.out;omega
        case rel=>exact ⟨(y277),(wrap64 (x4_1+1)),bZ,H',⟨by have:=HK1.out;omega⟩,⟨pR HO_3.out⟩,⟨pB HB.out⟩⟩
       ·rw [if_neg c9] at H
        exact absurd H (by simp)
      ·rw [if_neg c7] at H
       exact absurd H (by simp)
     ·rw [if_neg c6] at H;have c6b0:decide (x4_1<(l0.length:Int))=false:=decide_eq_false c6;clear c6;obtain rfl:=Option.some.inj H
      go_wp2_with (first|((with_reducible refine gLg rfl (by assumption) ?_);first|refine ldW ?_|refine ldX ?_))
      go_ret
      exact ⟨_,by first|rfl|(simp [errW_none,errW_some]<;>rfl)|(simp [*,errW_none,errW_some]<;>rfl),pR HO_3.out,pB HB.out⟩
  ·rw [if_neg c3] at H
   exact absurd H (by simp)
 ·rw [if_neg c2] at H
  exact absurd H (by simp)

/-! ### laws_toSynVoter: function 102 -/
def laws_toSynVoter.f (k : Nat) (a0_0 : Int) (l0_1 : List (S127)) : Option (Int × (List (S53))) := (laws_toSynPaperS.f k l0_1).bind fun t281 => (some (a0_0, t281))
theorem laws_toSynVoter.mono : ∀ a0 a1 k, LeO (laws_toSynVoter.f k a0 a1) (laws_toSynVoter.f (k + 1) a0 a1) := by
 intro a0 a1 k
 unfold laws_toSynVoter.f
 repeat' first
   | (with_reducible first|apply laws_toSynPaperS.mono|exact LeO.refl _|exact LeO.none _|refine LeO.ite ?_ ?_|refine LeO.bind ?_ (fun _=>?_))|exact LeO.none _|refine LeO.ite ?_ ?_|refine LeO.bind ?_ (fun _=>?_)
set_option maxHeartbeats 8000000 in
set_option maxRecDepth 100000 in
theorem laws_toSynVoter.calls {k : Nat} {a0_0 : Int} {A0_1 : Option Addr} {c0_1 : Nat} {l0_1 : List (S127)} {r1 : Int} {r2 : List (S53)} {w : World} (hr0_1 : Kd.C k127 w A0_1 l0_1.length l0_1) (hc0_1 : l0_1.length ≤ c0_1) (h : laws_toSynVoter.f k a0_0 l0_1 = some (r1, r2)) :
  Calls Try.prog 102 #[.agg #[.int .i64 a0_0,.slice A0_1 l0_1.length c0_1]] w fun e w'=>∃ v1_:Value,e=.returned (.agg #[.int .i64 r1,v1_])∧Kd.R k53 53 w' w.heap.size (fun _=>True) v1_ r2∧Below w.heap.size w w':=by
 have hu123:=Try.underlying123;have hu84:=Try.underlying84;have HR0_1:=mA hr0_1;have HC0_1:=mA hc0_1;clear hr0_1 hc0_1;have HB:=mA (Below.refl w.heap.size w);have H:((laws_toSynPaperS.f k l0_1).bind fun t281=>(some (a0_0,t281)))=some (r1,r2):=h;clear h;obtain ⟨t281,A2,H⟩:=bI H;(try dsimp only at H);simp only [Option.some.injEq,Prod.mk.injEq] at H;obtain ⟨rfl,rfl⟩:=H
 go_enter Try.func102,Try.ntmps102
 go_wp2_with (first|((with_reducible refine gT 1 rfl ?_);refine bE 1 #[.int .i64 a0_0,.slice A0_1 l0_1.length c0_1] 123 ?_;intro gb278 hg w3 hbox hb;have BK278:=mA hbox;have GW278:=gbpB HB hg;have GE278:=gbpB HB hg;replace HB:=spB HB hb;clear hb hbox hg)|((with_reducible refine gT 2 rfl ?_);refine bE 2 #[.int .i64 0,.slice none 0 0] 84 ?_;intro gb279 hg w4 hbox hb;have BK279:=mA hbox;have GW279:=gbpS HB hg;have GE279:=gbpS HB hg;replace HB:=spS HB hb;have NB278_279:=mA (lN (blk_lt (pK BK278.out)) hg);have hN278_279:=NB278_279.out;have NB279_278:=nS NB278_279;have hN279_278:=NB279_278.out;replace BK278:=bK BK278 hb;clear hb hbox hg)|((with_reducible refine gT 3 rfl ?_);refine bE 3 #[.int .i64 0,.slice none 0 0] 84 ?_;intro gb280 hg w5 hbox hb;have BK280:=mA hbox;have GW280:=gbpS HB hg;have GE280:=gbpS HB hg;replace HB:=spS HB hb;have NB278_280:=mA (lN (blk_lt (pK BK278.out)) hg);have hN278_280:=NB278_280.out;have NB280_278:=nS NB278_280;have hN280_278:=NB280_278.out;replace BK278:=bK BK278 hb;have NB279_280:=mA (lN (blk_lt (pK BK279.out)) hg);have hN279_280:=NB279_280.out;have NB280_279:=nS NB279_280;have hN280_279:=NB280_279.out;replace BK279:=bK BK279 hb;clear hb hbox hg;obtain ⟨hcz8_0,hcz8_1,hfz8_0,hfz8_1⟩:=box2 BK278.out;obtain ⟨hcz10_0,hcz10_1,hfz10_0,hfz10_1⟩:=box2 BK280.out)|((with_reducible refine gT 9 rfl ?_);refine gC (some 9) Try.func63 (laws_toSynPaperS.calls (Kd.C_below HR0_1.out (pS HB.out)) HC0_1.out A2.out) ?_;rintro e w11 ⟨v282,rfl,ho0,hb⟩;refine ⟨_,rfl,?_⟩;have HO283:=mA (Kd.R_lower ho0 (bpS HB));replace BK278:=bF BK278 hb;replace BK279:=bF BK279 hb;replace BK280:=mA (blk_below (g:=gb280) (o:=.cells #[.int .i64 a0_0,.slice none 0 0] 84 (0,0)) (pP BK280) hb);replace HB:=spS HB hb;(try clear hb);(try clear ho0);obtain ⟨Ao12,co12,rfl⟩:=Kd.R_slice HO283.out;obtain ⟨hcz13_0,hcz13_1,hfz13_0,hfz13_1⟩:=box2 BK280.out;obtain ⟨hcz14_0,hcz14_1,hfz14_0,hfz14_1⟩:=box2 BK279.out))
 refine bodyPost_ret (results_cell_row rfl _ _ gb279 84 #[.int .i64 a0_0,.slice Ao12 t281.length co12] (0,0) _ rfl (pP BK279) Try.underlying84 rfl aK) rfl ?_
 exact ⟨_,by first|rfl|(simp [errW_none,errW_some]<;>rfl)|(simp [*,errW_none,errW_some]<;>rfl),pUU HO283 BK280 BK279,pS HB.out⟩

/-! ### laws_toSynVoterS: function 59 -/
def laws_toSynVoterS.l0 : Nat → List (S123) → List (S84) → Int → Option ((List (S84)))
 | 0,_,_,_=>none
 | k+1,x0,x3,x4=>if x4<(x0.length:Int) then (if 0≤x4 then ((laws_toSynVoter.f k ((rd_T123 x0 x4).f0) ((rd_T123 x0 x4).f1)).bind fun bt288=>(if x4<(x3.length:Int) then (laws_toSynVoterS.l0 k x0 (x3.set (x4:Int).toNat (⟨bt288.1,bt288.2⟩:S84)) (wrap64 (x4+1))) else (none))) else (none)) else (some x3)
def laws_toSynVoterS.f (k : Nat) (l0 : List (S123)) : Option ((List (S84))) := if 0 ≤ (l0.length : Int) then (if ((l0.length : Int) : Int).toNat ≤ 8796093022208 then (laws_toSynVoterS.l0 k l0 (List.replicate ((l0.length : Int) : Int).toNat z84) 0) else (none)) else (none)
theorem laws_toSynVoterS.mono_l : ∀ k, (∀ y0 y1 y2, LeO (laws_toSynVoterS.l0 k y0 y1 y2) (laws_toSynVoterS.l0 (k + 1) y0 y1 y2))
 | 0=>fun _ _ _ r h=>by simp [laws_toSynVoterS.l0] at h
 | k+1=>by
  have ih0:=laws_toSynVoterS.mono_l k
  ·intros
   unfold laws_toSynVoterS.l0
   repeat' first
   | (with_reducible first|apply ih0|apply laws_toSynVoter.mono|exact LeO.refl _|exact LeO.none _|refine LeO.ite ?_ ?_|refine LeO.bind ?_ (fun _=>?_))|exact LeO.none _|refine LeO.ite ?_ ?_|refine LeO.bind ?_ (fun _=>?_)
theorem laws_toSynVoterS.mono : ∀ a0 k, LeO (laws_toSynVoterS.f k a0) (laws_toSynVoterS.f (k + 1) a0) := by
 intro a0 k;have ih0:=laws_toSynVoterS.mono_l k
 unfold laws_toSynVoterS.f
 repeat' first
   | (with_reducible first|apply ih0|apply laws_toSynVoter.mono|exact LeO.refl _|exact LeO.none _|refine LeO.ite ?_ ?_|refine LeO.bind ?_ (fun _=>?_))|exact LeO.none _|refine LeO.ite ?_ ?_|refine LeO.bind ?_ (fun _=>?_)
set_option maxHeartbeats 8000000 in
set_option maxRecDepth 100000 in
theorem laws_toSynVoterS.calls {k : Nat} {A0 : Option Addr} {c0 : Nat} {l0 : List (S123)} {r : List (S84)} {w : World} (hr0 : Kd.C k123 w A0 l0.length l0) (hc0 : l0.length ≤ c0) (h : laws_toSynVoterS.f k l0 = some r) :
  Calls Try.prog 59 #[.slice A0 l0.length c0] w fun e w'=>∃ v0_:Value,e=.returned (v0_)∧Kd.S k84 84 w' w.heap.size (fun _=>True) v0_ r∧Below w.heap.size w w':=by
 have hu123:=Try.underlying123;have hu84:=Try.underlying84;have HR0:=mA hr0;have HC0:=mA hc0;clear hr0 hc0;have HB:=mA (Below.refl w.heap.size w);have H:(if 0≤(l0.length:Int) then (if ((l0.length:Int):Int).toNat≤8796093022208 then (laws_toSynVoterS.l0 k l0 (List.replicate ((l0.length:Int):Int).toNat z84) 0) else (none)) else (none))=some r:=h;clear h
 by_cases c2:0≤(l0.length:Int)
 ·rw [if_pos c2] at H;have c2b0:=eq_true c2;have c2b1:decide (0≤(l0.length:Int))=true:=decide_eq_true c2;clear c2
  by_cases c3:((l0.length:Int):Int).toNat≤8796093022208
  ·rw [if_pos c3] at H;have c3b0:=eq_true c3;have c3b1:decide (((l0.length:Int):Int).toNat≤8796093022208)=true:=decide_eq_true c3;clear c3;obtain ⟨y284,hy284⟩:∃ y_:List (S84),y_=(List.replicate ((l0.length:Int):Int).toNat z84):=⟨_,rfl⟩
   replace H:(laws_toSynVoterS.l0 k l0 y284 0)=some r:=qH hy284 H
   have Ny284:=mA hy284;clear hy284;have H':=mA H;clear H
   go_enter Try.func59,Try.ntmps59
   go_wp2_with (first|((with_reducible refine gT 7 rfl ?_);refine Kd.S_make k84 _ 84 rfl (N:=7) rfl 22 _ _ rfl (l0.length:Int) rfl rfl Try.underlying22 (.agg #[(.int .i64 0),(.slice none 0 0)]) 32 info84 rfl aD (by omega) z84 (ok:=fun _=>True) (okp:=fun _=>True) (k84_mkM _ _ _ z84 (Kd.R_nil _ _ _ _ _)) (fun _ hk=>hk) trivial (of_decide_eq_true bA) (Nat.le_trans (Nat.mul_le_mul_right _ (of_decide_eq_true bA:(l0.length:Int).toNat≤8796093022208)) (by omega)) (Below.refl _ _) (Nat.le_refl _) ?_;intro v285 w4 ho5 hb hg_ hnew_;clear hg_ hnew_;(first|rw [← Ny284.out] at ho5|(simp only [Int.reduceToNat] at ho5;rw [← Ny284.out] at ho5));have HO286:=mA (Kd.S_lower ho5 (bpB HB));replace HB:=spB HB hb;clear hb ho5))
   go_loopg [4] k (fun kq v4 w'=>∃ (x3_1:List (S84)) (x4_1:Int),v4=.int .i64 x4_1∧Aside0 (laws_toSynVoterS.l0 kq l0 x3_1 x4_1=some r)∧Aside0 (kq≤k)∧Aside0 (Kd.S k84 84 w' w.heap.size (fun _=>True) v285 x3_1)∧Aside0 (Below w.heap.size w w'))
   case atStart=>exact ⟨(y284),(0),bZ,H',⟨Nat.le_refl _⟩,⟨by (with_reducible repeat (first|apply Kd.S_alloc|apply Kd.S_drewN|apply Kd.S_drew));exact HO286.out⟩,⟨pB HB.out⟩⟩
   case round =>
    clear H'
    (try clear c2);(try clear c2b0);(try clear c2b1);(try clear c3);(try clear c3b0);(try clear c3b1)
    obtain ⟨x3_1,x4_1,rfl,HA,HK1,HO_3,HB⟩:=hrel
    cases gk with
    | zero=>exact absurd HA.out (by simp [laws_toSynVoterS.l0])
    | succ k1 =>
     have H:=HA.out;clear HA;simp only [laws_toSynVoterS.l0] at H
     by_cases c6:x4_1<(l0.length:Int)
     ·rw [if_pos c6] at H;have c6b0:decide (x4_1<(l0.length:Int))=true:=decide_eq_true c6;clear c6
      by_cases c7:0≤x4_1
      ·rw [if_pos c7] at H;have c7b0:decide (0≤x4_1)=true:=decide_eq_true c7;clear c7;obtain ⟨⟨t288,t289⟩,A8,H⟩:=bI H;(try dsimp only at H)
       by_cases c9:x4_1<(x3_1.length:Int)
       ·rw [if_pos c9] at H;have c9b0:decide (x4_1<(x3_1.length:Int))=true:=decide_eq_true c9;clear c9;obtain ⟨y292,hy292⟩:∃ y_:List (S84),y_=(x3_1.set (x4_1:Int).toNat (⟨t288,t289⟩:S84)):=⟨_,rfl⟩
        replace H:(laws_toSynVoterS.l0 k1 l0 y292 (wrap64 (x4_1+1)))=some r:=qH hy292 H
        have Ny292:=mA hy292;clear hy292;have H':=mA H;clear H;have p287:0≤(x4_1:Int):=of_decide_eq_true bA;have q287:x4_1<(l0.length:Int):=of_decide_eq_true bA;obtain ⟨ad287,A287_1,c287_1,e287,hx287_0,hx287_1,hl287_1,hi287_1⟩:=at_T123 HR0.out x4_1 p287 q287;cases e287;replace hx287_0:=hC HB hx287_0;replace hx287_1:=hC HB hx287_1;have HR287_1:=mA hi287_1;have HC287_1:=mA hl287_1;clear hi287_1 hl287_1;replace p287:=eq_true p287;replace q287:=eq_true q287
        go_wp2_with (first|((with_reducible refine gT 20 rfl ?_);refine gC (some 20) Try.func102 (laws_toSynVoter.calls (cB HR287_1 HB) HC287_1.out A8.out) ?_;rintro e w11 ⟨v290,rfl,ho0,hb⟩;refine ⟨_,rfl,?_⟩;replace HO_3:=mA (Kd.S_elder' (pYs HO_3) (Kd.R_base ho0) hb);have HO291:=mA (Kd.R_lower ho0 (bpB HB));replace HB:=spB HB hb;(try clear hb);(try clear ho0);have p10:0≤(x4_1:Int):=of_decide_eq_true bA;have q10:(x4_1:Int)<((x3_1.length:Int):Int):=of_decide_eq_true bA;obtain ⟨go10,co10,eo10,gb10,gl10,cl10,HG10⟩:=Kd.S_form HO_3.out (by omega);(first|cases eo10|(injection eo10 with ea_ en_ ec_;(first|subst ea_|(injection ea_ with ea_;subst ea_));subst ec_;clear en_));have GB10:=mA gb10;have GG10:=mA HG10;clear gb10 gl10 HG10;replace p10:=eq_true p10;replace q10:=eq_true q10;have n_:=mA (Kd.S_mono (ok':=(fun k_=>some k_≠(v290:Value).ownBlock)) HO_3.out (fun k_ hk=>hk.2));clear HO_3;have HO_3:=n_;clear n_;have HX12:=mA (show Kd.S k84 84 w11 w.heap.size (fun k_=>((fun _=>True)) k_∧¬ ((fun k_=>some k_=(v290:Value).ownBlock)) k_) (.slice (some ⟨go10,0,none⟩) x3_1.length co10) x3_1 from (by (with_reducible repeat (first|apply Kd.S_alloc|apply Kd.S_drewN|apply Kd.S_drew));exact Kd.S_mono HO_3.out (fun k_ hk=>⟨trivial,fun e_=>hk e_⟩)));obtain ⟨oki12,ce12,hcl12,hM12,hcc12,hfr12,hoki12,hH12⟩:=Kd.S_elem HX12.out z84 (x4_1:Int) (of_decide_eq_true bA) (by have h_:(x4_1:Int)<((x3_1.length:Int):Int):=of_decide_eq_true bA;first|exact h_|(have e_:=(Kd.S_reads' HO_3.out).1;omega)|simpa using h_);obtain ⟨ve12_1,rfl,ge12_1⟩:=k84_openM hM12;have HP12:=Kd.S_seg hH12 (of_decide_eq_true bA) (by have h_:(x4_1:Int)<((x3_1.length:Int):Int):=of_decide_eq_true bA;first|exact h_|(have e_:=(Kd.S_reads' HO_3.out).1;omega)|simpa using h_) (seg:=[.int .i64 t288,v290]) (j:=0) (show 2≤2 from by decide) (x':=(⟨t288,t289⟩:S84)) (k84_mkM _ _ _ (⟨t288,t289⟩:S84) (Kd.R_mono (Kd.R_tight rfl (Kd.R_mono (ok':=fun k_=>((fun _=>True)) k_∧k_≠go10) (Kd.R_apart' (HO291.out) (Kd.S_typed HO_3.out) aD) (fun k_ hk=>⟨trivial,fun e_=>(hk.2) (by rw [e_];rfl)⟩))) (fun _ h_=>Or.inr (h_)))) (fun _ hk=>hk) (fun k_ hk_=>((Kd.R_mono (ok':=fun k_=>((fun _=>True)) k_∧k_≠go10) (Kd.R_apart' (HO291.out) (Kd.S_typed HO_3.out) aD) (fun k_ hk=>⟨trivial,fun e_=>(hk.2) (by rw [e_];rfl)⟩))).1 k_ hk_.symm);have HCC12:=mA hcc12;clear hcl12 hcc12 hfr12 hM12 hoki12 hH12)|((with_reducible refine gate_store (t:=84) (p:=21) rfl ?_);refine stR (p:=21) GG10 HCC12.out ?_ (h1:=by obtain ⟨_,_,eo_0⟩:=Kd.R_slice HO291.out;rw [eo_0];rfl);intro w13 hw;have hg:w11.grownBy w13 (some go10):=(by rw [hw];exact HP12.2);have hp_:Kd.S k84 84 w13 w.heap.size (fun _=>True) (.slice (some ⟨go10,0,none⟩) x3_1.length co10) y292:=(by rw [hw,Ny292.out];exact HP12.1);clear HP12;replace HO_3:=mA hp_;replace HB:=mA (by rw [hw];exact below_sets GB10.out _ _ (HB.out):Below w.heap.size w w13);clear HO291;clear hg hw hp_))
        go_roundg k1
        case measure=>have:=HK1.out;omega
        case rel=>exact ⟨(y292),(wrap64 (x4_1+1)),bZ,H',⟨by have:=HK1.out;omega⟩,⟨by (with_reducible repeat (first|apply Kd.S_alloc|apply Kd.S_drewN|apply Kd.S_drew));exact HO_3.out⟩,⟨pB HB.out⟩⟩
       ·rw [if_neg c9] at H
        exact absurd H (by simp)
      ·rw [if_neg c7] at H
       exact absurd H (by simp)
     ·rw [if_neg c6] at H;have c6b0:decide (x4_1<(l0.length:Int))=false:=decide_eq_false c6;clear c6;obtain rfl:=Option.some.inj H
      go_wp2
      go_ret
      exact ⟨_,by first|rfl|(simp [errW_none,errW_some]<;>rfl)|(simp [*,errW_none,errW_some]<;>rfl),by (with_reducible repeat (first|apply Kd.S_alloc|apply Kd.S_drewN|apply Kd.S_drew));exact HO_3.out,pB HB.out⟩
  ·rw [if_neg c3] at H
   exact absurd H (by simp)
 ·rw [if_neg c2] at H
  exact absurd H (by simp)

end Go.Proofs.Ytncohokalilnbaa.P
