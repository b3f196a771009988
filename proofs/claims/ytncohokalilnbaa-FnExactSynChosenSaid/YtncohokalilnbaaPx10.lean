-- printed by pprint.py (this session's program over the kit's printer) out of the translation. Lean checks it.
import Derived.Test.YtncohokalilnbaaPx0
import Derived.Test.YtncohokalilnbaaPx8
import Derived.Test.YtncohokalilnbaaPx9
namespace Go.Proofs.Ytncohokalilnbaa.P
open Go.RowKit Go.Proofs.YtncohokalilnbaaX Go.Proofs.YtncohokalilnbaaW.PrintWords Go.Proofs.YtncohokalilnbaaW.PrintLast Go.Proofs.YtncohokalilnbaaW.PrintMore
attribute [local go_sem] max2_int min2_int max_two min_two max_three min_three max_four min_four   -- for this text's walks alone
set_option linter.unusedVariables false
set_option linter.unusedSimpArgs false

/-! ### impl_BlkOk: function 110 -/
mutual
def impl_BlkOk.l0 : Nat → List (S164) → List (S164) → Int → Int → Option (Bool)
 | 0,_,_,_,_=>none
 | k+1,x0,x5,x6,x7=>if x7<x6 then (impl_BlkOk.j1 k x0 x5 x6 x7) else (some (decide ((x0.length:Int)≤60)))
def impl_BlkOk.j1 : Nat → List (S164) → List (S164) → Int → Int → Option (Bool)
 | 0,_,_,_,_=>none
 | k+1,x0,x5,x6,x7=>if 0≤x7 then (if x7<(x5.length:Int) then ((impl_in.f ((rd_T164 x5 x7).f0) 1 99999).bind fun t499=>(if t499=true then ((impl_in.f ((rd_T164 x5 x7).f2) 1 99999).bind fun t500=>(if t500=true then ((impl_in.f ((rd_T164 x5 x7).f1) 0 99999).bind fun t501=>(if t501=true then ((impl_in.f ((rd_T164 x5 x7).f3) 0 99999).bind fun t502=>(if t502=true then (if x7 > 0 then (if 0≤(wrap64 (x7 - 1)) then (if (wrap64 (x7 - 1))<(x0.length:Int) then ((impl_pieceWay.f k ((rd_T164 x0 (wrap64 (x7 - 1))).f0) ((rd_T164 x0 (wrap64 (x7 - 1))).f1) ((rd_T164 x0 (wrap64 (x7 - 1))).f2) ((rd_T164 x0 (wrap64 (x7 - 1))).f3) ((rd_T164 x5 x7).f0) ((rd_T164 x5 x7).f1) ((rd_T164 x5 x7).f2) ((rd_T164 x5 x7).f3)).bind fun t504=>(impl_BlkOk.j2 k x0 x5 x6 x7 (decide (t504 ≥ 0)))) else (none)) else (none)) else (impl_BlkOk.j2 k x0 x5 x6 x7 false)) else (impl_BlkOk.j2 k x0 x5 x6 x7 true))) else (impl_BlkOk.j2 k x0 x5 x6 x7 true))) else (impl_BlkOk.j2 k x0 x5 x6 x7 true))) else (impl_BlkOk.j2 k x0 x5 x6 x7 true))) else (none)) else (none)
def impl_BlkOk.j2 : Nat → List (S164) → List (S164) → Int → Int → Bool → Option (Bool)
 | 0,_,_,_,_,_=>none
 | k+1,x0,x5,x6,x7,x47=>if x47=true then (some false) else (impl_BlkOk.l0 k x0 x5 x6 (wrap64 (x7+1)))
end
def impl_BlkOk.f (k : Nat) (l0 : List (S164)) : Option (Bool) := impl_BlkOk.l0 k l0 l0 (l0.length : Int) 0
theorem impl_BlkOk.mono_l : ∀ k, (∀ y0 y1 y2 y3, LeO (impl_BlkOk.l0 k y0 y1 y2 y3) (impl_BlkOk.l0 (k + 1) y0 y1 y2 y3)) ∧ (∀ y0 y1 y2 y3, LeO (impl_BlkOk.j1 k y0 y1 y2 y3) (impl_BlkOk.j1 (k + 1) y0 y1 y2 y3)) ∧ (∀ y0 y1 y2 y3 y4, LeO (impl_BlkOk.j2 k y0 y1 y2 y3 y4) (impl_BlkOk.j2 (k + 1) y0 y1 y2 y3 y4))
 | 0=>⟨fun _ _ _ _ r h=>by simp [impl_BlkOk.l0] at h,fun _ _ _ _ r h=>by simp [impl_BlkOk.j1] at h,fun _ _ _ _ _ r h=>by simp [impl_BlkOk.j2] at h⟩
 | k+1=>by
  obtain ⟨ih0,ih1,ih2⟩:=impl_BlkOk.mono_l k;refine ⟨?_,?_,?_⟩
  ·intros
   unfold impl_BlkOk.l0
   repeat' first
   | (with_reducible first|apply ih0|apply ih1|apply ih2|apply impl_pieceWay.mono|exact LeO.refl _|exact LeO.none _|refine LeO.ite ?_ ?_|refine LeO.bind ?_ (fun _=>?_))|exact LeO.none _|refine LeO.ite ?_ ?_|refine LeO.bind ?_ (fun _=>?_)
  ·intros
   unfold impl_BlkOk.j1
   repeat' first
   | (with_reducible first|apply ih0|apply ih1|apply ih2|apply impl_pieceWay.mono|exact LeO.refl _|exact LeO.none _|refine LeO.ite ?_ ?_|refine LeO.bind ?_ (fun _=>?_))|exact LeO.none _|refine LeO.ite ?_ ?_|refine LeO.bind ?_ (fun _=>?_)
  ·intros
   unfold impl_BlkOk.j2
   repeat' first
   | (with_reducible first|apply ih0|apply ih1|apply ih2|apply impl_pieceWay.mono|exact LeO.refl _|exact LeO.none _|refine LeO.ite ?_ ?_|refine LeO.bind ?_ (fun _=>?_))|exact LeO.none _|refine LeO.ite ?_ ?_|refine LeO.bind ?_ (fun _=>?_)
theorem impl_BlkOk.mono : ∀ a0 k, LeO (impl_BlkOk.f k a0) (impl_BlkOk.f (k + 1) a0) := by
 intro a0 k;obtain ⟨ih0,ih1,ih2⟩:=impl_BlkOk.mono_l k
 unfold impl_BlkOk.f
 repeat' first
   | (with_reducible first|apply ih0|apply ih1|apply ih2|apply impl_pieceWay.mono|exact LeO.refl _|exact LeO.none _|refine LeO.ite ?_ ?_|refine LeO.bind ?_ (fun _=>?_))|exact LeO.none _|refine LeO.ite ?_ ?_|refine LeO.bind ?_ (fun _=>?_)
def impl_BlkOk.T4 : Bool × List (List Nat × List Nat) := (true, [([], []), ([0], [0]), ([1], [1]), ([2], [2]), ([3, 2], [3]), ([4], [4]), ([5, 4], [4, 5]), ([6, 4, 4], [4, 6]), ([7, 4], [4, 7]), ([4, 8], [4, 8]), ([9, 7], [9]), ([10], [10]), ([11, 10], [10, 11]), ([12, 10, 10], [10, 12]), ([13, 10], [10, 13]), ([10, 14], [10, 14]), ([15, 13], [15]), ([16], [16]), ([17, 16], [16, 17]), ([18, 16, 16], [16, 18]), ([19, 16], [16, 19]), ([16, 20], [16, 20]), ([21, 19], [21]), ([22], [22]), ([23, 22], [22, 23]), ([24, 22, 22], [22, 24]), ([25], [25]), ([25], [25]), ([27, 25], [25, 27]), ([26, 28, 25], [25, 26, 28]), ([29, 25], [25, 29]), ([25], [25]), ([30, 31, 25, 25], [25, 30, 31]), ([32, 25], [25, 32]), ([25, 33, 22], [22, 25, 33]), ([22, 34], [22, 34])])
def impl_BlkOk.B4 : List Nat := [0, 1, 3, 7, 15, 31, 63, 127, 255, 511, 1023, 2047, 4095, 8191, 16383, 32767, 65535, 131071, 262143, 524287, 1048575, 2097151, 4194303, 8388607, 16777215, 33554431, 67108863, 67108863, 201326591, 536870911, 1073741823, 67108863, 4294967295, 8589934591, 17179869183, 34359738367]
theorem impl_BlkOk.tab4 : rtab .any (opsOf Try.f110 4) = impl_BlkOk.T4 := by kernel_rfl
theorem impl_BlkOk.bits4 : waitsOk impl_BlkOk.T4.2 impl_BlkOk.B4 = true := by kernel_rfl
set_option maxHeartbeats 8000000 in
set_option maxRecDepth 100000 in
theorem impl_BlkOk.calls {k : Nat} {A0 : Option Addr} {c0 : Nat} {l0 : List (S164)} {r : Bool} {w : World} (hr0 : Kd.C k164 w A0 l0.length l0) (hc0 : l0.length ≤ c0) (h : impl_BlkOk.f k l0 = some r) :
  Calls Try.prog 110 #[.slice A0 l0.length c0] w fun e w'=>e=.returned (.bool r)∧Below w.heap.size w w':=by
 have hu164:=Try.underlying164;have HR0:=mA hr0;have HC0:=mA hc0;clear hr0 hc0;have HB:=mA (Below.refl w.heap.size w);have H:(impl_BlkOk.l0 k l0 l0 (l0.length:Int) 0)=some r:=h;clear h;have H':=mA H;clear H
 go_enter Try.func110,Try.ntmps110
 go_wp2
 go_loopg [7] k (fun kq v7 w'=>∃ (x7_1:Int),v7=.int .i64 x7_1∧Aside0 (impl_BlkOk.l0 kq l0 l0 (l0.length:Int) x7_1=some r)∧Aside0 (kq≤k)∧Aside0 (Below w.heap.size w w'))
 case atStart=>exact ⟨(0),bZ,H',⟨Nat.le_refl _⟩,⟨pB HB.out⟩⟩
 case round =>
  clear H'
  obtain ⟨x7_1,rfl,HA,HK1,HB⟩:=hrel
  cases gk with
  | zero=>exact absurd HA.out (by simp [impl_BlkOk.l0])
  | succ k1 =>
   have H:=HA.out;clear HA;simp only [impl_BlkOk.l0] at H;have HC2:=mA H;clear H
   go_upto_if 8 with (fail)
   go_cut [] (fun wc=>∃ (kq:Nat),Aside0 (impl_BlkOk.j1 kq l0 l0 (l0.length:Int) x7_1=some r)∧Aside0 (kq≤k1)∧Aside0 (Below w.heap.size w wc))
   case first =>
    have H:=HC2.out;clear HC2
    by_cases c3:x7_1<(l0.length:Int)
    ·rw [if_pos c3] at H;have c3b0:decide (x7_1<(l0.length:Int))=true:=decide_eq_true c3;clear c3
     (first|rw [c3b0]|(simp only [i64_w,i32_w];rw [c3b0])|skip)
     have H':=mA H;clear H
     go_wp2
     go_meet
     case rel=>exact ⟨_,H',⟨by have:=HK1.out;first|omega|exact Nat.le_refl _⟩,⟨pB HB.out⟩⟩
    ·rw [if_neg c3] at H;have c3b0:decide (x7_1<(l0.length:Int))=false:=decide_eq_false c3;clear c3
     (first|rw [c3b0]|(simp only [i64_w,i32_w];rw [c3b0])|skip)
     obtain rfl:=Option.some.inj H
     go_wp2
     go_ret
     exact rZ (pB HB.out)
   case rest =>
    clear HC2
    obtain ⟨kq,HA,HJ1,HB⟩:=hcut
    cases kq with
    | zero=>exact absurd HA.out (by simp [impl_BlkOk.j1])
    | succ kj1 =>
     have H:=HA.out;clear HA;simp only [impl_BlkOk.j1] at H
     by_cases c4:0≤x7_1
     ·rw [if_pos c4] at H;have c4b0:decide (0≤x7_1)=true:=decide_eq_true c4;clear c4
      by_cases c5:x7_1<(l0.length:Int)
      ·rw [if_pos c5] at H;have c5b0:decide (x7_1<(l0.length:Int))=true:=decide_eq_true c5;clear c5;have HC6:=mA H;clear H;have p497:0≤(x7_1:Int):=of_decide_eq_true bA;have q497:x7_1<(l0.length:Int):=of_decide_eq_true bA;obtain ⟨ad497,e497,hx497_0,hx497_1,hx497_2,hx497_3⟩:=at_T164 HR0.out x7_1 p497 q497;cases e497;replace hx497_0:=hC HB hx497_0;replace hx497_1:=hC HB hx497_1;replace hx497_2:=hC HB hx497_2;replace hx497_3:=hC HB hx497_3;replace p497:=eq_true p497;replace q497:=eq_true q497
       go_upto_region 4 with (first|((with_reducible refine gT 4 rfl ?_);refine bJ 4 y164 ?_;intro gb498 hg w7 hbox hb;have BK498:=mA hbox;have GW498:=gbpB HB hg;have GE498:=gbpB HB hg;replace HB:=spB HB hb;clear hb hbox hg;obtain ⟨hcz8_0,hcz8_1,hcz8_2,hcz8_3,hfz8_0,hfz8_1,hfz8_2,hfz8_3⟩:=box4 BK498.out))
       (try simp only [Act.put,List.setIfInBounds_toArray,List.set_cons_zero,List.set_cons_succ])
       go_cut [47] (fun v47 wc=>∃ (kq:Nat) (x47_5:Bool),v47=.bool x47_5∧Aside0 (impl_BlkOk.j2 kq l0 l0 (l0.length:Int) x7_1 x47_5=some r)∧Aside0 (kq≤kj1)∧Aside0 (wc.heap[gb498]?=some (.cells #[.int .i64 ((rd_T164 l0 x7_1).f0),.int .i64 ((rd_T164 l0 x7_1).f1),.int .i64 ((rd_T164 l0 x7_1).f2),.int .i64 ((rd_T164 l0 x7_1).f3)] 164 (0,0)))∧Aside0 (Below w.heap.size w wc))
       case first =>
        have H:=HC6.out;clear HC6;obtain ⟨t499,A9,H⟩:=bI H;(try dsimp only at H)
        by_cases c10:t499=true
        ·subst c10;rw [if_pos rfl] at H;obtain ⟨t500,A11,H⟩:=bI H;(try dsimp only at H)
         by_cases c12:t500=true
         ·subst c12;rw [if_pos rfl] at H;obtain ⟨t501,A13,H⟩:=bI H;(try dsimp only at H)
          by_cases c14:t501=true
          ·subst c14;rw [if_pos rfl] at H;obtain ⟨t502,A15,H⟩:=bI H;(try dsimp only at H)
           by_cases c16:t502=true
           ·subst c16;rw [if_pos rfl] at H
            by_cases c17:x7_1 > 0
            ·rw [if_pos c17] at H;have c17b0:decide (0<x7_1)=true:=decide_eq_true c17;clear c17
             (first|rw [c17b0]|(simp only [i64_w,i32_w];rw [c17b0])|skip)
             obtain ⟨ji18,hji18⟩:∃ j_:Int,(wrap64 (x7_1 - 1))=j_:=⟨_,rfl⟩
             replace H:(if 0≤(ji18) then (if (ji18)<(l0.length:Int) then ((impl_pieceWay.f kj1 ((rd_T164 l0 (ji18)).f0) ((rd_T164 l0 (ji18)).f1) ((rd_T164 l0 (ji18)).f2) ((rd_T164 l0 (ji18)).f3) ((rd_T164 l0 x7_1).f0) ((rd_T164 l0 x7_1).f1) ((rd_T164 l0 x7_1).f2) ((rd_T164 l0 x7_1).f3)).bind fun t504=>(impl_BlkOk.j2 kj1 l0 l0 (l0.length:Int) x7_1 (decide (t504 ≥ 0)))) else (none)) else (none))=some r:=by first|(rw [hji18] at H;exact H)|(simp only [hji18] at H ⊢;exact H)
             (try rw [hji18] at A9)
             (try rw [hji18] at A11)
             (try rw [hji18] at A13)
             (try rw [hji18] at A15)
             have hji18w:(IntKind.i64.wrap (x7_1 - 1))=ji18:=(i64_w _).trans hji18
             by_cases c19:0≤(ji18)
             ·rw [if_pos c19] at H;have c19b0:decide (0≤(ji18))=true:=decide_eq_true c19;clear c19
              by_cases c20:(ji18)<(l0.length:Int)
              ·rw [if_pos c20] at H;have c20b0:decide ((ji18)<(l0.length:Int))=true:=decide_eq_true c20;clear c20;obtain ⟨t504,A21,H⟩:=bI H;(try dsimp only at H);have H':=mA H;clear H
               try go_wp2
               have n0_:Aside0 (((((w7.setCell ⟨gb498,0,none⟩ (.int .i64 ((rd_T164 l0 x7_1).f0))).setCell ⟨gb498,1,none⟩ (.int .i64 ((rd_T164 l0 x7_1).f1))).setCell ⟨gb498,2,none⟩ (.int .i64 ((rd_T164 l0 x7_1).f2))).setCell ⟨gb498,3,none⟩ (.int .i64 ((rd_T164 l0 x7_1).f3))).heap[gb498]?=some (.cells #[.int .i64 ((rd_T164 l0 x7_1).f0),.int .i64 ((rd_T164 l0 x7_1).f1),.int .i64 ((rd_T164 l0 x7_1).f2),.int .i64 ((rd_T164 l0 x7_1).f3)] 164 (0,0))):=⟨pP BK498⟩
               have n1_:Aside0 (Below w.heap.size w ((((w7.setCell ⟨gb498,0,none⟩ (.int .i64 ((rd_T164 l0 x7_1).f0))).setCell ⟨gb498,1,none⟩ (.int .i64 ((rd_T164 l0 x7_1).f1))).setCell ⟨gb498,2,none⟩ (.int .i64 ((rd_T164 l0 x7_1).f2))).setCell ⟨gb498,3,none⟩ (.int .i64 ((rd_T164 l0 x7_1).f3)))):=⟨pS HB.out⟩
               (try clear BK498);(try clear HB)
               generalize ((((w7.setCell ⟨gb498,0,none⟩ (.int .i64 ((rd_T164 l0 x7_1).f0))).setCell ⟨gb498,1,none⟩ (.int .i64 ((rd_T164 l0 x7_1).f1))).setCell ⟨gb498,2,none⟩ (.int .i64 ((rd_T164 l0 x7_1).f2))).setCell ⟨gb498,3,none⟩ (.int .i64 ((rd_T164 l0 x7_1).f3)))=w22 at n0_ n1_ ⊢
               have BK498:=n0_;have HB:=n1_;clear n0_ n1_;replace BK498:=mA (blk_drew BK498.out);replace HB:=mA (below_drew1 HB.out);have p503:0≤((ji18):Int):=of_decide_eq_true bA;have q503:(ji18)<(l0.length:Int):=of_decide_eq_true bA;obtain ⟨ad503,e503,hs503⟩:=at_R164 HR0.out (ji18) p503 q503
               obtain rfl:ad497=ad503:=(by injection e503)
               replace p503:=eq_true p503;replace q503:=eq_true q503
               refine start_ (n:=36) (S:=fun w'=>w'.heap[gb498]?=some (.cells #[.int .i64 ((rd_T164 l0 x7_1).f0),.int .i64 ((rd_T164 l0 x7_1).f1),.int .i64 ((rd_T164 l0 x7_1).f2),.int .i64 ((rd_T164 l0 x7_1).f3)] 164 (0,0))∧RS w' (ad497.add (((ji18)).toNat * 4)) (d164 (rd_T164 l0 (ji18)))) (ds:=[]) _ aK rfl rfl ⟨BK498.out,rS HB hs503⟩ (fun hHeld=>?_);refine with_tabW impl_BlkOk.tab4 impl_BlkOk.bits4 (fun HT_ HW_=>?_)
               generalize w22.drew=w23 at BK498 HB hHeld ⊢
               refine qu 0 ?_;refine qt 1 ?_
               refine qo 2 ?_;intro K hK
               refine gD Try.func65 (impl_in.calls A9.out) ?_
               rintro e w' ⟨rfl,⟨nd,rfl⟩⟩;refine ⟨_,rfl,?_⟩;refine hK.out _ _ ⟨BK498.out,rS HB hs503⟩ (fun hHeld=>?_);clear hK K;refine no_ (some 14) ?_;refine qu 3 ?_;refine qu 4 ?_;refine qu 5 ?_;refine qt 6 ?_
               refine qo 7 ?_;intro K hK
               refine gD Try.func65 (impl_in.calls A11.out) ?_
               rintro e w' ⟨rfl,⟨nd,rfl⟩⟩;refine ⟨_,rfl,?_⟩;refine hK.out _ _ ⟨BK498.out,rS HB hs503⟩ (fun hHeld=>?_);clear hK K;refine no_ (some 19) ?_;refine qu 8 ?_;refine qu 9 ?_;refine qu 10 ?_;refine qu 11 ?_;refine qt 12 ?_
               refine qo 13 ?_;intro K hK
               refine gD Try.func65 (impl_in.calls A13.out) ?_
               rintro e w' ⟨rfl,⟨nd,rfl⟩⟩;refine ⟨_,rfl,?_⟩;refine hK.out _ _ ⟨BK498.out,rS HB hs503⟩ (fun hHeld=>?_);clear hK K;refine no_ (some 25) ?_;refine qu 14 ?_;refine qu 15 ?_;refine qu 16 ?_;refine qu 17 ?_;refine qt 18 ?_
               refine qo 19 ?_;intro K hK
               refine gD Try.func65 (impl_in.calls A15.out) ?_
               rintro e w' ⟨rfl,⟨nd,rfl⟩⟩;refine ⟨_,rfl,?_⟩;refine hK.out _ _ ⟨BK498.out,rS HB hs503⟩ (fun hHeld=>?_);clear hK K;refine no_ (some 31) ?_;refine qu 20 ?_;refine qu 21 ?_;refine qu 22 ?_;refine qu 23 ?_;refine qu 24 ?_;refine qu 25 ?_;refine qu 26 ?_;refine qu 27 ?_;refine qu 28 ?_;refine qu 29 ?_;refine qt 30 ?_;refine qt 31 ?_
               refine qo 32 ?_;intro K hK
               refine goes_ Try.func143 aK rfl #[.agg #[.int .i64 ((rd_T164 l0 (ji18)).f0),.int .i64 ((rd_T164 l0 (ji18)).f1),.int .i64 ((rd_T164 l0 (ji18)).f2),.int .i64 ((rd_T164 l0 (ji18)).f3)],.agg #[.int .i64 ((rd_T164 l0 x7_1).f0),.int .i64 ((rd_T164 l0 x7_1).f1),.int .i64 ((rd_T164 l0 x7_1).f2),.int .i64 ((rd_T164 l0 x7_1).f3)]] (by rfl) rfl rfl (by (try simp only [List.map_toArray,List.map_cons,List.map_nil]);first|done|(simp only [hji18];rfl)|rfl|(simp only [List.length_drop,List.length_take];rfl)) ?_
               with_reducible refine (impl_pieceWay.calls A21.out).mono ?_
               rintro e w24 ⟨rfl,hb⟩;refine ⟨_,rfl,?_⟩;replace BK498:=bK BK498 hb;replace HB:=spS HB hb
               (try clear hb)
               refine hK.out _ _ ⟨BK498.out,rS HB hs503⟩ (fun hHeld=>?_);clear hK K;refine no_ (some 44) ?_;refine qu 33 ?_;refine qu 34 ?_;refine qu 35 ?_;refine qe ?_
               try go_wp2
               go_meet
               case rel=>exact ⟨_,(decide (t504 ≥ 0)),bZ,H',⟨by have:=HK1.out;have:=HJ1.out;first|omega|exact Nat.le_refl _⟩,⟨pK BK498.out⟩,⟨pS HB.out⟩⟩
              ·rw [if_neg c20] at H
               exact absurd H (by simp)
             ·rw [if_neg c19] at H
              exact absurd H (by simp)
            ·rw [if_neg c17] at H;have c17b0:decide (0<x7_1)=false:=decide_eq_false c17;clear c17
             (first|rw [c17b0]|(simp only [i64_w,i32_w];rw [c17b0])|skip)
             have H':=mA H;clear H
             try go_wp2
             have n0_:Aside0 (((((w7.setCell ⟨gb498,0,none⟩ (.int .i64 ((rd_T164 l0 x7_1).f0))).setCell ⟨gb498,1,none⟩ (.int .i64 ((rd_T164 l0 x7_1).f1))).setCell ⟨gb498,2,none⟩ (.int .i64 ((rd_T164 l0 x7_1).f2))).setCell ⟨gb498,3,none⟩ (.int .i64 ((rd_T164 l0 x7_1).f3))).heap[gb498]?=some (.cells #[.int .i64 ((rd_T164 l0 x7_1).f0),.int .i64 ((rd_T164 l0 x7_1).f1),.int .i64 ((rd_T164 l0 x7_1).f2),.int .i64 ((rd_T164 l0 x7_1).f3)] 164 (0,0))):=⟨pP BK498⟩
             have n1_:Aside0 (Below w.heap.size w ((((w7.setCell ⟨gb498,0,none⟩ (.int .i64 ((rd_T164 l0 x7_1).f0))).setCell ⟨gb498,1,none⟩ (.int .i64 ((rd_T164 l0 x7_1).f1))).setCell ⟨gb498,2,none⟩ (.int .i64 ((rd_T164 l0 x7_1).f2))).setCell ⟨gb498,3,none⟩ (.int .i64 ((rd_T164 l0 x7_1).f3)))):=⟨pS HB.out⟩
             (try clear BK498);(try clear HB)
             generalize ((((w7.setCell ⟨gb498,0,none⟩ (.int .i64 ((rd_T164 l0 x7_1).f0))).setCell ⟨gb498,1,none⟩ (.int .i64 ((rd_T164 l0 x7_1).f1))).setCell ⟨gb498,2,none⟩ (.int .i64 ((rd_T164 l0 x7_1).f2))).setCell ⟨gb498,3,none⟩ (.int .i64 ((rd_T164 l0 x7_1).f3)))=w25 at n0_ n1_ ⊢
             have BK498:=n0_;have HB:=n1_;clear n0_ n1_;replace BK498:=mA (blk_drew BK498.out);replace HB:=mA (below_drew1 HB.out)
             refine start_ (n:=36) (S:=fun w'=>w'.heap[gb498]?=some (.cells #[.int .i64 ((rd_T164 l0 x7_1).f0),.int .i64 ((rd_T164 l0 x7_1).f1),.int .i64 ((rd_T164 l0 x7_1).f2),.int .i64 ((rd_T164 l0 x7_1).f3)] 164 (0,0))) (ds:=[]) _ aK rfl rfl BK498.out (fun hHeld=>?_);refine with_tabW impl_BlkOk.tab4 impl_BlkOk.bits4 (fun HT_ HW_=>?_)
             generalize w25.drew=w26 at BK498 HB hHeld ⊢
             refine qu 0 ?_;refine qt 1 ?_
             refine qo 2 ?_;intro K hK
             refine gD Try.func65 (impl_in.calls A9.out) ?_
             rintro e w' ⟨rfl,⟨nd,rfl⟩⟩;refine ⟨_,rfl,?_⟩;refine hK.out _ _ BK498.out (fun hHeld=>?_);clear hK K;refine no_ (some 14) ?_;refine qu 3 ?_;refine qu 4 ?_;refine qu 5 ?_;refine qt 6 ?_
             refine qo 7 ?_;intro K hK
             refine gD Try.func65 (impl_in.calls A11.out) ?_
             rintro e w' ⟨rfl,⟨nd,rfl⟩⟩;refine ⟨_,rfl,?_⟩;refine hK.out _ _ BK498.out (fun hHeld=>?_);clear hK K;refine no_ (some 19) ?_;refine qu 8 ?_;refine qu 9 ?_;refine qu 10 ?_;refine qu 11 ?_;refine qt 12 ?_
             refine qo 13 ?_;intro K hK
             refine gD Try.func65 (impl_in.calls A13.out) ?_
             rintro e w' ⟨rfl,⟨nd,rfl⟩⟩;refine ⟨_,rfl,?_⟩;refine hK.out _ _ BK498.out (fun hHeld=>?_);clear hK K;refine no_ (some 25) ?_;refine qu 14 ?_;refine qu 15 ?_;refine qu 16 ?_;refine qu 17 ?_;refine qt 18 ?_
             refine qo 19 ?_;intro K hK
             refine gD Try.func65 (impl_in.calls A15.out) ?_
             rintro e w' ⟨rfl,⟨nd,rfl⟩⟩;refine ⟨_,rfl,?_⟩;refine hK.out _ _ BK498.out (fun hHeld=>?_);clear hK K;refine no_ (some 31) ?_;refine qu 20 ?_;refine qu 21 ?_;refine qu 22 ?_;refine qu 23 ?_;refine qu 24 ?_;refine qu 25 ?_;refine qd 26 ?_;refine qd 27 ?_;refine qd 28 ?_;refine qd 29 ?_;refine qd 30 ?_;refine qd 31 ?_;refine qd 32 ?_;refine qd 33 ?_;refine qu 34 ?_;refine qu 35 ?_;refine qe ?_
             try go_wp2
             go_meet
             case rel=>exact ⟨_,(false),bZ,H',⟨by have:=HK1.out;have:=HJ1.out;first|omega|exact Nat.le_refl _⟩,⟨pK BK498.out⟩,⟨pS HB.out⟩⟩
           ·replace c16:=Bool.eq_false_iff.mpr c16;subst c16
            rw [if_neg nFT] at H
            have H':=mA H;clear H
            try go_wp2
            have n0_:Aside0 (((((w7.setCell ⟨gb498,0,none⟩ (.int .i64 ((rd_T164 l0 x7_1).f0))).setCell ⟨gb498,1,none⟩ (.int .i64 ((rd_T164 l0 x7_1).f1))).setCell ⟨gb498,2,none⟩ (.int .i64 ((rd_T164 l0 x7_1).f2))).setCell ⟨gb498,3,none⟩ (.int .i64 ((rd_T164 l0 x7_1).f3))).heap[gb498]?=some (.cells #[.int .i64 ((rd_T164 l0 x7_1).f0),.int .i64 ((rd_T164 l0 x7_1).f1),.int .i64 ((rd_T164 l0 x7_1).f2),.int .i64 ((rd_T164 l0 x7_1).f3)] 164 (0,0))):=⟨pP BK498⟩
            have n1_:Aside0 (Below w.heap.size w ((((w7.setCell ⟨gb498,0,none⟩ (.int .i64 ((rd_T164 l0 x7_1).f0))).setCell ⟨gb498,1,none⟩ (.int .i64 ((rd_T164 l0 x7_1).f1))).setCell ⟨gb498,2,none⟩ (.int .i64 ((rd_T164 l0 x7_1).f2))).setCell ⟨gb498,3,none⟩ (.int .i64 ((rd_T164 l0 x7_1).f3)))):=⟨pS HB.out⟩
            (try clear BK498);(try clear HB)
            generalize ((((w7.setCell ⟨gb498,0,none⟩ (.int .i64 ((rd_T164 l0 x7_1).f0))).setCell ⟨gb498,1,none⟩ (.int .i64 ((rd_T164 l0 x7_1).f1))).setCell ⟨gb498,2,none⟩ (.int .i64 ((rd_T164 l0 x7_1).f2))).setCell ⟨gb498,3,none⟩ (.int .i64 ((rd_T164 l0 x7_1).f3)))=w27 at n0_ n1_ ⊢
            have BK498:=n0_;have HB:=n1_;clear n0_ n1_;replace BK498:=mA (blk_drew BK498.out);replace HB:=mA (below_drew1 HB.out)
            refine start_ (n:=36) (S:=fun w'=>w'.heap[gb498]?=some (.cells #[.int .i64 ((rd_T164 l0 x7_1).f0),.int .i64 ((rd_T164 l0 x7_1).f1),.int .i64 ((rd_T164 l0 x7_1).f2),.int .i64 ((rd_T164 l0 x7_1).f3)] 164 (0,0))) (ds:=[]) _ aK rfl rfl BK498.out (fun hHeld=>?_);refine with_tabW impl_BlkOk.tab4 impl_BlkOk.bits4 (fun HT_ HW_=>?_)
            generalize w27.drew=w28 at BK498 HB hHeld ⊢
            refine qu 0 ?_;refine qt 1 ?_
            refine qo 2 ?_;intro K hK
            refine gD Try.func65 (impl_in.calls A9.out) ?_
            rintro e w' ⟨rfl,⟨nd,rfl⟩⟩;refine ⟨_,rfl,?_⟩;refine hK.out _ _ BK498.out (fun hHeld=>?_);clear hK K;refine no_ (some 14) ?_;refine qu 3 ?_;refine qu 4 ?_;refine qu 5 ?_;refine qt 6 ?_
            refine qo 7 ?_;intro K hK
            refine gD Try.func65 (impl_in.calls A11.out) ?_
            rintro e w' ⟨rfl,⟨nd,rfl⟩⟩;refine ⟨_,rfl,?_⟩;refine hK.out _ _ BK498.out (fun hHeld=>?_);clear hK K;refine no_ (some 19) ?_;refine qu 8 ?_;refine qu 9 ?_;refine qu 10 ?_;refine qu 11 ?_;refine qt 12 ?_
            refine qo 13 ?_;intro K hK
            refine gD Try.func65 (impl_in.calls A13.out) ?_
            rintro e w' ⟨rfl,⟨nd,rfl⟩⟩;refine ⟨_,rfl,?_⟩;refine hK.out _ _ BK498.out (fun hHeld=>?_);clear hK K;refine no_ (some 25) ?_;refine qu 14 ?_;refine qu 15 ?_;refine qu 16 ?_;refine qu 17 ?_;refine qt 18 ?_
            refine qo 19 ?_;intro K hK
            refine gD Try.func65 (impl_in.calls A15.out) ?_
            rintro e w' ⟨rfl,⟨nd,rfl⟩⟩;refine ⟨_,rfl,?_⟩;refine hK.out _ _ BK498.out (fun hHeld=>?_);clear hK K;refine no_ (some 31) ?_;refine qu 20 ?_;refine qu 21 ?_;refine qu 22 ?_;refine qd 23 ?_;refine qd 24 ?_;refine qd 25 ?_;refine qd 26 ?_;refine qd 27 ?_;refine qd 28 ?_;refine qd 29 ?_;refine qd 30 ?_;refine qd 31 ?_;refine qd 32 ?_;refine qd 33 ?_;refine qd 34 ?_;refine qu 35 ?_;refine qe ?_
            try go_wp2
            go_meet
            case rel=>exact ⟨_,(true),bZ,H',⟨by have:=HK1.out;have:=HJ1.out;first|omega|exact Nat.le_refl _⟩,⟨pK BK498.out⟩,⟨pS HB.out⟩⟩
          ·replace c14:=Bool.eq_false_iff.mpr c14;subst c14
           rw [if_neg nFT] at H
           have H':=mA H;clear H
           try go_wp2
           have n0_:Aside0 (((((w7.setCell ⟨gb498,0,none⟩ (.int .i64 ((rd_T164 l0 x7_1).f0))).setCell ⟨gb498,1,none⟩ (.int .i64 ((rd_T164 l0 x7_1).f1))).setCell ⟨gb498,2,none⟩ (.int .i64 ((rd_T164 l0 x7_1).f2))).setCell ⟨gb498,3,none⟩ (.int .i64 ((rd_T164 l0 x7_1).f3))).heap[gb498]?=some (.cells #[.int .i64 ((rd_T164 l0 x7_1).f0),.int .i64 ((rd_T164 l0 x7_1).f1),.int .i64 ((rd_T164 l0 x7_1).f2),.int .i64 ((rd_T164 l0 x7_1).f3)] 164 (0,0))):=⟨pP BK498⟩
           have n1_:Aside0 (Below w.heap.size w ((((w7.setCell ⟨gb498,0,none⟩ (.int .i64 ((rd_T164 l0 x7_1).f0))).setCell ⟨gb498,1,none⟩ (.int .i64 ((rd_T164 l0 x7_1).f1))).setCell ⟨gb498,2,none⟩ (.int .i64 ((rd_T164 l0 x7_1).f2))).setCell ⟨gb498,3,none⟩ (.int .i64 ((rd_T164 l0 x7_1).f3)))):=⟨pS HB.out⟩
           (try clear BK498);(try clear HB)
           generalize ((((w7.setCell ⟨gb498,0,none⟩ (.int .i64 ((rd_T164 l0 x7_1).f0))).setCell ⟨gb498,1,none⟩ (.int .i64 ((rd_T164 l0 x7_1).f1))).setCell ⟨gb498,2,none⟩ (.int .i64 ((rd_T164 l0 x7_1).f2))).setCell ⟨gb498,3,none⟩ (.int .i64 ((rd_T164 l0 x7_1).f3)))=w29 at n0_ n1_ ⊢
           have BK498:=n0_;have HB:=n1_;clear n0_ n1_;replace BK498:=mA (blk_drew BK498.out);replace HB:=mA (below_drew1 HB.out)
           refine start_ (n:=36) (S:=fun w'=>w'.heap[gb498]?=some (.cells #[.int .i64 ((rd_T164 l0 x7_1).f0),.int .i64 ((rd_T164 l0 x7_1).f1),.int .i64 ((rd_T164 l0 x7_1).f2),.int .i64 ((rd_T164 l0 x7_1).f3)] 164 (0,0))) (ds:=[]) _ aK rfl rfl BK498.out (fun hHeld=>?_);refine with_tabW impl_BlkOk.tab4 impl_BlkOk.bits4 (fun HT_ HW_=>?_)
           generalize w29.drew=w30 at BK498 HB hHeld ⊢
           refine qu 0 ?_;refine qt 1 ?_
           refine qo 2 ?_;intro K hK
           refine gD Try.func65 (impl_in.calls A9.out) ?_
           rintro e w' ⟨rfl,⟨nd,rfl⟩⟩;refine ⟨_,rfl,?_⟩;refine hK.out _ _ BK498.out (fun hHeld=>?_);clear hK K;refine no_ (some 14) ?_;refine qu 3 ?_;refine qu 4 ?_;refine qu 5 ?_;refine qt 6 ?_
           refine qo 7 ?_;intro K hK
           refine gD Try.func65 (impl_in.calls A11.out) ?_
           rintro e w' ⟨rfl,⟨nd,rfl⟩⟩;refine ⟨_,rfl,?_⟩;refine hK.out _ _ BK498.out (fun hHeld=>?_);clear hK K;refine no_ (some 19) ?_;refine qu 8 ?_;refine qu 9 ?_;refine qu 10 ?_;refine qu 11 ?_;refine qt 12 ?_
           refine qo 13 ?_;intro K hK
           refine gD Try.func65 (impl_in.calls A13.out) ?_
           rintro e w' ⟨rfl,⟨nd,rfl⟩⟩;refine ⟨_,rfl,?_⟩;refine hK.out _ _ BK498.out (fun hHeld=>?_);clear hK K;refine no_ (some 25) ?_;refine qu 14 ?_;refine qu 15 ?_;refine qu 16 ?_;refine qd 17 ?_;refine qd 18 ?_;refine qd 19 ?_;refine qd 20 ?_;refine qu 21 ?_;refine qu 22 ?_;refine qd 23 ?_;refine qd 24 ?_;refine qd 25 ?_;refine qd 26 ?_;refine qd 27 ?_;refine qd 28 ?_;refine qd 29 ?_;refine qd 30 ?_;refine qd 31 ?_;refine qd 32 ?_;refine qd 33 ?_;refine qd 34 ?_;refine qu 35 ?_;refine qe ?_
           try go_wp2
           go_meet
           case rel=>exact ⟨_,(true),bZ,H',⟨by have:=HK1.out;have:=HJ1.out;first|omega|exact Nat.le_refl _⟩,⟨pK BK498.out⟩,⟨pS HB.out⟩⟩
         ·replace c12:=Bool.eq_false_iff.mpr c12;subst c12
          rw [if_neg nFT] at H
          have H':=mA H;clear H
          try go_wp2
          have n0_:Aside0 (((((w7.setCell ⟨gb498,0,none⟩ (.int .i64 ((rd_T164 l0 x7_1).f0))).setCell ⟨gb498,1,none⟩ (.int .i64 ((rd_T164 l0 x7_1).f1))).setCell ⟨gb498,2,none⟩ (.int .i64 ((rd_T164 l0 x7_1).f2))).setCell ⟨gb498,3,none⟩ (.int .i64 ((rd_T164 l0 x7_1).f3))).heap[gb498]?=some (.cells #[.int .i64 ((rd_T164 l0 x7_1).f0),.int .i64 ((rd_T164 l0 x7_1).f1),.int .i64 ((rd_T164 l0 x7_1).f2),.int .i64 ((rd_T164 l0 x7_1).f3)] 164 (0,0))):=⟨pP BK498⟩
          have n1_:Aside0 (Below w.heap.size w ((((w7.setCell ⟨gb498,0,none⟩ (.int .i64 ((rd_T164 l0 x7_1).f0))).setCell ⟨gb498,1,none⟩ (.int .i64 ((rd_T164 l0 x7_1).f1))).setCell ⟨gb498,2,none⟩ (.int .i64 ((rd_T164 l0 x7_1).f2))).setCell ⟨gb498,3,none⟩ (.int .i64 ((rd_T164 l0 x7_1).f3)))):=⟨pS HB.out⟩
          (try clear BK498);(try clear HB)
          generalize ((((w7.setCell ⟨gb498,0,none⟩ (.int .i64 ((rd_T164 l0 x7_1).f0))).setCell ⟨gb498,1,none⟩ (.int .i64 ((rd_T164 l0 x7_1).f1))).setCell ⟨gb498,2,none⟩ (.int .i64 ((rd_T164 l0 x7_1).f2))).setCell ⟨gb498,3,none⟩ (.int .i64 ((rd_T164 l0 x7_1).f3)))=w31 at n0_ n1_ ⊢
          have BK498:=n0_;have HB:=n1_;clear n0_ n1_;replace BK498:=mA (blk_drew BK498.out);replace HB:=mA (below_drew1 HB.out)
          refine start_ (n:=36) (S:=fun w'=>w'.heap[gb498]?=some (.cells #[.int .i64 ((rd_T164 l0 x7_1).f0),.int .i64 ((rd_T164 l0 x7_1).f1),.int .i64 ((rd_T164 l0 x7_1).f2),.int .i64 ((rd_T164 l0 x7_1).f3)] 164 (0,0))) (ds:=[]) _ aK rfl rfl BK498.out (fun hHeld=>?_);refine with_tabW impl_BlkOk.tab4 impl_BlkOk.bits4 (fun HT_ HW_=>?_)
          generalize w31.drew=w32 at BK498 HB hHeld ⊢
          refine qu 0 ?_;refine qt 1 ?_
          refine qo 2 ?_;intro K hK
          refine gD Try.func65 (impl_in.calls A9.out) ?_
          rintro e w' ⟨rfl,⟨nd,rfl⟩⟩;refine ⟨_,rfl,?_⟩;refine hK.out _ _ BK498.out (fun hHeld=>?_);clear hK K;refine no_ (some 14) ?_;refine qu 3 ?_;refine qu 4 ?_;refine qu 5 ?_;refine qt 6 ?_
          refine qo 7 ?_;intro K hK
          refine gD Try.func65 (impl_in.calls A11.out) ?_
          rintro e w' ⟨rfl,⟨nd,rfl⟩⟩;refine ⟨_,rfl,?_⟩;refine hK.out _ _ BK498.out (fun hHeld=>?_);clear hK K;refine no_ (some 19) ?_;refine qu 8 ?_;refine qu 9 ?_;refine qu 10 ?_;refine qd 11 ?_;refine qd 12 ?_;refine qd 13 ?_;refine qd 14 ?_;refine qu 15 ?_;refine qu 16 ?_;refine qd 17 ?_;refine qd 18 ?_;refine qd 19 ?_;refine qd 20 ?_;refine qu 21 ?_;refine qu 22 ?_;refine qd 23 ?_;refine qd 24 ?_;refine qd 25 ?_;refine qd 26 ?_;refine qd 27 ?_;refine qd 28 ?_;refine qd 29 ?_;refine qd 30 ?_;refine qd 31 ?_;refine qd 32 ?_;refine qd 33 ?_;refine qd 34 ?_;refine qu 35 ?_;refine qe ?_
          try go_wp2
          go_meet
          case rel=>exact ⟨_,(true),bZ,H',⟨by have:=HK1.out;have:=HJ1.out;first|omega|exact Nat.le_refl _⟩,⟨pK BK498.out⟩,⟨pS HB.out⟩⟩
        ·replace c10:=Bool.eq_false_iff.mpr c10;subst c10
         rw [if_neg nFT] at H
         have H':=mA H;clear H
         try go_wp2
         have n0_:Aside0 (((((w7.setCell ⟨gb498,0,none⟩ (.int .i64 ((rd_T164 l0 x7_1).f0))).setCell ⟨gb498,1,none⟩ (.int .i64 ((rd_T164 l0 x7_1).f1))).setCell ⟨gb498,2,none⟩ (.int .i64 ((rd_T164 l0 x7_1).f2))).setCell ⟨gb498,3,none⟩ (.int .i64 ((rd_T164 l0 x7_1).f3))).heap[gb498]?=some (.cells #[.int .i64 ((rd_T164 l0 x7_1).f0),.int .i64 ((rd_T164 l0 x7_1).f1),.int .i64 ((rd_T164 l0 x7_1).f2),.int .i64 ((rd_T164 l0 x7_1).f3)] 164 (0,0))):=⟨pP BK498⟩
         have n1_:Aside0 (Below w.heap.size w ((((w7.setCell ⟨gb498,0,none⟩ (.int .i64 ((rd_T164 l0 x7_1).f0))).setCell ⟨gb498,1,none⟩ (.int .i64 ((rd_T164 l0 x7_1).f1))).setCell ⟨gb498,2,none⟩ (.int .i64 ((rd_T164 l0 x7_1).f2))).setCell ⟨gb498,3,none⟩ (.int .i64 ((rd_T164 l0 x7_1).f3)))):=⟨pS HB.out⟩
         (try clear BK498);(try clear HB)
         generalize ((((w7.setCell ⟨gb498,0,none⟩ (.int .i64 ((rd_T164 l0 x7_1).f0))).setCell ⟨gb498,1,none⟩ (.int .i64 ((rd_T164 l0 x7_1).f1))).setCell ⟨gb498,2,none⟩ (.int .i64 ((rd_T164 l0 x7_1).f2))).setCell ⟨gb498,3,none⟩ (.int .i64 ((rd_T164 l0 x7_1).f3)))=w33 at n0_ n1_ ⊢
         have BK498:=n0_;have HB:=n1_;clear n0_ n1_;replace BK498:=mA (blk_drew BK498.out);replace HB:=mA (below_drew1 HB.out)
         refine start_ (n:=36) (S:=fun w'=>w'.heap[gb498]?=some (.cells #[.int .i64 ((rd_T164 l0 x7_1).f0),.int .i64 ((rd_T164 l0 x7_1).f1),.int .i64 ((rd_T164 l0 x7_1).f2),.int .i64 ((rd_T164 l0 x7_1).f3)] 164 (0,0))) (ds:=[]) _ aK rfl rfl BK498.out (fun hHeld=>?_);refine with_tabW impl_BlkOk.tab4 impl_BlkOk.bits4 (fun HT_ HW_=>?_)
         generalize w33.drew=w34 at BK498 HB hHeld ⊢
         refine qu 0 ?_;refine qt 1 ?_
         refine qo 2 ?_;intro K hK
         refine gD Try.func65 (impl_in.calls A9.out) ?_
         rintro e w' ⟨rfl,⟨nd,rfl⟩⟩;refine ⟨_,rfl,?_⟩;refine hK.out _ _ BK498.out (fun hHeld=>?_);clear hK K;refine no_ (some 14) ?_;refine qu 3 ?_;refine qu 4 ?_;refine qd 5 ?_;refine qd 6 ?_;refine qd 7 ?_;refine qd 8 ?_;refine qu 9 ?_;refine qu 10 ?_;refine qd 11 ?_;refine qd 12 ?_;refine qd 13 ?_;refine qd 14 ?_;refine qu 15 ?_;refine qu 16 ?_;refine qd 17 ?_;refine qd 18 ?_;refine qd 19 ?_;refine qd 20 ?_;refine qu 21 ?_;refine qu 22 ?_;refine qd 23 ?_;refine qd 24 ?_;refine qd 25 ?_;refine qd 26 ?_;refine qd 27 ?_;refine qd 28 ?_;refine qd 29 ?_;refine qd 30 ?_;refine qd 31 ?_;refine qd 32 ?_;refine qd 33 ?_;refine qd 34 ?_;refine qu 35 ?_;refine qe ?_
         try go_wp2
         go_meet
         case rel=>exact ⟨_,(true),bZ,H',⟨by have:=HK1.out;have:=HJ1.out;first|omega|exact Nat.le_refl _⟩,⟨pK BK498.out⟩,⟨pS HB.out⟩⟩
       case rest =>
        clear HC6
        obtain ⟨kq,x47_5,rfl,HA,HJ5,BK498,HB⟩:=hcut
        cases kq with
        | zero=>exact absurd HA.out (by simp [impl_BlkOk.j2])
        | succ kj5 =>
         have H:=HA.out;clear HA;simp only [impl_BlkOk.j2] at H
         by_cases c35:x47_5=true
         ·subst c35;rw [if_pos rfl] at H;obtain rfl:=Option.some.inj H
          go_wp2
          go_ret
          exact rZ (pS HB.out)
         ·replace c35:=Bool.eq_false_iff.mpr c35;subst c35
          rw [if_neg nFT] at H
          have H':=mA H;clear H
          go_wp2
          go_roundg kj5
          case measure=>have:=HK1.out;have:=HJ1.out;have:=HJ5.out;omega
          case rel=>exact ⟨(wrap64 (x7_1+1)),bZ,H',⟨by have:=HK1.out;have:=HJ1.out;have:=HJ5.out;omega⟩,⟨pS HB.out⟩⟩
      ·rw [if_neg c5] at H
       exact absurd H (by simp)
     ·rw [if_neg c4] at H
      exact absurd H (by simp)

/-! ### impl_lastOk: function 111 -/
def impl_lastOk.l0 : Nat → List (S166) → List (S166) → Int → Int → Option (Bool)
 | 0,_,_,_,_=>none
 | k+1,x0,x5,x6,x7=>if x7<x6 then (if 0≤x7 then (if x7<(x5.length:Int) then ((impl_in.f ((rd_T166 x5 x7).f0) 0 3).bind fun t507=>(if t507=true then ((impl_in.f ((rd_T166 x5 x7).f1) 1 99999).bind fun t508=>(if t508=true then (if x7 > 0 then (if 0≤(wrap64 (x7 - 1)) then (if (wrap64 (x7 - 1))<(x0.length:Int) then (if ((rd_T166 x0 (wrap64 (x7 - 1))).f0) ≥ ((rd_T166 x5 x7).f0) then (some false) else (impl_lastOk.l0 k x0 x5 x6 (wrap64 (x7+1)))) else (none)) else (none)) else (impl_lastOk.l0 k x0 x5 x6 (wrap64 (x7+1)))) else (some false))) else (some false))) else (none)) else (none)) else (some (decide ((x0.length:Int)≤4)))
def impl_lastOk.f (k : Nat) (l0 : List (S166)) : Option (Bool) := impl_lastOk.l0 k l0 l0 (l0.length : Int) 0
theorem impl_lastOk.mono_l : ∀ k, (∀ y0 y1 y2 y3, LeO (impl_lastOk.l0 k y0 y1 y2 y3) (impl_lastOk.l0 (k + 1) y0 y1 y2 y3))
 | 0=>fun _ _ _ _ r h=>by simp [impl_lastOk.l0] at h
 | k+1=>by
  have ih0:=impl_lastOk.mono_l k
  ·intros
   unfold impl_lastOk.l0
   repeat' first
   | (with_reducible first|apply ih0|exact LeO.refl _|exact LeO.none _|refine LeO.ite ?_ ?_|refine LeO.bind ?_ (fun _=>?_))|exact LeO.none _|refine LeO.ite ?_ ?_|refine LeO.bind ?_ (fun _=>?_)
theorem impl_lastOk.mono : ∀ a0 k, LeO (impl_lastOk.f k a0) (impl_lastOk.f (k + 1) a0) := by
 intro a0 k;have ih0:=impl_lastOk.mono_l k
 unfold impl_lastOk.f
 repeat' first
   | (with_reducible first|apply ih0|exact LeO.refl _|exact LeO.none _|refine LeO.ite ?_ ?_|refine LeO.bind ?_ (fun _=>?_))|exact LeO.none _|refine LeO.ite ?_ ?_|refine LeO.bind ?_ (fun _=>?_)
set_option maxHeartbeats 8000000 in
set_option maxRecDepth 100000 in
theorem impl_lastOk.calls {k : Nat} {A0 : Option Addr} {c0 : Nat} {l0 : List (S166)} {r : Bool} {w : World} (hr0 : Kd.C k166 w A0 l0.length l0) (hc0 : l0.length ≤ c0) (h : impl_lastOk.f k l0 = some r) :
  Calls Try.prog 111 #[.slice A0 l0.length c0] w fun e w'=>e=.returned (.bool r)∧Below w.heap.size w w':=by
 have hu166:=Try.underlying166;have HR0:=mA hr0;have HC0:=mA hc0;clear hr0 hc0;have HB:=mA (Below.refl w.heap.size w);have H:(impl_lastOk.l0 k l0 l0 (l0.length:Int) 0)=some r:=h;clear h;have H':=mA H;clear H
 go_enter Try.func111,Try.ntmps111
 go_wp2
 repeat (go_quiet (fail);try go_wp2)
 go_loopg [7] k (fun kq v7 w'=>∃ (x7_1:Int),v7=.int .i64 x7_1∧Aside0 (impl_lastOk.l0 kq l0 l0 (l0.length:Int) x7_1=some r)∧Aside0 (kq≤k)∧Aside0 (Below w.heap.size w w'))
 case atStart=>exact ⟨(0),bZ,H',⟨Nat.le_refl _⟩,⟨pB HB.out⟩⟩
 case round =>
  clear H'
  obtain ⟨x7_1,rfl,HA,HK1,HB⟩:=hrel
  cases gk with
  | zero=>exact absurd HA.out (by simp [impl_lastOk.l0])
  | succ k1 =>
   have H:=HA.out;clear HA;simp only [impl_lastOk.l0] at H
   by_cases c2:x7_1<(l0.length:Int)
   ·rw [if_pos c2] at H;have c2b0:decide (x7_1<(l0.length:Int))=true:=decide_eq_true c2;clear c2
    by_cases c3:0≤x7_1
    ·rw [if_pos c3] at H;have c3b0:decide (0≤x7_1)=true:=decide_eq_true c3;clear c3
     by_cases c4:x7_1<(l0.length:Int)
     ·rw [if_pos c4] at H;have c4b0:decide (x7_1<(l0.length:Int))=true:=decide_eq_true c4;clear c4;obtain ⟨t507,A5,H⟩:=bI H;(try dsimp only at H)
      by_cases c6:t507=true
      ·subst c6;rw [if_pos rfl] at H;obtain ⟨t508,A7,H⟩:=bI H;(try dsimp only at H)
       by_cases c8:t508=true
       ·subst c8;rw [if_pos rfl] at H
        by_cases c9:x7_1 > 0
        ·rw [if_pos c9] at H;have c9b0:decide (0<x7_1)=true:=decide_eq_true c9;clear c9;obtain ⟨ji10,hji10⟩:∃ j_:Int,(wrap64 (x7_1 - 1))=j_:=⟨_,rfl⟩
         replace H:(if 0≤(ji10) then (if (ji10)<(l0.length:Int) then (if ((rd_T166 l0 (ji10)).f0) ≥ ((rd_T166 l0 x7_1).f0) then (some false) else (impl_lastOk.l0 k1 l0 l0 (l0.length:Int) (wrap64 (x7_1+1)))) else (none)) else (none))=some r:=by first|(rw [hji10] at H;exact H)|(simp only [hji10] at H ⊢;exact H)
         (try rw [hji10] at A5)
         (try rw [hji10] at A7)
         have hji10w:(IntKind.i64.wrap (x7_1 - 1))=ji10:=(i64_w _).trans hji10
         by_cases c11:0≤(ji10)
         ·rw [if_pos c11] at H;have c11b0:decide (0≤(ji10))=true:=decide_eq_true c11;clear c11
          by_cases c12:(ji10)<(l0.length:Int)
          ·rw [if_pos c12] at H;have c12b0:decide ((ji10)<(l0.length:Int))=true:=decide_eq_true c12;clear c12
           by_cases c13:((rd_T166 l0 (ji10)).f0) ≥ ((rd_T166 l0 x7_1).f0)
           ·rw [if_pos c13] at H;have c13b0:decide (((rd_T166 l0 x7_1).f0)≤((rd_T166 l0 (ji10)).f0))=true:=decide_eq_true c13;clear c13;obtain rfl:=Option.some.inj H;have p505:0≤(x7_1:Int):=of_decide_eq_true bA;have q505:x7_1<(l0.length:Int):=of_decide_eq_true bA;obtain ⟨ad505,e505,hx505_0,hx505_1⟩:=at_T166 HR0.out x7_1 p505 q505;cases e505;replace hx505_0:=hC HB hx505_0;replace hx505_1:=hC HB hx505_1;replace p505:=eq_true p505;replace q505:=eq_true q505
            go_wp2_with (first|((with_reducible refine gT 4 rfl ?_);refine bE 4 #[.int .i64 0,.int .i64 0] 166 ?_;intro gb506 hg w14 hbox hb;have BK506:=mA hbox;have GW506:=gbpB HB hg;have GE506:=gbpB HB hg;replace HB:=spB HB hb;clear hb hbox hg;obtain ⟨hcz15_0,hcz15_1,hfz15_0,hfz15_1⟩:=box2 BK506.out)|(go_at_call 65;(with_reducible refine (impl_in.calls A5.out).mono ?_);rintro e w' ⟨rfl,⟨nd,rfl⟩⟩;(try first|exact ⟨rfl,_,World.drewN_drewN _ _ _⟩|exact ⟨rfl,_,Eq.trans (World.drewN_drewN _ _ _) (congrArg (World.drewN _) (Nat.add_assoc _ _ _))⟩))|(go_at_call 65;(with_reducible refine (impl_in.calls A7.out).mono ?_);rintro e w' ⟨rfl,⟨nd,rfl⟩⟩;(try first|exact ⟨rfl,_,World.drewN_drewN _ _ _⟩|exact ⟨rfl,_,Eq.trans (World.drewN_drewN _ _ _) (congrArg (World.drewN _) (Nat.add_assoc _ _ _))⟩);have p509:0≤((ji10):Int):=of_decide_eq_true bA;have q509:(ji10)<(l0.length:Int):=of_decide_eq_true bA;obtain ⟨ad509,e509,hx509_0,hx509_1⟩:=at_T166 HR0.out (ji10) p509 q509;obtain rfl:ad505=ad509:=(by injection e509);have hn509_0:ad505.block≠gb506:=Nat.ne_of_lt (Nat.lt_of_lt_of_le (by have:=World.block_lt_of_cell? _ _ hx509_0;first|rwa [add_block] at this|exact this) GW506.out);have hn509_1:ad505.block≠gb506:=Nat.ne_of_lt (Nat.lt_of_lt_of_le (by have:=World.block_lt_of_cell? _ _ hx509_0;first|rwa [add_block] at this|exact this) GW506.out);replace hx509_0:=hC HB hx509_0;replace hx509_1:=hC HB hx509_1;replace hx509_0:=(cell_far (p:=⟨gb506,0,none⟩) (by first|(rw [add_block];exact hn509_0)|(show (Addr.add _ _).block≠_;rw [add_block];exact hn509_0)|exact hn509_0) (.int .i64 ((rd_T166 l0 x7_1).f0))).trans hx509_0;replace hx509_1:=(cell_far (p:=⟨gb506,0,none⟩) (by first|(rw [add_block];exact hn509_0)|(show (Addr.add _ _).block≠_;rw [add_block];exact hn509_0)|exact hn509_0) (.int .i64 ((rd_T166 l0 x7_1).f0))).trans hx509_1;replace hx509_0:=(cell_far (p:=⟨gb506,1,none⟩) (by first|(rw [add_block];exact hn509_1)|(show (Addr.add _ _).block≠_;rw [add_block];exact hn509_1)|exact hn509_1) (.int .i64 ((rd_T166 l0 x7_1).f1))).trans hx509_0;replace hx509_1:=(cell_far (p:=⟨gb506,1,none⟩) (by first|(rw [add_block];exact hn509_1)|(show (Addr.add _ _).block≠_;rw [add_block];exact hn509_1)|exact hn509_1) (.int .i64 ((rd_T166 l0 x7_1).f1))).trans hx509_1;(try have hy509_0:=fun (n_:Nat)=>(show ((((w14.drewN n_).setCell ⟨gb506,0,none⟩ (.int .i64 ((rd_T166 l0 x7_1).f0))).setCell ⟨gb506,1,none⟩ (.int .i64 ((rd_T166 l0 x7_1).f1)))).cell? _=some _ from hx509_0));(try have hy509_1:=fun (n_:Nat)=>(show ((((w14.drewN n_).setCell ⟨gb506,0,none⟩ (.int .i64 ((rd_T166 l0 x7_1).f0))).setCell ⟨gb506,1,none⟩ (.int .i64 ((rd_T166 l0 x7_1).f1)))).cell? _=some _ from hx509_1));clear hn509_0;clear hn509_1;replace p509:=eq_true p509;replace q509:=eq_true q509))
            repeat (go_quiet (first|((with_reducible refine gT 4 rfl ?_);refine bE 4 #[.int .i64 0,.int .i64 0] 166 ?_;intro gb506 hg w14 hbox hb;have BK506:=mA hbox;have GW506:=gbpB HB hg;have GE506:=gbpB HB hg;replace HB:=spB HB hb;clear hb hbox hg;obtain ⟨hcz15_0,hcz15_1,hfz15_0,hfz15_1⟩:=box2 BK506.out)|(go_at_call 65;(with_reducible refine (impl_in.calls A5.out).mono ?_);rintro e w' ⟨rfl,⟨nd,rfl⟩⟩;(try first|exact ⟨rfl,_,World.drewN_drewN _ _ _⟩|exact ⟨rfl,_,Eq.trans (World.drewN_drewN _ _ _) (congrArg (World.drewN _) (Nat.add_assoc _ _ _))⟩))|(go_at_call 65;(with_reducible refine (impl_in.calls A7.out).mono ?_);rintro e w' ⟨rfl,⟨nd,rfl⟩⟩;(try first|exact ⟨rfl,_,World.drewN_drewN _ _ _⟩|exact ⟨rfl,_,Eq.trans (World.drewN_drewN _ _ _) (congrArg (World.drewN _) (Nat.add_assoc _ _ _))⟩);have p509:0≤((ji10):Int):=of_decide_eq_true bA;have q509:(ji10)<(l0.length:Int):=of_decide_eq_true bA;obtain ⟨ad509,e509,hx509_0,hx509_1⟩:=at_T166 HR0.out (ji10) p509 q509;obtain rfl:ad505=ad509:=(by injection e509);have hn509_0:ad505.block≠gb506:=Nat.ne_of_lt (Nat.lt_of_lt_of_le (by have:=World.block_lt_of_cell? _ _ hx509_0;first|rwa [add_block] at this|exact this) GW506.out);have hn509_1:ad505.block≠gb506:=Nat.ne_of_lt (Nat.lt_of_lt_of_le (by have:=World.block_lt_of_cell? _ _ hx509_0;first|rwa [add_block] at this|exact this) GW506.out);replace hx509_0:=hC HB hx509_0;replace hx509_1:=hC HB hx509_1;replace hx509_0:=(cell_far (p:=⟨gb506,0,none⟩) (by first|(rw [add_block];exact hn509_0)|(show (Addr.add _ _).block≠_;rw [add_block];exact hn509_0)|exact hn509_0) (.int .i64 ((rd_T166 l0 x7_1).f0))).trans hx509_0;replace hx509_1:=(cell_far (p:=⟨gb506,0,none⟩) (by first|(rw [add_block];exact hn509_0)|(show (Addr.add _ _).block≠_;rw [add_block];exact hn509_0)|exact hn509_0) (.int .i64 ((rd_T166 l0 x7_1).f0))).trans hx509_1;replace hx509_0:=(cell_far (p:=⟨gb506,1,none⟩) (by first|(rw [add_block];exact hn509_1)|(show (Addr.add _ _).block≠_;rw [add_block];exact hn509_1)|exact hn509_1) (.int .i64 ((rd_T166 l0 x7_1).f1))).trans hx509_0;replace hx509_1:=(cell_far (p:=⟨gb506,1,none⟩) (by first|(rw [add_block];exact hn509_1)|(show (Addr.add _ _).block≠_;rw [add_block];exact hn509_1)|exact hn509_1) (.int .i64 ((rd_T166 l0 x7_1).f1))).trans hx509_1;(try have hy509_0:=fun (n_:Nat)=>(show ((((w14.drewN n_).setCell ⟨gb506,0,none⟩ (.int .i64 ((rd_T166 l0 x7_1).f0))).setCell ⟨gb506,1,none⟩ (.int .i64 ((rd_T166 l0 x7_1).f1)))).cell? _=some _ from hx509_0));(try have hy509_1:=fun (n_:Nat)=>(show ((((w14.drewN n_).setCell ⟨gb506,0,none⟩ (.int .i64 ((rd_T166 l0 x7_1).f0))).setCell ⟨gb506,1,none⟩ (.int .i64 ((rd_T166 l0 x7_1).f1)))).cell? _=some _ from hx509_1));clear hn509_0;clear hn509_1;replace p509:=eq_true p509;replace q509:=eq_true q509));try go_wp2_with (first|((with_reducible refine gT 4 rfl ?_);refine bE 4 #[.int .i64 0,.int .i64 0] 166 ?_;intro gb506 hg w14 hbox hb;have BK506:=mA hbox;have GW506:=gbpB HB hg;have GE506:=gbpB HB hg;replace HB:=spB HB hb;clear hb hbox hg;obtain ⟨hcz15_0,hcz15_1,hfz15_0,hfz15_1⟩:=box2 BK506.out)|(go_at_call 65;(with_reducible refine (impl_in.calls A5.out).mono ?_);rintro e w' ⟨rfl,⟨nd,rfl⟩⟩;(try first|exact ⟨rfl,_,World.drewN_drewN _ _ _⟩|exact ⟨rfl,_,Eq.trans (World.drewN_drewN _ _ _) (congrArg (World.drewN _) (Nat.add_assoc _ _ _))⟩))|(go_at_call 65;(with_reducible refine (impl_in.calls A7.out).mono ?_);rintro e w' ⟨rfl,⟨nd,rfl⟩⟩;(try first|exact ⟨rfl,_,World.drewN_drewN _ _ _⟩|exact ⟨rfl,_,Eq.trans (World.drewN_drewN _ _ _) (congrArg (World.drewN _) (Nat.add_assoc _ _ _))⟩);have p509:0≤((ji10):Int):=of_decide_eq_true bA;have q509:(ji10)<(l0.length:Int):=of_decide_eq_true bA;obtain ⟨ad509,e509,hx509_0,hx509_1⟩:=at_T166 HR0.out (ji10) p509 q509;obtain rfl:ad505=ad509:=(by injection e509);have hn509_0:ad505.block≠gb506:=Nat.ne_of_lt (Nat.lt_of_lt_of_le (by have:=World.block_lt_of_cell? _ _ hx509_0;first|rwa [add_block] at this|exact this) GW506.out);have hn509_1:ad505.block≠gb506:=Nat.ne_of_lt (Nat.lt_of_lt_of_le (by have:=World.block_lt_of_cell? _ _ hx509_0;first|rwa [add_block] at this|exact this) GW506.out);replace hx509_0:=hC HB hx509_0;replace hx509_1:=hC HB hx509_1;replace hx509_0:=(cell_far (p:=⟨gb506,0,none⟩) (by first|(rw [add_block];exact hn509_0)|(show (Addr.add _ _).block≠_;rw [add_block];exact hn509_0)|exact hn509_0) (.int .i64 ((rd_T166 l0 x7_1).f0))).trans hx509_0;replace hx509_1:=(cell_far (p:=⟨gb506,0,none⟩) (by first|(rw [add_block];exact hn509_0)|(show (Addr.add _ _).block≠_;rw [add_block];exact hn509_0)|exact hn509_0) (.int .i64 ((rd_T166 l0 x7_1).f0))).trans hx509_1;replace hx509_0:=(cell_far (p:=⟨gb506,1,none⟩) (by first|(rw [add_block];exact hn509_1)|(show (Addr.add _ _).block≠_;rw [add_block];exact hn509_1)|exact hn509_1) (.int .i64 ((rd_T166 l0 x7_1).f1))).trans hx509_0;replace hx509_1:=(cell_far (p:=⟨gb506,1,none⟩) (by first|(rw [add_block];exact hn509_1)|(show (Addr.add _ _).block≠_;rw [add_block];exact hn509_1)|exact hn509_1) (.int .i64 ((rd_T166 l0 x7_1).f1))).trans hx509_1;(try have hy509_0:=fun (n_:Nat)=>(show ((((w14.drewN n_).setCell ⟨gb506,0,none⟩ (.int .i64 ((rd_T166 l0 x7_1).f0))).setCell ⟨gb506,1,none⟩ (.int .i64 ((rd_T166 l0 x7_1).f1)))).cell? _=some _ from hx509_0));(try have hy509_1:=fun (n_:Nat)=>(show ((((w14.drewN n_).setCell ⟨gb506,0,none⟩ (.int .i64 ((rd_T166 l0 x7_1).f0))).setCell ⟨gb506,1,none⟩ (.int .i64 ((rd_T166 l0 x7_1).f1)))).cell? _=some _ from hx509_1));clear hn509_0;clear hn509_1;replace p509:=eq_true p509;replace q509:=eq_true q509)))
            go_ret
            exact ⟨by first|rfl|(simp [errW_none,errW_some]<;>rfl)|(simp only [← hji10];first|rfl|(simp [errW_none,errW_some]<;>rfl))|(simp [*,errW_none,errW_some]<;>rfl),pS HB.out⟩
           ·rw [if_neg c13] at H;have c13b0:decide (((rd_T166 l0 x7_1).f0)≤((rd_T166 l0 (ji10)).f0))=false:=decide_eq_false c13;clear c13;have H':=mA H;clear H;have p505:0≤(x7_1:Int):=of_decide_eq_true bA;have q505:x7_1<(l0.length:Int):=of_decide_eq_true bA;obtain ⟨ad505,e505,hx505_0,hx505_1⟩:=at_T166 HR0.out x7_1 p505 q505;cases e505;replace hx505_0:=hC HB hx505_0;replace hx505_1:=hC HB hx505_1;replace p505:=eq_true p505;replace q505:=eq_true q505
            go_wp2_with (first|((with_reducible refine gT 4 rfl ?_);refine bE 4 #[.int .i64 0,.int .i64 0] 166 ?_;intro gb506 hg w16 hbox hb;have BK506:=mA hbox;have GW506:=gbpB HB hg;have GE506:=gbpB HB hg;replace HB:=spB HB hb;clear hb hbox hg;obtain ⟨hcz17_0,hcz17_1,hfz17_0,hfz17_1⟩:=box2 BK506.out)|(go_at_call 65;(with_reducible refine (impl_in.calls A5.out).mono ?_);rintro e w' ⟨rfl,⟨nd,rfl⟩⟩;(try first|exact ⟨rfl,_,World.drewN_drewN _ _ _⟩|exact ⟨rfl,_,Eq.trans (World.drewN_drewN _ _ _) (congrArg (World.drewN _) (Nat.add_assoc _ _ _))⟩))|(go_at_call 65;(with_reducible refine (impl_in.calls A7.out).mono ?_);rintro e w' ⟨rfl,⟨nd,rfl⟩⟩;(try first|exact ⟨rfl,_,World.drewN_drewN _ _ _⟩|exact ⟨rfl,_,Eq.trans (World.drewN_drewN _ _ _) (congrArg (World.drewN _) (Nat.add_assoc _ _ _))⟩);have p509:0≤((ji10):Int):=of_decide_eq_true bA;have q509:(ji10)<(l0.length:Int):=of_decide_eq_true bA;obtain ⟨ad509,e509,hx509_0,hx509_1⟩:=at_T166 HR0.out (ji10) p509 q509;obtain rfl:ad505=ad509:=(by injection e509);have hn509_0:ad505.block≠gb506:=Nat.ne_of_lt (Nat.lt_of_lt_of_le (by have:=World.block_lt_of_cell? _ _ hx509_0;first|rwa [add_block] at this|exact this) GW506.out);have hn509_1:ad505.block≠gb506:=Nat.ne_of_lt (Nat.lt_of_lt_of_le (by have:=World.block_lt_of_cell? _ _ hx509_0;first|rwa [add_block] at this|exact this) GW506.out);replace hx509_0:=hC HB hx509_0;replace hx509_1:=hC HB hx509_1;replace hx509_0:=(cell_far (p:=⟨gb506,0,none⟩) (by first|(rw [add_block];exact hn509_0)|(show (Addr.add _ _).block≠_;rw [add_block];exact hn509_0)|exact hn509_0) (.int .i64 ((rd_T166 l0 x7_1).f0))).trans hx509_0;replace hx509_1:=(cell_far (p:=⟨gb506,0,none⟩) (by first|(rw [add_block];exact hn509_0)|(show (Addr.add _ _).block≠_;rw [add_block];exact hn509_0)|exact hn509_0) (.int .i64 ((rd_T166 l0 x7_1).f0))).trans hx509_1;replace hx509_0:=(cell_far (p:=⟨gb506,1,none⟩) (by first|(rw [add_block];exact hn509_1)|(show (Addr.add _ _).block≠_;rw [add_block];exact hn509_1)|exact hn509_1) (.int .i64 ((rd_T166 l0 x7_1).f1))).trans hx509_0;replace hx509_1:=(cell_far (p:=⟨gb506,1,none⟩) (by first|(rw [add_block];exact hn509_1)|(show (Addr.add _ _).block≠_;rw [add_block];exact hn509_1)|exact hn509_1) (.int .i64 ((rd_T166 l0 x7_1).f1))).trans hx509_1;(try have hy509_0:=fun (n_:Nat)=>(show ((((w16.drewN n_).setCell ⟨gb506,0,none⟩ (.int .i64 ((rd_T166 l0 x7_1).f0))).setCell ⟨gb506,1,none⟩ (.int .i64 ((rd_T166 l0 x7_1).f1)))).cell? _=some _ from hx509_0));(try have hy509_1:=fun (n_:Nat)=>(show ((((w16.drewN n_).setCell ⟨gb506,0,none⟩ (.int .i64 ((rd_T166 l0 x7_1).f0))).setCell ⟨gb506,1,none⟩ (.int .i64 ((rd_T166 l0 x7_1).f1)))).cell? _=some _ from hx509_1));clear hn509_0;clear hn509_1;replace p509:=eq_true p509;replace q509:=eq_true q509))
            repeat (go_quiet (first|((with_reducible refine gT 4 rfl ?_);refine bE 4 #[.int .i64 0,.int .i64 0] 166 ?_;intro gb506 hg w16 hbox hb;have BK506:=mA hbox;have GW506:=gbpB HB hg;have GE506:=gbpB HB hg;replace HB:=spB HB hb;clear hb hbox hg;obtain ⟨hcz17_0,hcz17_1,hfz17_0,hfz17_1⟩:=box2 BK506.out)|(go_at_call 65;(with_reducible refine (impl_in.calls A5.out).mono ?_);rintro e w' ⟨rfl,⟨nd,rfl⟩⟩;(try first|exact ⟨rfl,_,World.drewN_drewN _ _ _⟩|exact ⟨rfl,_,Eq.trans (World.drewN_drewN _ _ _) (congrArg (World.drewN _) (Nat.add_assoc _ _ _))⟩))|(go_at_call 65;(with_reducible refine (impl_in.calls A7.out).mono ?_);rintro e w' ⟨rfl,⟨nd,rfl⟩⟩;(try first|exact ⟨rfl,_,World.drewN_drewN _ _ _⟩|exact ⟨rfl,_,Eq.trans (World.drewN_drewN _ _ _) (congrArg (World.drewN _) (Nat.add_assoc _ _ _))⟩);have p509:0≤((ji10):Int):=of_decide_eq_true bA;have q509:(ji10)<(l0.length:Int):=of_decide_eq_true bA;obtain ⟨ad509,e509,hx509_0,hx509_1⟩:=at_T166 HR0.out (ji10) p509 q509;obtain rfl:ad505=ad509:=(by injection e509);have hn509_0:ad505.block≠gb506:=Nat.ne_of_lt (Nat.lt_of_lt_of_le (by have:=World.block_lt_of_cell? _ _ hx509_0;first|rwa [add_block] at this|exact this) GW506.out);have hn509_1:ad505.block≠gb506:=Nat.ne_of_lt (Nat.lt_of_lt_of_le (by have:=World.block_lt_of_cell? _ _ hx509_0;first|rwa [add_block] at this|exact this) GW506.out);replace hx509_0:=hC HB hx509_0;replace hx509_1:=hC HB hx509_1;replace hx509_0:=(cell_far (p:=⟨gb506,0,none⟩) (by first|(rw [add_block];exact hn509_0)|(show (Addr.add _ _).block≠_;rw [add_block];exact hn509_0)|exact hn509_0) (.int .i64 ((rd_T166 l0 x7_1).f0))).trans hx509_0;replace hx509_1:=(cell_far (p:=⟨gb506,0,none⟩) (by first|(rw [add_block];exact hn509_0)|(show (Addr.add _ _).block≠_;rw [add_block];exact hn509_0)|exact hn509_0) (.int .i64 ((rd_T166 l0 x7_1).f0))).trans hx509_1;replace hx509_0:=(cell_far (p:=⟨gb506,1,none⟩) (by first|(rw [add_block];exact hn509_1)|(show (Addr.add _ _).block≠_;rw [add_block];exact hn509_1)|exact hn509_1) (.int .i64 ((rd_T166 l0 x7_1).f1))).trans hx509_0;replace hx509_1:=(cell_far (p:=⟨gb506,1,none⟩) (by first|(rw [add_block];exact hn509_1)|(show (Addr.add _ _).block≠_;rw [add_block];exact hn509_1)|exact hn509_1) (.int .i64 ((rd_T166 l0 x7_1).f1))).trans hx509_1;(try have hy509_0:=fun (n_:Nat)=>(show ((((w16.drewN n_).setCell ⟨gb506,0,none⟩ (.int .i64 ((rd_T166 l0 x7_1).f0))).setCell ⟨gb506,1,none⟩ (.int .i64 ((rd_T166 l0 x7_1).f1)))).cell? _=some _ from hx509_0));(try have hy509_1:=fun (n_:Nat)=>(show ((((w16.drewN n_).setCell ⟨gb506,0,none⟩ (.int .i64 ((rd_T166 l0 x7_1).f0))).setCell ⟨gb506,1,none⟩ (.int .i64 ((rd_T166 l0 x7_1).f1)))).cell? _=some _ from hx509_1));clear hn509_0;clear hn509_1;replace p509:=eq_true p509;replace q509:=eq_true q509));try go_wp2_with (first|((with_reducible refine gT 4 rfl ?_);refine bE 4 #[.int .i64 0,.int .i64 0] 166 ?_;intro gb506 hg w16 hbox hb;have BK506:=mA hbox;have GW506:=gbpB HB hg;have GE506:=gbpB HB hg;replace HB:=spB HB hb;clear hb hbox hg;obtain ⟨hcz17_0,hcz17_1,hfz17_0,hfz17_1⟩:=box2 BK506.out)|(go_at_call 65;(with_reducible refine (impl_in.calls A5.out).mono ?_);rintro e w' ⟨rfl,⟨nd,rfl⟩⟩;(try first|exact ⟨rfl,_,World.drewN_drewN _ _ _⟩|exact ⟨rfl,_,Eq.trans (World.drewN_drewN _ _ _) (congrArg (World.drewN _) (Nat.add_assoc _ _ _))⟩))|(go_at_call 65;(with_reducible refine (impl_in.calls A7.out).mono ?_);rintro e w' ⟨rfl,⟨nd,rfl⟩⟩;(try first|exact ⟨rfl,_,World.drewN_drewN _ _ _⟩|exact ⟨rfl,_,Eq.trans (World.drewN_drewN _ _ _) (congrArg (World.drewN _) (Nat.add_assoc _ _ _))⟩);have p509:0≤((ji10):Int):=of_decide_eq_true bA;have q509:(ji10)<(l0.length:Int):=of_decide_eq_true bA;obtain ⟨ad509,e509,hx509_0,hx509_1⟩:=at_T166 HR0.out (ji10) p509 q509;obtain rfl:ad505=ad509:=(by injection e509);have hn509_0:ad505.block≠gb506:=Nat.ne_of_lt (Nat.lt_of_lt_of_le (by have:=World.block_lt_of_cell? _ _ hx509_0;first|rwa [add_block] at this|exact this) GW506.out);have hn509_1:ad505.block≠gb506:=Nat.ne_of_lt (Nat.lt_of_lt_of_le (by have:=World.block_lt_of_cell? _ _ hx509_0;first|rwa [add_block] at this|exact this) GW506.out);replace hx509_0:=hC HB hx509_0;replace hx509_1:=hC HB hx509_1;replace hx509_0:=(cell_far (p:=⟨gb506,0,none⟩) (by first|(rw [add_block];exact hn509_0)|(show (Addr.add _ _).block≠_;rw [add_block];exact hn509_0)|exact hn509_0) (.int .i64 ((rd_T166 l0 x7_1).f0))).trans hx509_0;replace hx509_1:=(cell_far (p:=⟨gb506,0,none⟩) (by first|(rw [add_block];exact hn509_0)|(show (Addr.add _ _).block≠_;rw [add_block];exact hn509_0)|exact hn509_0) (.int .i64 ((rd_T166 l0 x7_1).f0))).trans hx509_1;replace hx509_0:=(cell_far (p:=⟨gb506,1,none⟩) (by first|(rw [add_block];exact hn509_1)|(show (Addr.add _ _).block≠_;rw [add_block];exact hn509_1)|exact hn509_1) (.int .i64 ((rd_T166 l0 x7_1).f1))).trans hx509_0;replace hx509_1:=(cell_far (p:=⟨gb506,1,none⟩) (by first|(rw [add_block];exact hn509_1)|(show (Addr.add _ _).block≠_;rw [add_block];exact hn509_1)|exact hn509_1) (.int .i64 ((rd_T166 l0 x7_1).f1))).trans hx509_1;(try have hy509_0:=fun (n_:Nat)=>(show ((((w16.drewN n_).setCell ⟨gb506,0,none⟩ (.int .i64 ((rd_T166 l0 x7_1).f0))).setCell ⟨gb506,1,none⟩ (.int .i64 ((rd_T166 l0 x7_1).f1)))).cell? _=some _ from hx509_0));(try have hy509_1:=fun (n_:Nat)=>(show ((((w16.drewN n_).setCell ⟨gb506,0,none⟩ (.int .i64 ((rd_T166 l0 x7_1).f0))).setCell ⟨gb506,1,none⟩ (.int .i64 ((rd_T166 l0 x7_1).f1)))).cell? _=some _ from hx509_1));clear hn509_0;clear hn509_1;replace p509:=eq_true p509;replace q509:=eq_true q509)))
            go_roundg k1
            case measure=>have:=HK1.out;omega
            case rel=>exact ⟨(wrap64 (x7_1+1)),bZ,H',⟨by have:=HK1.out;omega⟩,⟨pS HB.out⟩⟩
          ·rw [if_neg c12] at H
           exact absurd H (by simp)
         ·rw [if_neg c11] at H
          exact absurd H (by simp)
        ·rw [if_neg c9] at H;have c9b0:decide (0<x7_1)=false:=decide_eq_false c9;clear c9;have H':=mA H;clear H;have p505:0≤(x7_1:Int):=of_decide_eq_true bA;have q505:x7_1<(l0.length:Int):=of_decide_eq_true bA;obtain ⟨ad505,e505,hx505_0,hx505_1⟩:=at_T166 HR0.out x7_1 p505 q505;cases e505;replace hx505_0:=hC HB hx505_0;replace hx505_1:=hC HB hx505_1;replace p505:=eq_true p505;replace q505:=eq_true q505
         go_wp2_with (first|((with_reducible refine gT 4 rfl ?_);refine bE 4 #[.int .i64 0,.int .i64 0] 166 ?_;intro gb506 hg w18 hbox hb;have BK506:=mA hbox;have GW506:=gbpB HB hg;have GE506:=gbpB HB hg;replace HB:=spB HB hb;clear hb hbox hg;obtain ⟨hcz19_0,hcz19_1,hfz19_0,hfz19_1⟩:=box2 BK506.out)|(go_at_call 65;(with_reducible refine (impl_in.calls A5.out).mono ?_);rintro e w' ⟨rfl,⟨nd,rfl⟩⟩;(try first|exact ⟨rfl,_,World.drewN_drewN _ _ _⟩|exact ⟨rfl,_,Eq.trans (World.drewN_drewN _ _ _) (congrArg (World.drewN _) (Nat.add_assoc _ _ _))⟩))|(go_at_call 65;(with_reducible refine (impl_in.calls A7.out).mono ?_);rintro e w' ⟨rfl,⟨nd,rfl⟩⟩;(try first|exact ⟨rfl,_,World.drewN_drewN _ _ _⟩|exact ⟨rfl,_,Eq.trans (World.drewN_drewN _ _ _) (congrArg (World.drewN _) (Nat.add_assoc _ _ _))⟩)))
         repeat (go_quiet (first|((with_reducible refine gT 4 rfl ?_);refine bE 4 #[.int .i64 0,.int .i64 0] 166 ?_;intro gb506 hg w18 hbox hb;have BK506:=mA hbox;have GW506:=gbpB HB hg;have GE506:=gbpB HB hg;replace HB:=spB HB hb;clear hb hbox hg;obtain ⟨hcz19_0,hcz19_1,hfz19_0,hfz19_1⟩:=box2 BK506.out)|(go_at_call 65;(with_reducible refine (impl_in.calls A5.out).mono ?_);rintro e w' ⟨rfl,⟨nd,rfl⟩⟩;(try first|exact ⟨rfl,_,World.drewN_drewN _ _ _⟩|exact ⟨rfl,_,Eq.trans (World.drewN_drewN _ _ _) (congrArg (World.drewN _) (Nat.add_assoc _ _ _))⟩))|(go_at_call 65;(with_reducible refine (impl_in.calls A7.out).mono ?_);rintro e w' ⟨rfl,⟨nd,rfl⟩⟩;(try first|exact ⟨rfl,_,World.drewN_drewN _ _ _⟩|exact ⟨rfl,_,Eq.trans (World.drewN_drewN _ _ _) (congrArg (World.drewN _) (Nat.add_assoc _ _ _))⟩)));try go_wp2_with (first|((with_reducible refine gT 4 rfl ?_);refine bE 4 #[.int .i64 0,.int .i64 0] 166 ?_;intro gb506 hg w18 hbox hb;have BK506:=mA hbox;have GW506:=gbpB HB hg;have GE506:=gbpB HB hg;replace HB:=spB HB hb;clear hb hbox hg;obtain ⟨hcz19_0,hcz19_1,hfz19_0,hfz19_1⟩:=box2 BK506.out)|(go_at_call 65;(with_reducible refine (impl_in.calls A5.out).mono ?_);rintro e w' ⟨rfl,⟨nd,rfl⟩⟩;(try first|exact ⟨rfl,_,World.drewN_drewN _ _ _⟩|exact ⟨rfl,_,Eq.trans (World.drewN_drewN _ _ _) (congrArg (World.drewN _) (Nat.add_assoc _ _ _))⟩))|(go_at_call 65;(with_reducible refine (impl_in.calls A7.out).mono ?_);rintro e w' ⟨rfl,⟨nd,rfl⟩⟩;(try first|exact ⟨rfl,_,World.drewN_drewN _ _ _⟩|exact ⟨rfl,_,Eq.trans (World.drewN_drewN _ _ _) (congrArg (World.drewN _) (Nat.add_assoc _ _ _))⟩))))
         go_roundg k1
         case measure=>have:=HK1.out;omega
         case rel=>exact ⟨(wrap64 (x7_1+1)),bZ,H',⟨by have:=HK1.out;omega⟩,⟨pS HB.out⟩⟩
       ·replace c8:=Bool.eq_false_iff.mpr c8;subst c8
        rw [if_neg nFT] at H
        obtain rfl:=Option.some.inj H;have p505:0≤(x7_1:Int):=of_decide_eq_true bA;have q505:x7_1<(l0.length:Int):=of_decide_eq_true bA;obtain ⟨ad505,e505,hx505_0,hx505_1⟩:=at_T166 HR0.out x7_1 p505 q505;cases e505;replace hx505_0:=hC HB hx505_0;replace hx505_1:=hC HB hx505_1;replace p505:=eq_true p505;replace q505:=eq_true q505
        go_wp2_with (first|((with_reducible refine gT 4 rfl ?_);refine bE 4 #[.int .i64 0,.int .i64 0] 166 ?_;intro gb506 hg w20 hbox hb;have BK506:=mA hbox;have GW506:=gbpB HB hg;have GE506:=gbpB HB hg;replace HB:=spB HB hb;clear hb hbox hg;obtain ⟨hcz21_0,hcz21_1,hfz21_0,hfz21_1⟩:=box2 BK506.out)|(go_at_call 65;(with_reducible refine (impl_in.calls A5.out).mono ?_);rintro e w' ⟨rfl,⟨nd,rfl⟩⟩;(try first|exact ⟨rfl,_,World.drewN_drewN _ _ _⟩|exact ⟨rfl,_,Eq.trans (World.drewN_drewN _ _ _) (congrArg (World.drewN _) (Nat.add_assoc _ _ _))⟩))|(go_at_call 65;(with_reducible refine (impl_in.calls A7.out).mono ?_);rintro e w' ⟨rfl,⟨nd,rfl⟩⟩;(try first|exact ⟨rfl,_,World.drewN_drewN _ _ _⟩|exact ⟨rfl,_,Eq.trans (World.drewN_drewN _ _ _) (congrArg (World.drewN _) (Nat.add_assoc _ _ _))⟩)))
        repeat (go_quiet (first|((with_reducible refine gT 4 rfl ?_);refine bE 4 #[.int .i64 0,.int .i64 0] 166 ?_;intro gb506 hg w20 hbox hb;have BK506:=mA hbox;have GW506:=gbpB HB hg;have GE506:=gbpB HB hg;replace HB:=spB HB hb;clear hb hbox hg;obtain ⟨hcz21_0,hcz21_1,hfz21_0,hfz21_1⟩:=box2 BK506.out)|(go_at_call 65;(with_reducible refine (impl_in.calls A5.out).mono ?_);rintro e w' ⟨rfl,⟨nd,rfl⟩⟩;(try first|exact ⟨rfl,_,World.drewN_drewN _ _ _⟩|exact ⟨rfl,_,Eq.trans (World.drewN_drewN _ _ _) (congrArg (World.drewN _) (Nat.add_assoc _ _ _))⟩))|(go_at_call 65;(with_reducible refine (impl_in.calls A7.out).mono ?_);rintro e w' ⟨rfl,⟨nd,rfl⟩⟩;(try first|exact ⟨rfl,_,World.drewN_drewN _ _ _⟩|exact ⟨rfl,_,Eq.trans (World.drewN_drewN _ _ _) (congrArg (World.drewN _) (Nat.add_assoc _ _ _))⟩)));try go_wp2_with (first|((with_reducible refine gT 4 rfl ?_);refine bE 4 #[.int .i64 0,.int .i64 0] 166 ?_;intro gb506 hg w20 hbox hb;have BK506:=mA hbox;have GW506:=gbpB HB hg;have GE506:=gbpB HB hg;replace HB:=spB HB hb;clear hb hbox hg;obtain ⟨hcz21_0,hcz21_1,hfz21_0,hfz21_1⟩:=box2 BK506.out)|(go_at_call 65;(with_reducible refine (impl_in.calls A5.out).mono ?_);rintro e w' ⟨rfl,⟨nd,rfl⟩⟩;(try first|exact ⟨rfl,_,World.drewN_drewN _ _ _⟩|exact ⟨rfl,_,Eq.trans (World.drewN_drewN _ _ _) (congrArg (World.drewN _) (Nat.add_assoc _ _ _))⟩))|(go_at_call 65;(with_reducible refine (impl_in.calls A7.out).mono ?_);rintro e w' ⟨rfl,⟨nd,rfl⟩⟩;(try first|exact ⟨rfl,_,World.drewN_drewN _ _ _⟩|exact ⟨rfl,_,Eq.trans (World.drewN_drewN _ _ _) (congrArg (World.drewN _) (Nat.add_assoc _ _ _))⟩))))
        go_ret
        exact rZ (pS HB.out)
      ·replace c6:=Bool.eq_false_iff.mpr c6;subst c6
       rw [if_neg nFT] at H
       obtain rfl:=Option.some.inj H;have p505:0≤(x7_1:Int):=of_decide_eq_true bA;have q505:x7_1<(l0.length:Int):=of_decide_eq_true bA;obtain ⟨ad505,e505,hx505_0,hx505_1⟩:=at_T166 HR0.out x7_1 p505 q505;cases e505;replace hx505_0:=hC HB hx505_0;replace hx505_1:=hC HB hx505_1;replace p505:=eq_true p505;replace q505:=eq_true q505
       go_wp2_with (first|((with_reducible refine gT 4 rfl ?_);refine bE 4 #[.int .i64 0,.int .i64 0] 166 ?_;intro gb506 hg w22 hbox hb;have BK506:=mA hbox;have GW506:=gbpB HB hg;have GE506:=gbpB HB hg;replace HB:=spB HB hb;clear hb hbox hg;obtain ⟨hcz23_0,hcz23_1,hfz23_0,hfz23_1⟩:=box2 BK506.out)|(go_at_call 65;(with_reducible refine (impl_in.calls A5.out).mono ?_);rintro e w' ⟨rfl,⟨nd,rfl⟩⟩;(try first|exact ⟨rfl,_,World.drewN_drewN _ _ _⟩|exact ⟨rfl,_,Eq.trans (World.drewN_drewN _ _ _) (congrArg (World.drewN _) (Nat.add_assoc _ _ _))⟩)))
       repeat (go_quiet (first|((with_reducible refine gT 4 rfl ?_);refine bE 4 #[.int .i64 0,.int .i64 0] 166 ?_;intro gb506 hg w22 hbox hb;have BK506:=mA hbox;have GW506:=gbpB HB hg;have GE506:=gbpB HB hg;replace HB:=spB HB hb;clear hb hbox hg;obtain ⟨hcz23_0,hcz23_1,hfz23_0,hfz23_1⟩:=box2 BK506.out)|(go_at_call 65;(with_reducible refine (impl_in.calls A5.out).mono ?_);rintro e w' ⟨rfl,⟨nd,rfl⟩⟩;(try first|exact ⟨rfl,_,World.drewN_drewN _ _ _⟩|exact ⟨rfl,_,Eq.trans (World.drewN_drewN _ _ _) (congrArg (World.drewN _) (Nat.add_assoc _ _ _))⟩)));try go_wp2_with (first|((with_reducible refine gT 4 rfl ?_);refine bE 4 #[.int .i64 0,.int .i64 0] 166 ?_;intro gb506 hg w22 hbox hb;have BK506:=mA hbox;have GW506:=gbpB HB hg;have GE506:=gbpB HB hg;replace HB:=spB HB hb;clear hb hbox hg;obtain ⟨hcz23_0,hcz23_1,hfz23_0,hfz23_1⟩:=box2 BK506.out)|(go_at_call 65;(with_reducible refine (impl_in.calls A5.out).mono ?_);rintro e w' ⟨rfl,⟨nd,rfl⟩⟩;(try first|exact ⟨rfl,_,World.drewN_drewN _ _ _⟩|exact ⟨rfl,_,Eq.trans (World.drewN_drewN _ _ _) (congrArg (World.drewN _) (Nat.add_assoc _ _ _))⟩))))
       go_ret
       exact rZ (pS HB.out)
     ·rw [if_neg c4] at H
      exact absurd H (by simp)
    ·rw [if_neg c3] at H
     exact absurd H (by simp)
   ·rw [if_neg c2] at H;have c2b0:decide (x7_1<(l0.length:Int))=false:=decide_eq_false c2;clear c2;obtain rfl:=Option.some.inj H
    go_wp2
    repeat (go_quiet (fail);try go_wp2)
    go_ret
    exact rZ (pB HB.out)

/-! ### impl_piecesNumbers: function 144 -/
def impl_piecesNumbers.l0 : Nat → List Int → List (S164) → Int → Int → Option (List Int)
 | 0,_,_,_,_=>none
 | k+1,x3,x9,x10,x11=>if x11<x10 then (if 0≤x11 then (if x11<(x9.length:Int) then ((some (([(rd_T164 x9 x11).f0,(rd_T164 x9 x11).f1,(rd_T164 x9 x11).f2,(rd_T164 x9 x11).f3]:List Int):List Int)).bind fun y515=>(if x3.length+y515.length<17592186044416 then (impl_piecesNumbers.l0 k (x3 ++ y515) x9 x10 (wrap64 (x11+1))) else (none))) else (none)) else (none)) else (some x3)
def impl_piecesNumbers.f (k : Nat) (l0 : List (S164)) : Option (List Int) := impl_piecesNumbers.l0 k (([(l0.length : Int)] : List Int)) l0 (l0.length : Int) 0
theorem impl_piecesNumbers.mono_l : ∀ k, (∀ y0 y1 y2 y3, LeO (impl_piecesNumbers.l0 k y0 y1 y2 y3) (impl_piecesNumbers.l0 (k + 1) y0 y1 y2 y3))
 | 0=>fun _ _ _ _ r h=>by simp [impl_piecesNumbers.l0] at h
 | k+1=>by
  have ih0:=impl_piecesNumbers.mono_l k
  ·intros
   unfold impl_piecesNumbers.l0
   repeat' first
   | (with_reducible first|apply ih0|exact LeO.refl _|exact LeO.none _|refine LeO.ite ?_ ?_|refine LeO.bind ?_ (fun _=>?_))|exact LeO.none _|refine LeO.ite ?_ ?_|refine LeO.bind ?_ (fun _=>?_)
theorem impl_piecesNumbers.mono : ∀ a0 k, LeO (impl_piecesNumbers.f k a0) (impl_piecesNumbers.f (k + 1) a0) := by
 intro a0 k;have ih0:=impl_piecesNumbers.mono_l k
 unfold impl_piecesNumbers.f
 repeat' first
   | (with_reducible first|apply ih0|exact LeO.refl _|exact LeO.none _|refine LeO.ite ?_ ?_|refine LeO.bind ?_ (fun _=>?_))|exact LeO.none _|refine LeO.ite ?_ ?_|refine LeO.bind ?_ (fun _=>?_)
set_option maxHeartbeats 8000000 in
set_option maxRecDepth 100000 in
theorem impl_piecesNumbers.calls {k : Nat} {A0 : Option Addr} {c0 : Nat} {l0 : List (S164)} {r : List Int} {w : World} (hr0 : Kd.C k164 w A0 l0.length l0) (hc0 : l0.length ≤ c0) (h : impl_piecesNumbers.f k l0 = some r) :
  Calls Try.prog 144 #[.slice A0 l0.length c0] w fun e w'=>∃ v0_:Value,e=.returned (v0_)∧Kd.R (Kd.int .i64) 3 w' w.heap.size (fun _=>True) v0_ r∧Below w.heap.size w w':=by
 have hu164:=Try.underlying164;have HR0:=mA hr0;have HC0:=mA hc0;clear hr0 hc0;have HB:=mA (Below.refl w.heap.size w);have H:(impl_piecesNumbers.l0 k (([(l0.length:Int)]:List Int)) l0 (l0.length:Int) 0)=some r:=h;clear h;obtain ⟨y510,hy510⟩:∃ y_:List Int,y_=(([(l0.length:Int)]:List Int)):=⟨_,rfl⟩
 replace H:(impl_piecesNumbers.l0 k y510 l0 (l0.length:Int) 0)=some r:=qH hy510 H
 have Ny510:=mA hy510;clear hy510;have H':=mA H;clear H
 go_enter Try.func144,Try.ntmps144
 go_wp2_with (first|((with_reducible refine gT 8 rfl ?_);refine Kd.R_lit (Kd.int .i64) _ 3 ?hg (N:=8) ?hd (xs:=([(l0.length:Int)]:List Int)) (inner:=[.int .i64 (l0.length:Int)]) (ok:=fun _=>True) (okp:=fun _=>True) ?hr ?hp (fun _ hk=>hk) trivial (Below.refl _ _) (Nat.le_refl _) (by simp) ?_;(case hd=>rfl);(case hg=>rfl);(case hr=>first|(go_simp;done)|(go_simp;rfl));(case hp=>exact (Reps.one (show Kd.M (Kd.int .i64) _ _ _ (l0.length:Int) [.int .i64 (l0.length:Int)] from rfl) (Reps.none _ _)));intro v511 w2 ho3 hb hg_ hnew_;clear hg_ hnew_;(first|rw [← Ny510.out] at ho3|(simp only [Int.reduceToNat] at ho3;rw [← Ny510.out] at ho3));have HO512:=mA (Kd.R_lower ho3 (bpB HB));replace HB:=spB HB hb;clear hb ho3))
 go_loopg [3,11] k (fun kq v3 v11 w'=>∃ (x3_1:List Int) (x11_1:Int),v11=.int .i64 x11_1∧Aside0 (impl_piecesNumbers.l0 kq x3_1 l0 (l0.length:Int) x11_1=some r)∧Aside0 (kq≤k)∧Aside0 (Kd.R (Kd.int .i64) 3 w' w.heap.size (fun _=>True) v3 x3_1)∧Aside0 (Below w.heap.size w w'))
 case atStart=>exact ⟨(y510),(0),bZ,H',⟨Nat.le_refl _⟩,⟨pR HO512.out⟩,⟨pB HB.out⟩⟩
 case round =>
  clear H'
  obtain ⟨x3_1,x11_1,rfl,HA,HK1,HO_3,HB⟩:=hrel
  cases gk with
  | zero=>exact absurd HA.out (by simp [impl_piecesNumbers.l0])
  | succ k1 =>
   have H:=HA.out;clear HA;simp only [impl_piecesNumbers.l0] at H
   by_cases c4:x11_1<(l0.length:Int)
   ·rw [if_pos c4] at H;have c4b0:decide (x11_1<(l0.length:Int))=true:=decide_eq_true c4;clear c4
    by_cases c5:0≤x11_1
    ·rw [if_pos c5] at H;have c5b0:decide (0≤x11_1)=true:=decide_eq_true c5;clear c5
     by_cases c6:x11_1<(l0.length:Int)
     ·rw [if_pos c6] at H;have c6b0:decide (x11_1<(l0.length:Int))=true:=decide_eq_true c6;clear c6;obtain ⟨y515,hy515⟩:∃ y_:List Int,y_=(([(rd_T164 l0 x11_1).f0,(rd_T164 l0 x11_1).f1,(rd_T164 l0 x11_1).f2,(rd_T164 l0 x11_1).f3]:List Int)):=⟨_,rfl⟩
      replace H:(if x3_1.length+y515.length<17592186044416 then (impl_piecesNumbers.l0 k1 (x3_1 ++ y515) l0 (l0.length:Int) (wrap64 (x11_1+1))) else (none))=some r:=qH hy515 H
      have Ny515:=mA hy515;clear hy515
      by_cases c7:x3_1.length+y515.length<17592186044416
      ·rw [if_pos c7] at H;have LMc7:=mA c7;clear c7;obtain ⟨y518,hy518⟩:∃ y_:List Int,y_=(x3_1 ++ y515):=⟨_,rfl⟩
       replace H:(impl_piecesNumbers.l0 k1 y518 l0 (l0.length:Int) (wrap64 (x11_1+1)))=some r:=qH hy518 H
       have Ny518:=mA hy518;clear hy518;have H':=mA H;clear H;have p513:0≤(x11_1:Int):=of_decide_eq_true bA;have q513:x11_1<(l0.length:Int):=of_decide_eq_true bA;obtain ⟨ad513,e513,hx513_0,hx513_1,hx513_2,hx513_3⟩:=at_T164 HR0.out x11_1 p513 q513;cases e513;replace hx513_0:=hC HB hx513_0;replace hx513_1:=hC HB hx513_1;replace hx513_2:=hC HB hx513_2;replace hx513_3:=hC HB hx513_3;replace p513:=eq_true p513;replace q513:=eq_true q513
       go_wp2_with (first|((with_reducible refine gT 5 rfl ?_);refine bJ 5 y164 ?_;intro gb514 hg w8 hbox hb;replace HO_3:=rB HO_3 hb;have BK514:=mA hbox;have GW514:=gbpB HB hg;have GE514:=gbpB HB hg;replace HB:=spB HB hb;clear hb hbox hg;obtain ⟨hcz9_0,hcz9_1,hcz9_2,hcz9_3,hfz9_0,hfz9_1,hfz9_2,hfz9_3⟩:=box4 BK514.out)|((with_reducible refine gT 24 rfl ?_);refine Kd.R_lit (Kd.int .i64) _ 3 ?hg (N:=24) ?hd (xs:=([(rd_T164 l0 x11_1).f0,(rd_T164 l0 x11_1).f1,(rd_T164 l0 x11_1).f2,(rd_T164 l0 x11_1).f3]:List Int)) (inner:=[.int .i64 ((rd_T164 l0 x11_1).f0),.int .i64 ((rd_T164 l0 x11_1).f1),.int .i64 ((rd_T164 l0 x11_1).f2),.int .i64 ((rd_T164 l0 x11_1).f3)]) (ok:=fun _=>True) (okp:=fun _=>True) ?hr ?hp (fun _ hk=>hk) trivial (Below.refl _ _) (Nat.le_refl _) (by simp) ?_;(case hd=>rfl);(case hg=>rfl);(case hr=>first|(go_simp;done)|(go_simp;rfl));(case hp=>exact (Reps.one (show Kd.M (Kd.int .i64) _ _ _ ((rd_T164 l0 x11_1).f0) [.int .i64 ((rd_T164 l0 x11_1).f0)] from rfl) (Reps.one (show Kd.M (Kd.int .i64) _ _ _ ((rd_T164 l0 x11_1).f1) [.int .i64 ((rd_T164 l0 x11_1).f1)] from rfl) (Reps.one (show Kd.M (Kd.int .i64) _ _ _ ((rd_T164 l0 x11_1).f2) [.int .i64 ((rd_T164 l0 x11_1).f2)] from rfl) (Reps.one (show Kd.M (Kd.int .i64) _ _ _ ((rd_T164 l0 x11_1).f3) [.int .i64 ((rd_T164 l0 x11_1).f3)] from rfl) (Reps.none _ _))))));intro v516 w10 ho11 hb hg_ hnew_;clear hg_ hnew_;(first|rw [← Ny515.out] at ho11|(simp only [Int.reduceToNat] at ho11;rw [← Ny515.out] at ho11));have HO517:=mA (Kd.R_lower (Kd.R_new' ho11 (Kd.R_lt (pG HO_3 BK514))) (bpS HB));replace HO_3:=mA (Kd.R_elder' (pG HO_3 BK514) (Kd.R_base ho11) hb);replace BK514:=mA (blk_below (g:=gb514) (o:=.cells #[.int .i64 ((rd_T164 l0 x11_1).f0),.int .i64 ((rd_T164 l0 x11_1).f1),.int .i64 ((rd_T164 l0 x11_1).f2),.int .i64 ((rd_T164 l0 x11_1).f3)] 164 (0,0)) (pP BK514) hb);replace HB:=spS HB hb;clear hb ho11;obtain ⟨Ao13,co13,rfl⟩:=Kd.R_slice HO517.out)|((with_reducible refine gate_builtin (b:=.append) (xs:=#[.tmp 15,.tmp 24]) rfl ?_);at_builtin;refine Kd.R_append_rows (Kd.int .i64) (w0:=w) w.heap.size rfl (.tmp 15) (.tmp 24) 23 3 (.int .i64 0) 8 rfl Try.underlying23 info3 rfl aD (by omega) u3 x3_1 y515 _ _ _ (fun k_=>some k_≠(.slice Ao13 y515.length co13:Value).ownBlock) (fun _=>False) rfl rfl ?aO ?aR (fun _ _ h=>h) (fun _ h=>h.elim) ?aF ?aB ?aS ?aL ?_;(case aR=>exact cR HO517);(case aB=>exact (pS HB.out));(case aF=>exact (fun k_ hk=>Kd.fresh' (rL HO517) k_ hk));(case aO=>exact (pR (Kd.R_mono HO_3.out (fun _ hk=>hk.2))));(case aS=>exact (bpS HB));(case aL=>have:=LMc7.out;omega);intro v519 w12 ho hb hg hat;rw [← Ny518.out] at ho;replace HO517:=mA (Kd.R_after (ok:=(fun _=>True)) (pR HO517.out) hg hat);have HO520:=mA ho;replace BK514:=mA (blk_grown (pK BK514.out) hg (rN HO_3 BK514));replace HB:=mA hb;clear HO_3;clear ho hb hg hat))
       go_roundg k1
       case measure=>have:=HK1.out;omega
       case rel=>exact ⟨(y518),(wrap64 (x11_1+1)),bZ,H',⟨by have:=HK1.out;omega⟩,⟨pR (Kd.R_mono HO520.out (fun _ hk=>trivial))⟩,⟨pS HB.out⟩⟩
      ·rw [if_neg c7] at H
       exact absurd H (by simp)
     ·rw [if_neg c6] at H
      exact absurd H (by simp)
    ·rw [if_neg c5] at H
     exact absurd H (by simp)
   ·rw [if_neg c4] at H;have c4b0:decide (x11_1<(l0.length:Int))=false:=decide_eq_false c4;clear c4;obtain rfl:=Option.some.inj H
    go_wp2
    go_ret
    exact ⟨_,by first|rfl|(simp [errW_none,errW_some]<;>rfl)|(simp [*,errW_none,errW_some]<;>rfl),pR HO_3.out,pB HB.out⟩

/-! ### impl_lastNumbers: function 145 -/
def impl_lastNumbers.l0 : Nat → List Int → List (S166) → Int → Int → Option (List Int)
 | 0,_,_,_,_=>none
 | k+1,x3,x9,x10,x11=>if x11<x10 then (if 0≤x11 then (if x11<(x9.length:Int) then ((some (([(rd_T166 x9 x11).f0,(rd_T166 x9 x11).f1]:List Int):List Int)).bind fun y526=>(if x3.length+y526.length<17592186044416 then (impl_lastNumbers.l0 k (x3 ++ y526) x9 x10 (wrap64 (x11+1))) else (none))) else (none)) else (none)) else (some x3)
def impl_lastNumbers.f (k : Nat) (l0 : List (S166)) : Option (List Int) := impl_lastNumbers.l0 k (([(l0.length : Int)] : List Int)) l0 (l0.length : Int) 0
theorem impl_lastNumbers.mono_l : ∀ k, (∀ y0 y1 y2 y3, LeO (impl_lastNumbers.l0 k y0 y1 y2 y3) (impl_lastNumbers.l0 (k + 1) y0 y1 y2 y3))
 | 0=>fun _ _ _ _ r h=>by simp [impl_lastNumbers.l0] at h
 | k+1=>by
  have ih0:=impl_lastNumbers.mono_l k
  ·intros
   unfold impl_lastNumbers.l0
   repeat' first
   | (with_reducible first|apply ih0|exact LeO.refl _|exact LeO.none _|refine LeO.ite ?_ ?_|refine LeO.bind ?_ (fun _=>?_))|exact LeO.none _|refine LeO.ite ?_ ?_|refine LeO.bind ?_ (fun _=>?_)
theorem impl_lastNumbers.mono : ∀ a0 k, LeO (impl_lastNumbers.f k a0) (impl_lastNumbers.f (k + 1) a0) := by
 intro a0 k;have ih0:=impl_lastNumbers.mono_l k
 unfold impl_lastNumbers.f
 repeat' first
   | (with_reducible first|apply ih0|exact LeO.refl _|exact LeO.none _|refine LeO.ite ?_ ?_|refine LeO.bind ?_ (fun _=>?_))|exact LeO.none _|refine LeO.ite ?_ ?_|refine LeO.bind ?_ (fun _=>?_)
set_option maxHeartbeats 8000000 in
set_option maxRecDepth 100000 in
theorem impl_lastNumbers.calls {k : Nat} {A0 : Option Addr} {c0 : Nat} {l0 : List (S166)} {r : List Int} {w : World} (hr0 : Kd.C k166 w A0 l0.length l0) (hc0 : l0.length ≤ c0) (h : impl_lastNumbers.f k l0 = some r) :
  Calls Try.prog 145 #[.slice A0 l0.length c0] w fun e w'=>∃ v0_:Value,e=.returned (v0_)∧Kd.R (Kd.int .i64) 3 w' w.heap.size (fun _=>True) v0_ r∧Below w.heap.size w w':=by
 have hu166:=Try.underlying166;have HR0:=mA hr0;have HC0:=mA hc0;clear hr0 hc0;have HB:=mA (Below.refl w.heap.size w);have H:(impl_lastNumbers.l0 k (([(l0.length:Int)]:List Int)) l0 (l0.length:Int) 0)=some r:=h;clear h;obtain ⟨y521,hy521⟩:∃ y_:List Int,y_=(([(l0.length:Int)]:List Int)):=⟨_,rfl⟩
 replace H:(impl_lastNumbers.l0 k y521 l0 (l0.length:Int) 0)=some r:=qH hy521 H
 have Ny521:=mA hy521;clear hy521;have H':=mA H;clear H
 go_enter Try.func145,Try.ntmps145
 go_wp2_with (first|((with_reducible refine gT 8 rfl ?_);refine Kd.R_lit (Kd.int .i64) _ 3 ?hg (N:=8) ?hd (xs:=([(l0.length:Int)]:List Int)) (inner:=[.int .i64 (l0.length:Int)]) (ok:=fun _=>True) (okp:=fun _=>True) ?hr ?hp (fun _ hk=>hk) trivial (Below.refl _ _) (Nat.le_refl _) (by simp) ?_;(case hd=>rfl);(case hg=>rfl);(case hr=>first|(go_simp;done)|(go_simp;rfl));(case hp=>exact (Reps.one (show Kd.M (Kd.int .i64) _ _ _ (l0.length:Int) [.int .i64 (l0.length:Int)] from rfl) (Reps.none _ _)));intro v522 w2 ho3 hb hg_ hnew_;clear hg_ hnew_;(first|rw [← Ny521.out] at ho3|(simp only [Int.reduceToNat] at ho3;rw [← Ny521.out] at ho3));have HO523:=mA (Kd.R_lower ho3 (bpB HB));replace HB:=spB HB hb;clear hb ho3))
 go_loopg [3,11] k (fun kq v3 v11 w'=>∃ (x3_1:List Int) (x11_1:Int),v11=.int .i64 x11_1∧Aside0 (impl_lastNumbers.l0 kq x3_1 l0 (l0.length:Int) x11_1=some r)∧Aside0 (kq≤k)∧Aside0 (Kd.R (Kd.int .i64) 3 w' w.heap.size (fun _=>True) v3 x3_1)∧Aside0 (Below w.heap.size w w'))
 case atStart=>exact ⟨(y521),(0),bZ,H',⟨Nat.le_refl _⟩,⟨pR HO523.out⟩,⟨pB HB.out⟩⟩
 case round =>
  clear H'
  obtain ⟨x3_1,x11_1,rfl,HA,HK1,HO_3,HB⟩:=hrel
  cases gk with
  | zero=>exact absurd HA.out (by simp [impl_lastNumbers.l0])
  | succ k1 =>
   have H:=HA.out;clear HA;simp only [impl_lastNumbers.l0] at H
   by_cases c4:x11_1<(l0.length:Int)
   ·rw [if_pos c4] at H;have c4b0:decide (x11_1<(l0.length:Int))=true:=decide_eq_true c4;clear c4
    by_cases c5:0≤x11_1
    ·rw [if_pos c5] at H;have c5b0:decide (0≤x11_1)=true:=decide_eq_true c5;clear c5
     by_cases c6:x11_1<(l0.length:Int)
     ·rw [if_pos c6] at H;have c6b0:decide (x11_1<(l0.length:Int))=true:=decide_eq_true c6;clear c6;obtain ⟨y526,hy526⟩:∃ y_:List Int,y_=(([(rd_T166 l0 x11_1).f0,(rd_T166 l0 x11_1).f1]:List Int)):=⟨_,rfl⟩
      replace H:(if x3_1.length+y526.length<17592186044416 then (impl_lastNumbers.l0 k1 (x3_1 ++ y526) l0 (l0.length:Int) (wrap64 (x11_1+1))) else (none))=some r:=qH hy526 H
      have Ny526:=mA hy526;clear hy526
      by_cases c7:x3_1.length+y526.length<17592186044416
      ·rw [if_pos c7] at H;have LMc7:=mA c7;clear c7;obtain ⟨y529,hy529⟩:∃ y_:List Int,y_=(x3_1 ++ y526):=⟨_,rfl⟩
       replace H:(impl_lastNumbers.l0 k1 y529 l0 (l0.length:Int) (wrap64 (x11_1+1)))=some r:=qH hy529 H
       have Ny529:=mA hy529;clear hy529;have H':=mA H;clear H;have p524:0≤(x11_1:Int):=of_decide_eq_true bA;have q524:x11_1<(l0.length:Int):=of_decide_eq_true bA;obtain ⟨ad524,e524,hx524_0,hx524_1⟩:=at_T166 HR0.out x11_1 p524 q524;cases e524;replace hx524_0:=hC HB hx524_0;replace hx524_1:=hC HB hx524_1;replace p524:=eq_true p524;replace q524:=eq_true q524
       go_wp2_with (first|((with_reducible refine gT 5 rfl ?_);refine bE 5 #[.int .i64 0,.int .i64 0] 166 ?_;intro gb525 hg w8 hbox hb;replace HO_3:=rB HO_3 hb;have BK525:=mA hbox;have GW525:=gbpB HB hg;have GE525:=gbpB HB hg;replace HB:=spB HB hb;clear hb hbox hg;obtain ⟨hcz9_0,hcz9_1,hfz9_0,hfz9_1⟩:=box2 BK525.out)|((with_reducible refine gT 20 rfl ?_);refine Kd.R_lit (Kd.int .i64) _ 3 ?hg (N:=20) ?hd (xs:=([(rd_T166 l0 x11_1).f0,(rd_T166 l0 x11_1).f1]:List Int)) (inner:=[.int .i64 ((rd_T166 l0 x11_1).f0),.int .i64 ((rd_T166 l0 x11_1).f1)]) (ok:=fun _=>True) (okp:=fun _=>True) ?hr ?hp (fun _ hk=>hk) trivial (Below.refl _ _) (Nat.le_refl _) (by simp) ?_;(case hd=>rfl);(case hg=>rfl);(case hr=>first|(go_simp;done)|(go_simp;rfl));(case hp=>exact (Reps.one (show Kd.M (Kd.int .i64) _ _ _ ((rd_T166 l0 x11_1).f0) [.int .i64 ((rd_T166 l0 x11_1).f0)] from rfl) (Reps.one (show Kd.M (Kd.int .i64) _ _ _ ((rd_T166 l0 x11_1).f1) [.int .i64 ((rd_T166 l0 x11_1).f1)] from rfl) (Reps.none _ _))));intro v527 w10 ho11 hb hg_ hnew_;clear hg_ hnew_;(first|rw [← Ny526.out] at ho11|(simp only [Int.reduceToNat] at ho11;rw [← Ny526.out] at ho11));have HO528:=mA (Kd.R_lower (Kd.R_new' ho11 (Kd.R_lt (pG HO_3 BK525))) (bpS HB));replace HO_3:=mA (Kd.R_elder' (pG HO_3 BK525) (Kd.R_base ho11) hb);replace BK525:=mA (blk_below (g:=gb525) (o:=.cells #[.int .i64 ((rd_T166 l0 x11_1).f0),.int .i64 ((rd_T166 l0 x11_1).f1)] 166 (0,0)) (pP BK525) hb);replace HB:=spS HB hb;clear hb ho11;obtain ⟨Ao13,co13,rfl⟩:=Kd.R_slice HO528.out)|((with_reducible refine gate_builtin (b:=.append) (xs:=#[.tmp 15,.tmp 20]) rfl ?_);at_builtin;refine Kd.R_append_rows (Kd.int .i64) (w0:=w) w.heap.size rfl (.tmp 15) (.tmp 20) 23 3 (.int .i64 0) 8 rfl Try.underlying23 info3 rfl aD (by omega) u3 x3_1 y526 _ _ _ (fun k_=>some k_≠(.slice Ao13 y526.length co13:Value).ownBlock) (fun _=>False) rfl rfl ?aO ?aR (fun _ _ h=>h) (fun _ h=>h.elim) ?aF ?aB ?aS ?aL ?_;(case aR=>exact cR HO528);(case aB=>exact (pS HB.out));(case aF=>exact (fun k_ hk=>Kd.fresh' (rL HO528) k_ hk));(case aO=>exact (pR (Kd.R_mono HO_3.out (fun _ hk=>hk.2))));(case aS=>exact (bpS HB));(case aL=>have:=LMc7.out;omega);intro v530 w12 ho hb hg hat;rw [← Ny529.out] at ho;replace HO528:=mA (Kd.R_after (ok:=(fun _=>True)) (pR HO528.out) hg hat);have HO531:=mA ho;replace BK525:=mA (blk_grown (pK BK525.out) hg (rN HO_3 BK525));replace HB:=mA hb;clear HO_3;clear ho hb hg hat))
       go_roundg k1
       case measure=>have:=HK1.out;omega
       case rel=>exact ⟨(y529),(wrap64 (x11_1+1)),bZ,H',⟨by have:=HK1.out;omega⟩,⟨pR (Kd.R_mono HO531.out (fun _ hk=>trivial))⟩,⟨pS HB.out⟩⟩
      ·rw [if_neg c7] at H
       exact absurd H (by simp)
     ·rw [if_neg c6] at H
      exact absurd H (by simp)
    ·rw [if_neg c5] at H
     exact absurd H (by simp)
   ·rw [if_neg c4] at H;have c4b0:decide (x11_1<(l0.length:Int))=false:=decide_eq_false c4;clear c4;obtain rfl:=Option.some.inj H
    go_wp2
    go_ret
    exact ⟨_,by first|rfl|(simp [errW_none,errW_some]<;>rfl)|(simp [*,errW_none,errW_some]<;>rfl),pR HO_3.out,pB HB.out⟩

/-! ### impl_wordNumbers: function 113 -/
def impl_wordNumbers.f (k : Nat) (a0_0 a0_1 a0_2 a0_3 a0_4 a0_5 a0_6 a0_7 a0_8 a0_9 a0_10 a0_11 a0_12 a0_13 a0_14 a0_15 a0_16 a0_17 a0_18 a0_19 a0_20 a0_21 a0_22 a0_23 : Int) (l0_24 : List (S164)) (l0_25 : List (S166)) : Option (List Int) := (some (([a0_0, a0_1, a0_2, a0_3, a0_4, a0_5] : List Int) : List Int)).bind fun y533 => ((impl_cmdNumbers.f a0_6 a0_7 a0_8 a0_9 a0_10 a0_11 a0_12 a0_13 a0_14 a0_15).bind fun t536 => (if y533.length + t536.length < 17592186044416 then ((some (y533 ++ t536 : List Int)).bind fun y539 => ((some (([a0_16, a0_17, a0_18, a0_19, a0_20, a0_21, a0_22, a0_23] : List Int) : List Int)).bind fun y542 => (if y539.length + y542.length < 17592186044416 then ((some (y539 ++ y542 : List Int)).bind fun y545 => ((impl_piecesNumbers.f k l0_24).bind fun t548 => (if y545.length + t548.length < 17592186044416 then ((some (y545 ++ t548 : List Int)).bind fun y551 => ((impl_lastNumbers.f k l0_25).bind fun t554 => (if y551.length + t554.length < 17592186044416 then (some (y551 ++ t554)) else (none)))) else (none)))) else (none)))) else (none)))
theorem impl_wordNumbers.mono : ∀ a0 a1 a2 a3 a4 a5 a6 a7 a8 a9 a10 a11 a12 a13 a14 a15 a16 a17 a18 a19 a20 a21 a22 a23 a24 a25 k, LeO (impl_wordNumbers.f k a0 a1 a2 a3 a4 a5 a6 a7 a8 a9 a10 a11 a12 a13 a14 a15 a16 a17 a18 a19 a20 a21 a22 a23 a24 a25) (impl_wordNumbers.f (k + 1) a0 a1 a2 a3 a4 a5 a6 a7 a8 a9 a10 a11 a12 a13 a14 a15 a16 a17 a18 a19 a20 a21 a22 a23 a24 a25) := by
 intro a0 a1 a2 a3 a4 a5 a6 a7 a8 a9 a10 a11 a12 a13 a14 a15 a16 a17 a18 a19 a20 a21 a22 a23 a24 a25 k
 unfold impl_wordNumbers.f
 repeat' first
   | (with_reducible first|apply impl_lastNumbers.mono|apply impl_piecesNumbers.mono|exact LeO.refl _|exact LeO.none _|refine LeO.ite ?_ ?_|refine LeO.bind ?_ (fun _=>?_))|exact LeO.none _|refine LeO.ite ?_ ?_|refine LeO.bind ?_ (fun _=>?_)
set_option maxHeartbeats 8000000 in
set_option maxRecDepth 100000 in
theorem impl_wordNumbers.calls {k : Nat} {a0_0 a0_1 a0_2 a0_3 a0_4 a0_5 a0_6 a0_7 a0_8 a0_9 a0_10 a0_11 a0_12 a0_13 a0_14 a0_15 a0_16 a0_17 a0_18 a0_19 a0_20 a0_21 a0_22 a0_23 : Int} {A0_24 : Option Addr} {c0_24 : Nat} {l0_24 : List (S164)} {A0_25 : Option Addr} {c0_25 : Nat} {l0_25 : List (S166)} {r : List Int} {w : World} (hr0_24 : Kd.C k164 w A0_24 l0_24.length l0_24) (hc0_24 : l0_24.length ≤ c0_24) (hr0_25 : Kd.C k166 w A0_25 l0_25.length l0_25) (hc0_25 : l0_25.length ≤ c0_25) (h : impl_wordNumbers.f k a0_0 a0_1 a0_2 a0_3 a0_4 a0_5 a0_6 a0_7 a0_8 a0_9 a0_10 a0_11 a0_12 a0_13 a0_14 a0_15 a0_16 a0_17 a0_18 a0_19 a0_20 a0_21 a0_22 a0_23 l0_24 l0_25 = some r) :
  Calls Try.prog 113 #[.agg #[.int .i64 a0_0,.int .i64 a0_1,.int .i64 a0_2,.int .i64 a0_3,.int .i64 a0_4,.int .i64 a0_5,.int .i64 a0_6,.int .i64 a0_7,.int .i64 a0_8,.int .i64 a0_9,.int .i64 a0_10,.int .i64 a0_11,.int .i64 a0_12,.int .i64 a0_13,.int .i64 a0_14,.int .i64 a0_15,.int .i64 a0_16,.int .i64 a0_17,.int .i64 a0_18,.int .i64 a0_19,.int .i64 a0_20,.int .i64 a0_21,.int .i64 a0_22,.int .i64 a0_23,.slice A0_24 l0_24.length c0_24,.slice A0_25 l0_25.length c0_25]] w fun e w'=>∃ v0_:Value,e=.returned (v0_)∧Kd.R (Kd.int .i64) 3 w' w.heap.size (fun _=>True) v0_ r∧Below w.heap.size w w':=by
 have hu93:=Try.underlying93;have hu44:=Try.underlying44;have HR0_24:=mA hr0_24;have HC0_24:=mA hc0_24;clear hr0_24 hc0_24;have HR0_25:=mA hr0_25;have HC0_25:=mA hc0_25;clear hr0_25 hc0_25;have HB:=mA (Below.refl w.heap.size w);have H:((some (([a0_0,a0_1,a0_2,a0_3,a0_4,a0_5]:List Int):List Int)).bind fun y533=>((impl_cmdNumbers.f a0_6 a0_7 a0_8 a0_9 a0_10 a0_11 a0_12 a0_13 a0_14 a0_15).bind fun t536=>(if y533.length+t536.length<17592186044416 then ((some (y533 ++ t536:List Int)).bind fun y539=>((some (([a0_16,a0_17,a0_18,a0_19,a0_20,a0_21,a0_22,a0_23]:List Int):List Int)).bind fun y542=>(if y539.length+y542.length<17592186044416 then ((some (y539 ++ y542:List Int)).bind fun y545=>((impl_piecesNumbers.f k l0_24).bind fun t548=>(if y545.length+t548.length<17592186044416 then ((some (y545 ++ t548:List Int)).bind fun y551=>((impl_lastNumbers.f k l0_25).bind fun t554=>(if y551.length+t554.length<17592186044416 then (some (y551 ++ t554)) else (none)))) else (none)))) else (none)))) else (none))))=some r:=h;clear h;obtain ⟨y533,hy533⟩:∃ y_:List Int,y_=(([a0_0,a0_1,a0_2,a0_3,a0_4,a0_5]:List Int)):=⟨_,rfl⟩
 replace H:((impl_cmdNumbers.f a0_6 a0_7 a0_8 a0_9 a0_10 a0_11 a0_12 a0_13 a0_14 a0_15).bind fun t536=>(if y533.length+t536.length<17592186044416 then ((some (y533 ++ t536:List Int)).bind fun y539=>((some (([a0_16,a0_17,a0_18,a0_19,a0_20,a0_21,a0_22,a0_23]:List Int):List Int)).bind fun y542=>(if y539.length+y542.length<17592186044416 then ((some (y539 ++ y542:List Int)).bind fun y545=>((impl_piecesNumbers.f k l0_24).bind fun t548=>(if y545.length+t548.length<17592186044416 then ((some (y545 ++ t548:List Int)).bind fun y551=>((impl_lastNumbers.f k l0_25).bind fun t554=>(if y551.length+t554.length<17592186044416 then (some (y551 ++ t554)) else (none)))) else (none)))) else (none)))) else (none)))=some r:=qH hy533 H
 have Ny533:=mA hy533;clear hy533;obtain ⟨t536,A2,H⟩:=bI H;(try dsimp only at H)
 by_cases c3:y533.length+t536.length<17592186044416
 ·rw [if_pos c3] at H;have LMc3:=mA c3;clear c3;obtain ⟨y539,hy539⟩:∃ y_:List Int,y_=(y533 ++ t536):=⟨_,rfl⟩
  replace H:((some (([a0_16,a0_17,a0_18,a0_19,a0_20,a0_21,a0_22,a0_23]:List Int):List Int)).bind fun y542=>(if y539.length+y542.length<17592186044416 then ((some (y539 ++ y542:List Int)).bind fun y545=>((impl_piecesNumbers.f k l0_24).bind fun t548=>(if y545.length+t548.length<17592186044416 then ((some (y545 ++ t548:List Int)).bind fun y551=>((impl_lastNumbers.f k l0_25).bind fun t554=>(if y551.length+t554.length<17592186044416 then (some (y551 ++ t554)) else (none)))) else (none)))) else (none)))=some r:=qH hy539 H
  have Ny539:=mA hy539;clear hy539;obtain ⟨y542,hy542⟩:∃ y_:List Int,y_=(([a0_16,a0_17,a0_18,a0_19,a0_20,a0_21,a0_22,a0_23]:List Int)):=⟨_,rfl⟩
  replace H:(if y539.length+y542.length<17592186044416 then ((some (y539 ++ y542:List Int)).bind fun y545=>((impl_piecesNumbers.f k l0_24).bind fun t548=>(if y545.length+t548.length<17592186044416 then ((some (y545 ++ t548:List Int)).bind fun y551=>((impl_lastNumbers.f k l0_25).bind fun t554=>(if y551.length+t554.length<17592186044416 then (some (y551 ++ t554)) else (none)))) else (none)))) else (none))=some r:=qH hy542 H
  have Ny542:=mA hy542;clear hy542
  by_cases c4:y539.length+y542.length<17592186044416
  ·rw [if_pos c4] at H;have LMc4:=mA c4;clear c4;obtain ⟨y545,hy545⟩:∃ y_:List Int,y_=(y539 ++ y542):=⟨_,rfl⟩
   replace H:((impl_piecesNumbers.f k l0_24).bind fun t548=>(if y545.length+t548.length<17592186044416 then ((some (y545 ++ t548:List Int)).bind fun y551=>((impl_lastNumbers.f k l0_25).bind fun t554=>(if y551.length+t554.length<17592186044416 then (some (y551 ++ t554)) else (none)))) else (none)))=some r:=qH hy545 H
   have Ny545:=mA hy545;clear hy545;obtain ⟨t548,A5,H⟩:=bI H;(try dsimp only at H)
   by_cases c6:y545.length+t548.length<17592186044416
   ·rw [if_pos c6] at H;have LMc6:=mA c6;clear c6;obtain ⟨y551,hy551⟩:∃ y_:List Int,y_=(y545 ++ t548):=⟨_,rfl⟩
    replace H:((impl_lastNumbers.f k l0_25).bind fun t554=>(if y551.length+t554.length<17592186044416 then (some (y551 ++ t554)) else (none)))=some r:=qH hy551 H
    have Ny551:=mA hy551;clear hy551;obtain ⟨t554,A7,H⟩:=bI H;(try dsimp only at H)
    by_cases c8:y551.length+t554.length<17592186044416
    ·rw [if_pos c8] at H;have LMc8:=mA c8;clear c8;obtain ⟨y557,hy557⟩:∃ y_:List Int,y_=(y551 ++ t554):=⟨_,rfl⟩
     replace H:(some y557)=some r:=qH hy557 H
     have Ny557:=mA hy557;clear hy557;obtain rfl:=Option.some.inj H
     go_enter Try.func113,Try.ntmps113
     go_wp2_with (first|((with_reducible refine gLg rfl (by assumption) ?_);refine ldV ?_)|((with_reducible refine gSt rfl (by assumption) ?_);refine stV ?_)|((with_reducible refine gT 1 rfl ?_);refine bX 1 ?_;intro gb532 hg w9 hbox hb;have BK532:=mA hbox;have GW532:=gbpB HB hg;have GE532:=gbpB HB hg;replace HB:=spB HB hb;clear hb hbox hg;have hcz10_0:=fun i_=>blk_cell BK532.out i_;have hfz10_0:=fun i_=>blk_frozen BK532.out i_)|((with_reducible refine gT 16 rfl ?_);refine Kd.R_lit (Kd.int .i64) _ 3 ?hg (N:=16) ?hd (xs:=([a0_0,a0_1,a0_2,a0_3,a0_4,a0_5]:List Int)) (inner:=[.int .i64 a0_0,.int .i64 a0_1,.int .i64 a0_2,.int .i64 a0_3,.int .i64 a0_4,.int .i64 a0_5]) (ok:=fun _=>True) (okp:=fun _=>True) ?hr ?hp (fun _ hk=>hk) trivial (Below.refl _ _) (Nat.le_refl _) (by simp) ?_;(case hd=>rfl);(case hg=>rfl);(case hr=>first|(go_simp;done)|(go_simp;rfl));(case hp=>exact (Reps.one (show Kd.M (Kd.int .i64) _ _ _ a0_0 [.int .i64 a0_0] from rfl) (Reps.one (show Kd.M (Kd.int .i64) _ _ _ a0_1 [.int .i64 a0_1] from rfl) (Reps.one (show Kd.M (Kd.int .i64) _ _ _ a0_2 [.int .i64 a0_2] from rfl) (Reps.one (show Kd.M (Kd.int .i64) _ _ _ a0_3 [.int .i64 a0_3] from rfl) (Reps.one (show Kd.M (Kd.int .i64) _ _ _ a0_4 [.int .i64 a0_4] from rfl) (Reps.one (show Kd.M (Kd.int .i64) _ _ _ a0_5 [.int .i64 a0_5] from rfl) (Reps.none _ _))))))));intro v534 w11 ho12 hb hg_ hnew_;clear hg_ hnew_;(first|rw [← Ny533.out] at ho12|(simp only [Int.reduceToNat] at ho12;rw [← Ny533.out] at ho12));have HO535:=mA (Kd.R_lower ho12 (bpS HB));replace BK532:=bK BK532 hb;replace HB:=spS HB hb;clear hb ho12;have hcz13_0:=fun i_=>blk_cell BK532.out i_;have hfz13_0:=fun i_=>blk_frozen BK532.out i_)|((with_reducible refine gT 20 rfl ?_);refine gC (some 20) Try.func140 (impl_cmdNumbers.calls A2.out) ?_;rintro e w14 ⟨v537,rfl,ho0,hb⟩;refine ⟨_,rfl,?_⟩;have HO538:=mA (Kd.R_lower (Kd.R_new' ho0 (rL HO535)) (bpS HB));replace HO535:=rE HO535 ho0 hb;replace BK532:=bK BK532 hb;replace HB:=spS HB hb;(try clear hb);(try clear ho0);obtain ⟨Ao16,co16,rfl⟩:=Kd.R_slice HO538.out)|((with_reducible refine gate_builtin (b:=.append) (xs:=#[.tmp 17,.tmp 20]) rfl ?_);at_builtin;refine Kd.R_append_rows (Kd.int .i64) (w0:=w) w.heap.size rfl (.tmp 17) (.tmp 20) 23 3 (.int .i64 0) 8 rfl Try.underlying23 info3 rfl aD (by omega) v534 y533 t536 _ _ _ (fun k_=>some k_≠(.slice Ao16 t536.length co16:Value).ownBlock) (fun _=>False) rfl rfl ?aO ?aR (fun _ _ h=>h) (fun _ h=>h.elim) ?aF ?aB ?aS ?aL ?_;(case aR=>exact cR HO538);(case aB=>exact (pS HB.out));(case aF=>exact (fun k_ hk=>Kd.fresh' (rL HO538) k_ hk));(case aO=>exact (pR (Kd.R_mono HO535.out (fun _ hk=>hk.2))));(case aS=>exact (bpS HB));(case aL=>have:=LMc3.out;omega);intro v540 w15 ho hb hg hat;rw [← Ny539.out] at ho;replace HO538:=mA (Kd.R_after (ok:=(fun _=>True)) (pR HO538.out) hg hat);have HO541:=mA ho;replace BK532:=mA (blk_grown (pK BK532.out) hg (rN HO535 BK532));replace HB:=mA hb;clear HO535;clear ho hb hg hat;have hcz17_0:=fun i_=>blk_cell BK532.out i_;have hfz17_0:=fun i_=>blk_frozen BK532.out i_)|((with_reducible refine gT 39 rfl ?_);refine Kd.R_lit (Kd.int .i64) _ 3 ?hg (N:=39) ?hd (xs:=([a0_16,a0_17,a0_18,a0_19,a0_20,a0_21,a0_22,a0_23]:List Int)) (inner:=[.int .i64 a0_16,.int .i64 a0_17,.int .i64 a0_18,.int .i64 a0_19,.int .i64 a0_20,.int .i64 a0_21,.int .i64 a0_22,.int .i64 a0_23]) (ok:=fun _=>True) (okp:=fun _=>True) ?hr ?hp (fun _ hk=>hk) trivial (Below.refl _ _) (Nat.le_refl _) (by simp) ?_;(case hd=>rfl);(case hg=>rfl);(case hr=>first|(go_simp;done)|(go_simp;rfl));(case hp=>exact (Reps.one (show Kd.M (Kd.int .i64) _ _ _ a0_16 [.int .i64 a0_16] from rfl) (Reps.one (show Kd.M (Kd.int .i64) _ _ _ a0_17 [.int .i64 a0_17] from rfl) (Reps.one (show Kd.M (Kd.int .i64) _ _ _ a0_18 [.int .i64 a0_18] from rfl) (Reps.one (show Kd.M (Kd.int .i64) _ _ _ a0_19 [.int .i64 a0_19] from rfl) (Reps.one (show Kd.M (Kd.int .i64) _ _ _ a0_20 [.int .i64 a0_20] from rfl) (Reps.one (show Kd.M (Kd.int .i64) _ _ _ a0_21 [.int .i64 a0_21] from rfl) (Reps.one (show Kd.M (Kd.int .i64) _ _ _ a0_22 [.int .i64 a0_22] from rfl) (Reps.one (show Kd.M (Kd.int .i64) _ _ _ a0_23 [.int .i64 a0_23] from rfl) (Reps.none _ _))))))))));intro v543 w18 ho19 hb hg_ hnew_;clear hg_ hnew_;(first|rw [← Ny542.out] at ho19|(simp only [Int.reduceToNat] at ho19;rw [← Ny542.out] at ho19));have HO544:=mA (Kd.R_lower (Kd.R_new' (Kd.R_new' ho19 (rL HO538)) (rL HO541)) (bpS HB));replace HO538:=rE HO538 ho19 hb;replace HO541:=rE HO541 ho19 hb;replace BK532:=bK BK532 hb;replace HB:=spS HB hb;clear hb ho19;obtain ⟨Ao21,co21,rfl⟩:=Kd.R_slice HO544.out)|((with_reducible refine gate_builtin (b:=.append) (xs:=#[.tmp 22,.tmp 39]) rfl ?_);at_builtin;refine Kd.R_append_rows (Kd.int .i64) (w0:=w) w.heap.size rfl (.tmp 22) (.tmp 39) 23 3 (.int .i64 0) 8 rfl Try.underlying23 info3 rfl aD (by omega) v540 y539 y542 _ _ _ (fun k_=>some k_≠(.slice Ao16 t536.length co16:Value).ownBlock∧some k_≠(.slice Ao21 y542.length co21:Value).ownBlock) (fun _=>False) rfl rfl ?aO ?aR (fun _ _ h=>h) (fun _ h=>h.elim) ?aF ?aB ?aS ?aL ?_;(case aR=>exact cR HO544);(case aB=>exact (pS HB.out));(case aF=>exact (fun k_ hk=>⟨Kd.fresh' (rL HO538) k_ hk,Kd.fresh' (rL HO544) k_ hk⟩));(case aO=>exact (pR HO541.out));(case aS=>exact (bpS HB));(case aL=>have:=LMc4.out;omega);intro v546 w20 ho hb hg hat;rw [← Ny545.out] at ho;replace HO538:=mA (Kd.R_after (ok:=(fun k_=>some k_≠(.slice Ao21 y542.length co21:Value).ownBlock)) (pR (Kd.R_mono HO538.out (fun _ hk=>⟨hk.2,hk.1.2⟩))) hg hat);replace HO544:=mA (Kd.R_after (ok:=(fun k_=>some k_≠(.slice Ao16 t536.length co16:Value).ownBlock)) (pR (Kd.R_mono HO544.out (fun _ hk=>⟨hk.1.2,hk.2⟩))) hg hat);have HO547:=mA ho;replace BK532:=mA (blk_grown (pK BK532.out) hg (rN HO541 BK532));replace HB:=mA hb;clear HO541;clear ho hb hg hat;have hcz22_0:=fun i_=>blk_cell BK532.out i_;have hfz22_0:=fun i_=>blk_frozen BK532.out i_)|((with_reducible refine gT 44 rfl ?_);refine gC (some 44) Try.func144 (impl_piecesNumbers.calls (cB HR0_24 HB) HC0_24.out A5.out) ?_;rintro e w23 ⟨v549,rfl,ho0,hb⟩;refine ⟨_,rfl,?_⟩;have HO550:=mA (Kd.R_lower (Kd.R_new' (Kd.R_new' (Kd.R_new' ho0 (rL HO538)) (rL HO544)) (rL HO547)) (bpS HB));replace HO538:=rE HO538 ho0 hb;replace HO544:=rE HO544 ho0 hb;replace HO547:=rE HO547 ho0 hb;replace BK532:=bK BK532 hb;replace HB:=spS HB hb;(try clear hb);(try clear ho0);obtain ⟨Ao25,co25,rfl⟩:=Kd.R_slice HO550.out)|((with_reducible refine gate_builtin (b:=.append) (xs:=#[.tmp 41,.tmp 44]) rfl ?_);at_builtin;refine Kd.R_append_rows (Kd.int .i64) (w0:=w) w.heap.size rfl (.tmp 41) (.tmp 44) 23 3 (.int .i64 0) 8 rfl Try.underlying23 info3 rfl aD (by omega) v546 y545 t548 _ _ _ (fun k_=>some k_≠(.slice Ao16 t536.length co16:Value).ownBlock∧some k_≠(.slice Ao21 y542.length co21:Value).ownBlock∧some k_≠(.slice Ao25 t548.length co25:Value).ownBlock) (fun _=>False) rfl rfl ?aO ?aR (fun _ _ h=>h) (fun _ h=>h.elim) ?aF ?aB ?aS ?aL ?_;(case aR=>exact cR HO550);(case aB=>exact (pS HB.out));(case aF=>exact (fun k_ hk=>⟨Kd.fresh' (rL HO538) k_ hk,Kd.fresh' (rL HO544) k_ hk,Kd.fresh' (rL HO550) k_ hk⟩));(case aO=>exact (pR (Kd.R_mono HO547.out (fun _ hk=>⟨hk.1.1,⟨hk.1.2,hk.2⟩⟩))));(case aS=>exact (bpS HB));(case aL=>have:=LMc6.out;omega);intro v552 w24 ho hb hg hat;rw [← Ny551.out] at ho;replace HO538:=mA (Kd.R_after (ok:=(fun k_=>some k_≠(.slice Ao21 y542.length co21:Value).ownBlock∧some k_≠(.slice Ao25 t548.length co25:Value).ownBlock)) (pR (Kd.R_mono HO538.out (fun _ hk=>⟨⟨hk.1.1,hk.2⟩,hk.1.2⟩))) hg hat);replace HO544:=mA (Kd.R_after (ok:=(fun k_=>some k_≠(.slice Ao16 t536.length co16:Value).ownBlock∧some k_≠(.slice Ao25 t548.length co25:Value).ownBlock)) (pR (Kd.R_mono HO544.out (fun _ hk=>⟨⟨hk.1.1,hk.2⟩,hk.1.2⟩))) hg hat);replace HO550:=mA (Kd.R_after (ok:=(fun k_=>some k_≠(.slice Ao16 t536.length co16:Value).ownBlock∧some k_≠(.slice Ao21 y542.length co21:Value).ownBlock)) (pR (Kd.R_mono HO550.out (fun _ hk=>⟨⟨hk.1.1.2,hk.1.2⟩,hk.2⟩))) hg hat);have HO553:=mA ho;replace BK532:=mA (blk_grown (pK BK532.out) hg (rN HO547 BK532));replace HB:=mA hb;clear HO547;clear ho hb hg hat;have hcz26_0:=fun i_=>blk_cell BK532.out i_;have hfz26_0:=fun i_=>blk_frozen BK532.out i_)|((with_reducible refine gT 49 rfl ?_);refine gC (some 49) Try.func145 (impl_lastNumbers.calls (cB HR0_25 HB) HC0_25.out A7.out) ?_;rintro e w27 ⟨v555,rfl,ho0,hb⟩;refine ⟨_,rfl,?_⟩;have HO556:=mA (Kd.R_lower (Kd.R_new' (Kd.R_new' (Kd.R_new' (Kd.R_new' ho0 (rL HO538)) (rL HO544)) (rL HO550)) (rL HO553)) (bpS HB));replace HO538:=rE HO538 ho0 hb;replace HO544:=rE HO544 ho0 hb;replace HO550:=rE HO550 ho0 hb;replace HO553:=rE HO553 ho0 hb;replace BK532:=bK BK532 hb;replace HB:=spS HB hb;(try clear hb);(try clear ho0);obtain ⟨Ao29,co29,rfl⟩:=Kd.R_slice HO556.out)|((with_reducible refine gate_builtin (b:=.append) (xs:=#[.tmp 46,.tmp 49]) rfl ?_);at_builtin;refine Kd.R_append_rows (Kd.int .i64) (w0:=w) w.heap.size rfl (.tmp 46) (.tmp 49) 23 3 (.int .i64 0) 8 rfl Try.underlying23 info3 rfl aD (by omega) v552 y551 t554 _ _ _ (fun k_=>some k_≠(.slice Ao16 t536.length co16:Value).ownBlock∧some k_≠(.slice Ao21 y542.length co21:Value).ownBlock∧some k_≠(.slice Ao25 t548.length co25:Value).ownBlock∧some k_≠(.slice Ao29 t554.length co29:Value).ownBlock) (fun _=>False) rfl rfl ?aO ?aR (fun _ _ h=>h) (fun _ h=>h.elim) ?aF ?aB ?aS ?aL ?_;(case aR=>exact cR HO556);(case aB=>exact (pS HB.out));(case aF=>exact (fun k_ hk=>⟨Kd.fresh' (rL HO538) k_ hk,Kd.fresh' (rL HO544) k_ hk,Kd.fresh' (rL HO550) k_ hk,Kd.fresh' (rL HO556) k_ hk⟩));(case aO=>exact (pR (Kd.R_mono HO553.out (fun _ hk=>⟨hk.1.1,⟨hk.1.2.1,⟨hk.1.2.2,hk.2⟩⟩⟩))));(case aS=>exact (bpS HB));(case aL=>have:=LMc8.out;omega);intro v558 w28 ho hb hg hat;rw [← Ny557.out] at ho;replace HO538:=mA (Kd.R_after (ok:=(fun k_=>some k_≠(.slice Ao21 y542.length co21:Value).ownBlock∧some k_≠(.slice Ao25 t548.length co25:Value).ownBlock∧some k_≠(.slice Ao29 t554.length co29:Value).ownBlock)) (pR (Kd.R_mono HO538.out (fun _ hk=>⟨⟨hk.1.1.1,⟨hk.1.1.2,hk.2⟩⟩,hk.1.2⟩))) hg hat);replace HO544:=mA (Kd.R_after (ok:=(fun k_=>some k_≠(.slice Ao16 t536.length co16:Value).ownBlock∧some k_≠(.slice Ao25 t548.length co25:Value).ownBlock∧some k_≠(.slice Ao29 t554.length co29:Value).ownBlock)) (pR (Kd.R_mono HO544.out (fun _ hk=>⟨⟨hk.1.1.1,⟨hk.1.1.2,hk.2⟩⟩,hk.1.2⟩))) hg hat);replace HO550:=mA (Kd.R_after (ok:=(fun k_=>some k_≠(.slice Ao16 t536.length co16:Value).ownBlock∧some k_≠(.slice Ao21 y542.length co21:Value).ownBlock∧some k_≠(.slice Ao29 t554.length co29:Value).ownBlock)) (pR (Kd.R_mono HO550.out (fun _ hk=>⟨⟨hk.1.1.1,⟨hk.1.1.2,hk.2⟩⟩,hk.1.2⟩))) hg hat);replace HO556:=mA (Kd.R_after (ok:=(fun k_=>some k_≠(.slice Ao16 t536.length co16:Value).ownBlock∧some k_≠(.slice Ao21 y542.length co21:Value).ownBlock∧some k_≠(.slice Ao25 t548.length co25:Value).ownBlock)) (pR (Kd.R_mono HO556.out (fun _ hk=>⟨⟨hk.1.1.1.2,⟨hk.1.1.2,hk.1.2⟩⟩,hk.2⟩))) hg hat);have HO559:=mA ho;replace BK532:=mA (blk_grown (pK BK532.out) hg (rN HO553 BK532));replace HB:=mA hb;clear HO553;clear ho hb hg hat))
     go_ret
     exact ⟨_,by first|rfl|(simp [errW_none,errW_some]<;>rfl)|(simp [*,errW_none,errW_some]<;>rfl),pR (Kd.R_mono HO559.out (fun _ hk=>trivial)),pS HB.out⟩
    ·rw [if_neg c8] at H
     exact absurd H (by simp)
   ·rw [if_neg c6] at H
    exact absurd H (by simp)
  ·rw [if_neg c4] at H
   exact absurd H (by simp)
 ·rw [if_neg c3] at H
  exact absurd H (by simp)

/-! ### impl_WordOk: function 67 -/
def impl_WordOk.f (k : Nat) (a0_0 a0_1 a0_2 a0_3 a0_4 a0_5 a0_6 a0_7 a0_8 a0_9 a0_10 a0_11 a0_12 a0_13 a0_14 a0_15 a0_16 a0_17 a0_18 a0_19 a0_20 a0_21 a0_22 a0_23 : Int) (l0_24 : List (S164)) (l0_25 : List (S166)) : Option (Bool) := (impl_in.f a0_0 1 15).bind fun t561 => (if t561 = true then ((impl_isPlace.f a0_1).bind fun t562 => (if t562 = true then ((impl_isPlace.f a0_2).bind fun t563 => (if t563 = true then ((impl_cmdOk.f k a0_6 a0_7 a0_8 a0_9 a0_10 a0_11 a0_12 a0_13 a0_14 a0_15).bind fun t564 => (if t564 = true then ((impl_BlkOk.f k l0_24).bind fun t565 => (if t565 = true then ((impl_lastOk.f k l0_25).bind fun t566 => (if t566 = true then ((impl_wordNumbers.f k a0_0 a0_1 a0_2 a0_3 a0_4 a0_5 a0_6 a0_7 a0_8 a0_9 a0_10 a0_11 a0_12 a0_13 a0_14 a0_15 a0_16 a0_17 a0_18 a0_19 a0_20 a0_21 a0_22 a0_23 l0_24 l0_25).bind fun t567 => ((impl_numbersOk.f k t567).bind fun t570 => (some t570))) else (some false))) else (some false))) else (some false))) else (some false))) else (some false))) else (some false))
theorem impl_WordOk.mono : ∀ a0 a1 a2 a3 a4 a5 a6 a7 a8 a9 a10 a11 a12 a13 a14 a15 a16 a17 a18 a19 a20 a21 a22 a23 a24 a25 k, LeO (impl_WordOk.f k a0 a1 a2 a3 a4 a5 a6 a7 a8 a9 a10 a11 a12 a13 a14 a15 a16 a17 a18 a19 a20 a21 a22 a23 a24 a25) (impl_WordOk.f (k + 1) a0 a1 a2 a3 a4 a5 a6 a7 a8 a9 a10 a11 a12 a13 a14 a15 a16 a17 a18 a19 a20 a21 a22 a23 a24 a25) := by
 intro a0 a1 a2 a3 a4 a5 a6 a7 a8 a9 a10 a11 a12 a13 a14 a15 a16 a17 a18 a19 a20 a21 a22 a23 a24 a25 k
 unfold impl_WordOk.f
 repeat' first
   | (with_reducible first|apply impl_BlkOk.mono|apply impl_cmdOk.mono|apply impl_lastOk.mono|apply impl_numbersOk.mono|apply impl_wordNumbers.mono|exact LeO.refl _|exact LeO.none _|refine LeO.ite ?_ ?_|refine LeO.bind ?_ (fun _=>?_))|exact LeO.none _|refine LeO.ite ?_ ?_|refine LeO.bind ?_ (fun _=>?_)
set_option maxHeartbeats 8000000 in
set_option maxRecDepth 100000 in
theorem impl_WordOk.calls {k : Nat} {a0_0 a0_1 a0_2 a0_3 a0_4 a0_5 a0_6 a0_7 a0_8 a0_9 a0_10 a0_11 a0_12 a0_13 a0_14 a0_15 a0_16 a0_17 a0_18 a0_19 a0_20 a0_21 a0_22 a0_23 : Int} {A0_24 : Option Addr} {c0_24 : Nat} {l0_24 : List (S164)} {A0_25 : Option Addr} {c0_25 : Nat} {l0_25 : List (S166)} {r : Bool} {w : World} (hr0_24 : Kd.C k164 w A0_24 l0_24.length l0_24) (hc0_24 : l0_24.length ≤ c0_24) (hr0_25 : Kd.C k166 w A0_25 l0_25.length l0_25) (hc0_25 : l0_25.length ≤ c0_25) (h : impl_WordOk.f k a0_0 a0_1 a0_2 a0_3 a0_4 a0_5 a0_6 a0_7 a0_8 a0_9 a0_10 a0_11 a0_12 a0_13 a0_14 a0_15 a0_16 a0_17 a0_18 a0_19 a0_20 a0_21 a0_22 a0_23 l0_24 l0_25 = some r) :
  Calls Try.prog 67 #[.agg #[.int .i64 a0_0,.int .i64 a0_1,.int .i64 a0_2,.int .i64 a0_3,.int .i64 a0_4,.int .i64 a0_5,.int .i64 a0_6,.int .i64 a0_7,.int .i64 a0_8,.int .i64 a0_9,.int .i64 a0_10,.int .i64 a0_11,.int .i64 a0_12,.int .i64 a0_13,.int .i64 a0_14,.int .i64 a0_15,.int .i64 a0_16,.int .i64 a0_17,.int .i64 a0_18,.int .i64 a0_19,.int .i64 a0_20,.int .i64 a0_21,.int .i64 a0_22,.int .i64 a0_23,.slice A0_24 l0_24.length c0_24,.slice A0_25 l0_25.length c0_25]] w fun e w'=>e=.returned (.bool r)∧Below w.heap.size w w':=by
 have hu93:=Try.underlying93;have hu44:=Try.underlying44;have HR0_24:=mA hr0_24;have HC0_24:=mA hc0_24;clear hr0_24 hc0_24;have HR0_25:=mA hr0_25;have HC0_25:=mA hc0_25;clear hr0_25 hc0_25;have HB:=mA (Below.refl w.heap.size w);have H:((impl_in.f a0_0 1 15).bind fun t561=>(if t561=true then ((impl_isPlace.f a0_1).bind fun t562=>(if t562=true then ((impl_isPlace.f a0_2).bind fun t563=>(if t563=true then ((impl_cmdOk.f k a0_6 a0_7 a0_8 a0_9 a0_10 a0_11 a0_12 a0_13 a0_14 a0_15).bind fun t564=>(if t564=true then ((impl_BlkOk.f k l0_24).bind fun t565=>(if t565=true then ((impl_lastOk.f k l0_25).bind fun t566=>(if t566=true then ((impl_wordNumbers.f k a0_0 a0_1 a0_2 a0_3 a0_4 a0_5 a0_6 a0_7 a0_8 a0_9 a0_10 a0_11 a0_12 a0_13 a0_14 a0_15 a0_16 a0_17 a0_18 a0_19 a0_20 a0_21 a0_22 a0_23 l0_24 l0_25).bind fun t567=>((impl_numbersOk.f k t567).bind fun t570=>(some t570))) else (some false))) else (some false))) else (some false))) else (some false))) else (some false))) else (some false)))=some r:=h;clear h;obtain ⟨t561,A2,H⟩:=bI H;(try dsimp only at H)
 by_cases c3:t561=true
 ·subst c3;rw [if_pos rfl] at H;obtain ⟨t562,A4,H⟩:=bI H;(try dsimp only at H)
  by_cases c5:t562=true
  ·subst c5;rw [if_pos rfl] at H;obtain ⟨t563,A6,H⟩:=bI H;(try dsimp only at H)
   by_cases c7:t563=true
   ·subst c7;rw [if_pos rfl] at H;obtain ⟨t564,A8,H⟩:=bI H;(try dsimp only at H)
    by_cases c9:t564=true
    ·subst c9;rw [if_pos rfl] at H;obtain ⟨t565,A10,H⟩:=bI H;(try dsimp only at H)
     by_cases c11:t565=true
     ·subst c11;rw [if_pos rfl] at H;obtain ⟨t566,A12,H⟩:=bI H;(try dsimp only at H)
      by_cases c13:t566=true
      ·subst c13;rw [if_pos rfl] at H;obtain ⟨t567,A14,H⟩:=bI H;(try dsimp only at H);obtain ⟨t570,A15,H⟩:=bI H;(try dsimp only at H);obtain rfl:=Option.some.inj H
       go_enter Try.func67,Try.ntmps67
       go_wp2_with (first|((with_reducible refine gLg rfl (by assumption) ?_);refine ldV ?_)|((with_reducible refine gSt rfl (by assumption) ?_);refine stV ?_)|((with_reducible refine gT 1 rfl ?_);refine bX 1 ?_;intro gb560 hg w16 hbox hb;have BK560:=mA hbox;have GW560:=gbpB HB hg;have GE560:=gbpB HB hg;replace HB:=spB HB hb;clear hb hbox hg;have hcz17_0:=fun i_=>blk_cell BK560.out i_;have hfz17_0:=fun i_=>blk_frozen BK560.out i_)|((with_reducible refine gT 5 rfl ?_);refine gC (some 5) Try.func65 (impl_in.calls A2.out) ?_;rintro e w' ⟨rfl,⟨nd,rfl⟩⟩;refine ⟨_,rfl,?_⟩)|(go_at_call 109;(with_reducible refine (impl_isPlace.calls A4.out).mono ?_);rintro e w' ⟨rfl,⟨nd,rfl⟩⟩)|(go_at_call 109;(with_reducible refine (impl_isPlace.calls A6.out).mono ?_);rintro e w' ⟨rfl,⟨nd,rfl⟩⟩)|(go_at_call 107;(with_reducible refine (impl_cmdOk.calls A8.out).mono ?_);rintro e w18 ⟨rfl,hb⟩;replace BK560:=bK BK560 hb;replace HB:=spS HB hb;(try clear hb);have hcz19_0:=fun i_=>blk_cell BK560.out i_;have hfz19_0:=fun i_=>blk_frozen BK560.out i_)|(go_at_call 110;(with_reducible refine (impl_BlkOk.calls ?s1 ?s2 A10.out).mono ?_);(case s1=>exact cB HR0_24 HB);(case s2=>exact HC0_24.out);rintro e w20 ⟨rfl,hb⟩;replace BK560:=bK BK560 hb;replace HB:=spS HB hb;(try clear hb);have hcz21_0:=fun i_=>blk_cell BK560.out i_;have hfz21_0:=fun i_=>blk_frozen BK560.out i_)|(go_at_call 111;(with_reducible refine (impl_lastOk.calls ?s1 ?s2 A12.out).mono ?_);(case s1=>exact cB HR0_25 HB);(case s2=>exact HC0_25.out);rintro e w22 ⟨rfl,hb⟩;replace BK560:=bK BK560 hb;replace HB:=spS HB hb;(try clear hb);have hcz23_0:=fun i_=>blk_cell BK560.out i_;have hfz23_0:=fun i_=>blk_frozen BK560.out i_)|(go_at_call 113;(with_reducible refine (impl_wordNumbers.calls ?s1 ?s2 ?s3 ?s4 A14.out).mono ?_);(case s1=>exact cB HR0_24 HB);(case s2=>exact HC0_24.out);(case s3=>exact cB HR0_25 HB);(case s4=>exact HC0_25.out);rintro e w24 ⟨v568,rfl,ho0,hb⟩;have HO569:=mA (Kd.R_lower ho0 (bpS HB));replace BK560:=bK BK560 hb;replace HB:=spS HB hb;(try clear hb);(try clear ho0);obtain ⟨Ao25,co25,rfl⟩:=Kd.R_slice HO569.out)|(go_at_call 112;(with_reducible refine (impl_numbersOk.calls ?s1 ?s2 A15.out).mono ?_);(case s1=>exact cR HO569);(case s2=>exact cL HO569);rintro e w' ⟨rfl,⟨nd,rfl⟩⟩))
       go_ret
       exact rZ (pS HB.out)
      ·replace c13:=Bool.eq_false_iff.mpr c13;subst c13
       rw [if_neg nFT] at H
       obtain rfl:=Option.some.inj H
       go_enter Try.func67,Try.ntmps67
       go_wp2_with (first|((with_reducible refine gLg rfl (by assumption) ?_);refine ldV ?_)|((with_reducible refine gSt rfl (by assumption) ?_);refine stV ?_)|((with_reducible refine gT 1 rfl ?_);refine bX 1 ?_;intro gb560 hg w26 hbox hb;have BK560:=mA hbox;have GW560:=gbpB HB hg;have GE560:=gbpB HB hg;replace HB:=spB HB hb;clear hb hbox hg;have hcz27_0:=fun i_=>blk_cell BK560.out i_;have hfz27_0:=fun i_=>blk_frozen BK560.out i_)|((with_reducible refine gT 5 rfl ?_);refine gC (some 5) Try.func65 (impl_in.calls A2.out) ?_;rintro e w' ⟨rfl,⟨nd,rfl⟩⟩;refine ⟨_,rfl,?_⟩)|(go_at_call 109;(with_reducible refine (impl_isPlace.calls A4.out).mono ?_);rintro e w' ⟨rfl,⟨nd,rfl⟩⟩)|(go_at_call 109;(with_reducible refine (impl_isPlace.calls A6.out).mono ?_);rintro e w' ⟨rfl,⟨nd,rfl⟩⟩)|(go_at_call 107;(with_reducible refine (impl_cmdOk.calls A8.out).mono ?_);rintro e w28 ⟨rfl,hb⟩;replace BK560:=bK BK560 hb;replace HB:=spS HB hb;(try clear hb);have hcz29_0:=fun i_=>blk_cell BK560.out i_;have hfz29_0:=fun i_=>blk_frozen BK560.out i_)|(go_at_call 110;(with_reducible refine (impl_BlkOk.calls ?s1 ?s2 A10.out).mono ?_);(case s1=>exact cB HR0_24 HB);(case s2=>exact HC0_24.out);rintro e w30 ⟨rfl,hb⟩;replace BK560:=bK BK560 hb;replace HB:=spS HB hb;(try clear hb);have hcz31_0:=fun i_=>blk_cell BK560.out i_;have hfz31_0:=fun i_=>blk_frozen BK560.out i_)|(go_at_call 111;(with_reducible refine (impl_lastOk.calls ?s1 ?s2 A12.out).mono ?_);(case s1=>exact cB HR0_25 HB);(case s2=>exact HC0_25.out);rintro e w32 ⟨rfl,hb⟩;replace BK560:=bK BK560 hb;replace HB:=spS HB hb;(try clear hb)))
       go_ret
       exact rZ (pS HB.out)
     ·replace c11:=Bool.eq_false_iff.mpr c11;subst c11
      rw [if_neg nFT] at H
      obtain rfl:=Option.some.inj H
      go_enter Try.func67,Try.ntmps67
      go_wp2_with (first|((with_reducible refine gLg rfl (by assumption) ?_);refine ldV ?_)|((with_reducible refine gSt rfl (by assumption) ?_);refine stV ?_)|((with_reducible refine gT 1 rfl ?_);refine bX 1 ?_;intro gb560 hg w33 hbox hb;have BK560:=mA hbox;have GW560:=gbpB HB hg;have GE560:=gbpB HB hg;replace HB:=spB HB hb;clear hb hbox hg;have hcz34_0:=fun i_=>blk_cell BK560.out i_;have hfz34_0:=fun i_=>blk_frozen BK560.out i_)|((with_reducible refine gT 5 rfl ?_);refine gC (some 5) Try.func65 (impl_in.calls A2.out) ?_;rintro e w' ⟨rfl,⟨nd,rfl⟩⟩;refine ⟨_,rfl,?_⟩)|(go_at_call 109;(with_reducible refine (impl_isPlace.calls A4.out).mono ?_);rintro e w' ⟨rfl,⟨nd,rfl⟩⟩)|(go_at_call 109;(with_reducible refine (impl_isPlace.calls A6.out).mono ?_);rintro e w' ⟨rfl,⟨nd,rfl⟩⟩)|(go_at_call 107;(with_reducible refine (impl_cmdOk.calls A8.out).mono ?_);rintro e w35 ⟨rfl,hb⟩;replace BK560:=bK BK560 hb;replace HB:=spS HB hb;(try clear hb);have hcz36_0:=fun i_=>blk_cell BK560.out i_;have hfz36_0:=fun i_=>blk_frozen BK560.out i_)|(go_at_call 110;(with_reducible refine (impl_BlkOk.calls ?s1 ?s2 A10.out).mono ?_);(case s1=>exact cB HR0_24 HB);(case s2=>exact HC0_24.out);rintro e w37 ⟨rfl,hb⟩;replace BK560:=bK BK560 hb;replace HB:=spS HB hb;(try clear hb)))
      go_ret
      exact rZ (pS HB.out)
    ·replace c9:=Bool.eq_false_iff.mpr c9;subst c9
     rw [if_neg nFT] at H
     obtain rfl:=Option.some.inj H
     go_enter Try.func67,Try.ntmps67
     go_wp2_with (first|((with_reducible refine gLg rfl (by assumption) ?_);refine ldV ?_)|((with_reducible refine gSt rfl (by assumption) ?_);refine stV ?_)|((with_reducible refine gT 1 rfl ?_);refine bX 1 ?_;intro gb560 hg w38 hbox hb;have BK560:=mA hbox;have GW560:=gbpB HB hg;have GE560:=gbpB HB hg;replace HB:=spB HB hb;clear hb hbox hg;have hcz39_0:=fun i_=>blk_cell BK560.out i_;have hfz39_0:=fun i_=>blk_frozen BK560.out i_)|((with_reducible refine gT 5 rfl ?_);refine gC (some 5) Try.func65 (impl_in.calls A2.out) ?_;rintro e w' ⟨rfl,⟨nd,rfl⟩⟩;refine ⟨_,rfl,?_⟩)|(go_at_call 109;(with_reducible refine (impl_isPlace.calls A4.out).mono ?_);rintro e w' ⟨rfl,⟨nd,rfl⟩⟩)|(go_at_call 109;(with_reducible refine (impl_isPlace.calls A6.out).mono ?_);rintro e w' ⟨rfl,⟨nd,rfl⟩⟩)|(go_at_call 107;(with_reducible refine (impl_cmdOk.calls A8.out).mono ?_);rintro e w40 ⟨rfl,hb⟩;replace BK560:=bK BK560 hb;replace HB:=spS HB hb;(try clear hb)))
     go_ret
     exact rZ (pS HB.out)
   ·replace c7:=Bool.eq_false_iff.mpr c7;subst c7
    rw [if_neg nFT] at H
    obtain rfl:=Option.some.inj H
    go_enter Try.func67,Try.ntmps67
    go_wp2_with (first|((with_reducible refine gLg rfl (by assumption) ?_);refine ldV ?_)|((with_reducible refine gSt rfl (by assumption) ?_);refine stV ?_)|((with_reducible refine gT 1 rfl ?_);refine bX 1 ?_;intro gb560 hg w41 hbox hb;have BK560:=mA hbox;have GW560:=gbpB HB hg;have GE560:=gbpB HB hg;replace HB:=spB HB hb;clear hb hbox hg;have hcz42_0:=fun i_=>blk_cell BK560.out i_;have hfz42_0:=fun i_=>blk_frozen BK560.out i_)|((with_reducible refine gT 5 rfl ?_);refine gC (some 5) Try.func65 (impl_in.calls A2.out) ?_;rintro e w' ⟨rfl,⟨nd,rfl⟩⟩;refine ⟨_,rfl,?_⟩)|(go_at_call 109;(with_reducible refine (impl_isPlace.calls A4.out).mono ?_);rintro e w' ⟨rfl,⟨nd,rfl⟩⟩)|(go_at_call 109;(with_reducible refine (impl_isPlace.calls A6.out).mono ?_);rintro e w' ⟨rfl,⟨nd,rfl⟩⟩))
    go_ret
    exact rZ (pS HB.out)
  ·replace c5:=Bool.eq_false_iff.mpr c5;subst c5
   rw [if_neg nFT] at H
   obtain rfl:=Option.some.inj H
   go_enter Try.func67,Try.ntmps67
   go_wp2_with (first|((with_reducible refine gLg rfl (by assumption) ?_);refine ldV ?_)|((with_reducible refine gSt rfl (by assumption) ?_);refine stV ?_)|((with_reducible refine gT 1 rfl ?_);refine bX 1 ?_;intro gb560 hg w43 hbox hb;have BK560:=mA hbox;have GW560:=gbpB HB hg;have GE560:=gbpB HB hg;replace HB:=spB HB hb;clear hb hbox hg;have hcz44_0:=fun i_=>blk_cell BK560.out i_;have hfz44_0:=fun i_=>blk_frozen BK560.out i_)|((with_reducible refine gT 5 rfl ?_);refine gC (some 5) Try.func65 (impl_in.calls A2.out) ?_;rintro e w' ⟨rfl,⟨nd,rfl⟩⟩;refine ⟨_,rfl,?_⟩)|(go_at_call 109;(with_reducible refine (impl_isPlace.calls A4.out).mono ?_);rintro e w' ⟨rfl,⟨nd,rfl⟩⟩))
   go_ret
   exact rZ (pS HB.out)
 ·replace c3:=Bool.eq_false_iff.mpr c3;subst c3
  rw [if_neg nFT] at H
  obtain rfl:=Option.some.inj H
  go_enter Try.func67,Try.ntmps67
  go_wp2_with (first|((with_reducible refine gLg rfl (by assumption) ?_);refine ldV ?_)|((with_reducible refine gSt rfl (by assumption) ?_);refine stV ?_)|((with_reducible refine gT 1 rfl ?_);refine bX 1 ?_;intro gb560 hg w45 hbox hb;have BK560:=mA hbox;have GW560:=gbpB HB hg;have GE560:=gbpB HB hg;replace HB:=spB HB hb;clear hb hbox hg;have hcz46_0:=fun i_=>blk_cell BK560.out i_;have hfz46_0:=fun i_=>blk_frozen BK560.out i_)|((with_reducible refine gT 5 rfl ?_);refine gC (some 5) Try.func65 (impl_in.calls A2.out) ?_;rintro e w' ⟨rfl,⟨nd,rfl⟩⟩;refine ⟨_,rfl,?_⟩))
  go_ret
  exact rZ (pS HB.out)

end Go.Proofs.Ytncohokalilnbaa.P
