-- printed by pprint.py (this session's program over the kit's printer) out of the translation. Lean checks it.
import Derived.Test.YtoieojmfkkidnaaPx0
import Derived.Test.YtoieojmfkkidnaaPx5
import Derived.Test.YtoieojmfkkidnaaPx7
namespace Go.Proofs.Ytoieojmfkkidnaa.P
open Go.RowKit Go.Proofs.YtoieojmfkkidnaaX Go.Proofs.YtoieojmfkkidnaaW.PrintWords Go.Proofs.YtoieojmfkkidnaaW.PrintLast Go.Proofs.YtoieojmfkkidnaaW.PrintMore
attribute [local go_sem] max2_int min2_int max_two min_two max_three min_three max_four min_four   -- for this text's walks alone
set_option linter.unusedVariables false
set_option linter.unusedSimpArgs false

/-! ### impl_BlkOk: function 77 -/
mutual
def impl_BlkOk.l0 : Nat → List (S138) → List (S138) → Int → Int → Option (Bool)
 | 0,_,_,_,_=>none
 | k+1,x0,x5,x6,x7=>if x7<x6 then (impl_BlkOk.j1 k x0 x5 x6 x7) else (some (decide ((x0.length:Int)≤60)))
def impl_BlkOk.j1 : Nat → List (S138) → List (S138) → Int → Int → Option (Bool)
 | 0,_,_,_,_=>none
 | k+1,x0,x5,x6,x7=>if 0≤x7 then (if x7<(x5.length:Int) then ((impl_in.f ((rd_T138 x5 x7).f0) 1 99999).bind fun t553=>(if t553=true then ((impl_in.f ((rd_T138 x5 x7).f2) 1 99999).bind fun t554=>(if t554=true then ((impl_in.f ((rd_T138 x5 x7).f1) 0 99999).bind fun t555=>(if t555=true then ((impl_in.f ((rd_T138 x5 x7).f3) 0 99999).bind fun t556=>(if t556=true then (if x7 > 0 then (if 0≤(wrap64 (x7 - 1)) then (if (wrap64 (x7 - 1))<(x0.length:Int) then ((impl_pieceWay.f k ((rd_T138 x0 (wrap64 (x7 - 1))).f0) ((rd_T138 x0 (wrap64 (x7 - 1))).f1) ((rd_T138 x0 (wrap64 (x7 - 1))).f2) ((rd_T138 x0 (wrap64 (x7 - 1))).f3) ((rd_T138 x5 x7).f0) ((rd_T138 x5 x7).f1) ((rd_T138 x5 x7).f2) ((rd_T138 x5 x7).f3)).bind fun t558=>(impl_BlkOk.j2 k x0 x5 x6 x7 (decide (t558 ≥ 0)))) else (none)) else (none)) else (impl_BlkOk.j2 k x0 x5 x6 x7 false)) else (impl_BlkOk.j2 k x0 x5 x6 x7 true))) else (impl_BlkOk.j2 k x0 x5 x6 x7 true))) else (impl_BlkOk.j2 k x0 x5 x6 x7 true))) else (impl_BlkOk.j2 k x0 x5 x6 x7 true))) else (none)) else (none)
def impl_BlkOk.j2 : Nat → List (S138) → List (S138) → Int → Int → Bool → Option (Bool)
 | 0,_,_,_,_,_=>none
 | k+1,x0,x5,x6,x7,x47=>if x47=true then (some false) else (impl_BlkOk.l0 k x0 x5 x6 (wrap64 (x7+1)))
end
def impl_BlkOk.f (k : Nat) (l0 : List (S138)) : Option (Bool) := impl_BlkOk.l0 k l0 l0 (l0.length : Int) 0
theorem impl_BlkOk.mono_l : ∀ k, (∀ y0 y1 y2 y3, LeO (impl_BlkOk.l0 k y0 y1 y2 y3) (impl_BlkOk.l0 (k + 1) y0 y1 y2 y3)) ∧ (∀ y0 y1 y2 y3, LeO (impl_BlkOk.j1 k y0 y1 y2 y3) (impl_BlkOk.j1 (k + 1) y0 y1 y2 y3)) ∧ (∀ y0 y1 y2 y3 y4, LeO (impl_BlkOk.j2 k y0 y1 y2 y3 y4) (impl_BlkOk.j2 (k + 1) y0 y1 y2 y3 y4))
 | 0=>⟨fun _ _ _ _ r h=>by simp [impl_BlkOk.l0] at h,fun _ _ _ _ r h=>by simp [impl_BlkOk.j1] at h,fun _ _ _ _ _ r h=>by simp [impl_BlkOk.j2] at h⟩
 | k+1=>by
  obtain ⟨ih0,ih1,ih2⟩:=impl_BlkOk.mono_l k;refine ⟨?_,?_,?_⟩
  ·intros
   unfold impl_BlkOk.l0
   repeat' first
   | (with_reducible first|apply ih0|apply ih1|apply ih2|apply impl_pieceWay.mono|exact LeO.refl _|exact LeO.none _|refine LeO.ite ?_ ?_|refine LeO.bind ?_ (fun _=>?_))|exact LeO.none _|refine LeO.ite ?_ ?_|refine LeO.bind ?_ (fun _=>?_)
  ·intros
   unfold impl_BlkOk.j1
   repeat' first
   | (with_reducible first|apply ih0|apply ih1|apply ih2|apply impl_pieceWay.mono|exact LeO.refl _|exact LeO.none _|refine LeO.ite ?_ ?_|refine LeO.bind ?_ (fun _=>?_))|exact LeO.none _|refine LeO.ite ?_ ?_|refine LeO.bind ?_ (fun _=>?_)
  ·intros
   unfold impl_BlkOk.j2
   repeat' first
   | (with_reducible first|apply ih0|apply ih1|apply ih2|apply impl_pieceWay.mono|exact LeO.refl _|exact LeO.none _|refine LeO.ite ?_ ?_|refine LeO.bind ?_ (fun _=>?_))|exact LeO.none _|refine LeO.ite ?_ ?_|refine LeO.bind ?_ (fun _=>?_)
theorem impl_BlkOk.mono : ∀ a0 k, LeO (impl_BlkOk.f k a0) (impl_BlkOk.f (k + 1) a0) := by
 intro a0 k;obtain ⟨ih0,ih1,ih2⟩:=impl_BlkOk.mono_l k
 unfold impl_BlkOk.f
 repeat' first
   | (with_reducible first|apply ih0|apply ih1|apply ih2|apply impl_pieceWay.mono|exact LeO.refl _|exact LeO.none _|refine LeO.ite ?_ ?_|refine LeO.bind ?_ (fun _=>?_))|exact LeO.none _|refine LeO.ite ?_ ?_|refine LeO.bind ?_ (fun _=>?_)
def impl_BlkOk.T4 : Bool × List (List Nat × List Nat) := (true, [([], []), ([0], [0]), ([1], [1]), ([2], [2]), ([3, 2], [3]), ([4], [4]), ([5, 4], [4, 5]), ([6, 4, 4], [4, 6]), ([7, 4], [4, 7]), ([4, 8], [4, 8]), ([9, 7], [9]), ([10], [10]), ([11, 10], [10, 11]), ([12, 10, 10], [10, 12]), ([13, 10], [10, 13]), ([10, 14], [10, 14]), ([15, 13], [15]), ([16], [16]), ([17, 16], [16, 17]), ([18, 16, 16], [16, 18]), ([19, 16], [16, 19]), ([16, 20], [16, 20]), ([21, 19], [21]), ([22], [22]), ([23, 22], [22, 23]), ([24, 22, 22], [22, 24]), ([25], [25]), ([25], [25]), ([27, 25], [25, 27]), ([26, 28, 25], [25, 26, 28]), ([29, 25], [25, 29]), ([25], [25]), ([30, 31, 25, 25], [25, 30, 31]), ([32, 25], [25, 32]), ([25, 33, 22], [22, 25, 33]), ([22, 34], [22, 34])])
def impl_BlkOk.B4 : List Nat := [0, 1, 3, 7, 15, 31, 63, 127, 255, 511, 1023, 2047, 4095, 8191, 16383, 32767, 65535, 131071, 262143, 524287, 1048575, 2097151, 4194303, 8388607, 16777215, 33554431, 67108863, 67108863, 201326591, 536870911, 1073741823, 67108863, 4294967295, 8589934591, 17179869183, 34359738367]
theorem impl_BlkOk.tab4 : rtab .any (opsOf Try.f77 4) = impl_BlkOk.T4 := by kernel_rfl
theorem impl_BlkOk.bits4 : waitsOk impl_BlkOk.T4.2 impl_BlkOk.B4 = true := by kernel_rfl
set_option maxHeartbeats 8000000 in
set_option maxRecDepth 100000 in
theorem impl_BlkOk.calls {k : Nat} {A0 : Option Addr} {c0 : Nat} {l0 : List (S138)} {r : Bool} {w : World} (hr0 : Kd.C k138 w A0 l0.length l0) (hc0 : l0.length ≤ c0) (h : impl_BlkOk.f k l0 = some r) :
  Calls Try.prog 77 #[.slice A0 l0.length c0] w fun e w'=>e=.returned (.bool r)∧Below w.heap.size w w':=by
 have hu138:=Try.underlying138;have HR0:=mA hr0;have HC0:=mA hc0;clear hr0 hc0;have HB:=mA (Below.refl w.heap.size w);have H:(impl_BlkOk.l0 k l0 l0 (l0.length:Int) 0)=some r:=h;clear h;have H':=mA H;clear H
 go_enter Try.func77,Try.ntmps77
 go_wp2
 go_loopg [7] k (fun kq v7 w'=>∃ (x7_1:Int),v7=.int .i64 x7_1∧Aside0 (impl_BlkOk.l0 kq l0 l0 (l0.length:Int) x7_1=some r)∧Aside0 (kq≤k)∧Aside0 (Below w.heap.size w w'))
 case atStart=>exact ⟨(0),bZ,H',⟨Nat.le_refl _⟩,⟨pB HB.out⟩⟩
 case round =>
  clear H';obtain ⟨x7_1,rfl,HA,HK1,HB⟩:=hrel
  cases gk with
  | zero=>exact absurd HA.out (by simp [impl_BlkOk.l0])
  | succ k1 =>
   have H:=HA.out;clear HA;simp only [impl_BlkOk.l0] at H;have HC2:=mA H;clear H
   go_upto_if 8 with (fail)
   go_cut [] (fun wc=>∃ (kq:Nat),Aside0 (impl_BlkOk.j1 kq l0 l0 (l0.length:Int) x7_1=some r)∧Aside0 (kq≤k1)∧Aside0 (Below w.heap.size w wc))
   case first =>
    have H:=HC2.out;clear HC2
    by_cases c3:x7_1<(l0.length:Int)
    ·rw [if_pos c3] at H;have c3b0:decide (x7_1<(l0.length:Int))=true:=decide_eq_true c3;clear c3
     (first|rw [c3b0]|(simp only [i64_w,i32_w];rw [c3b0])|skip)
     have H':=mA H;clear H
     go_wp2
     go_meet
     case rel=>exact ⟨_,H',⟨by have:=HK1.out;first|omega|exact Nat.le_refl _⟩,⟨pB HB.out⟩⟩
    ·rw [if_neg c3] at H;have c3b0:decide (x7_1<(l0.length:Int))=false:=decide_eq_false c3;clear c3
     (first|rw [c3b0]|(simp only [i64_w,i32_w];rw [c3b0])|skip)
     obtain rfl:=Option.some.inj H
     go_wp2
     go_ret
     exact rZ (pB HB.out)
   case rest =>
    clear HC2
    obtain ⟨kq,HA,HJ1,HB⟩:=hcut
    cases kq with
    | zero=>exact absurd HA.out (by simp [impl_BlkOk.j1])
    | succ kj1 =>
     have H:=HA.out;clear HA;simp only [impl_BlkOk.j1] at H
     by_cases c4:0≤x7_1
     ·rw [if_pos c4] at H;have c4b0:decide (0≤x7_1)=true:=decide_eq_true c4;clear c4
      by_cases c5:x7_1<(l0.length:Int)
      ·rw [if_pos c5] at H;have c5b0:decide (x7_1<(l0.length:Int))=true:=decide_eq_true c5;clear c5;have HC6:=mA H;clear H;have p551:0≤(x7_1:Int):=of_decide_eq_true bA;have q551:x7_1<(l0.length:Int):=of_decide_eq_true bA;obtain ⟨ad551,e551,hx551_0,hx551_1,hx551_2,hx551_3⟩:=at_T138 HR0.out x7_1 p551 q551;cases e551;replace hx551_0:=hC HB hx551_0;replace hx551_1:=hC HB hx551_1;replace hx551_2:=hC HB hx551_2;replace hx551_3:=hC HB hx551_3;replace p551:=eq_true p551;replace q551:=eq_true q551
       go_upto_region 4 with (first|((with_reducible refine gT 4 rfl ?_);refine bE 4 #[.int .i64 0,.int .i64 0,.int .i64 0,.int .i64 0] 138 ?_;intro gb552 hg w7 hbox hb;have BK552:=mA hbox;have GW552:=gbpB HB hg;have GE552:=gbpB HB hg;replace HB:=spB HB hb;clear hb hbox hg;obtain ⟨hcz8_0,hcz8_1,hcz8_2,hcz8_3,hfz8_0,hfz8_1,hfz8_2,hfz8_3⟩:=box4 BK552.out))
       (try simp only [Act.put,List.setIfInBounds_toArray,List.set_cons_zero,List.set_cons_succ])
       go_cut [47] (fun v47 wc=>∃ (kq:Nat) (x47_5:Bool),v47=.bool x47_5∧Aside0 (impl_BlkOk.j2 kq l0 l0 (l0.length:Int) x7_1 x47_5=some r)∧Aside0 (kq≤kj1)∧Aside0 (wc.heap[gb552]?=some (.cells #[.int .i64 ((rd_T138 l0 x7_1).f0),.int .i64 ((rd_T138 l0 x7_1).f1),.int .i64 ((rd_T138 l0 x7_1).f2),.int .i64 ((rd_T138 l0 x7_1).f3)] 138 (0,0)))∧Aside0 (Below w.heap.size w wc))
       case first =>
        have H:=HC6.out;clear HC6;obtain ⟨t553,A9,H⟩:=bI H;(try dsimp only at H)
        by_cases c10:t553=true
        ·subst c10;rw [if_pos rfl] at H;obtain ⟨t554,A11,H⟩:=bI H;(try dsimp only at H)
         by_cases c12:t554=true
         ·subst c12;rw [if_pos rfl] at H;obtain ⟨t555,A13,H⟩:=bI H;(try dsimp only at H)
          by_cases c14:t555=true
          ·subst c14;rw [if_pos rfl] at H;obtain ⟨t556,A15,H⟩:=bI H;(try dsimp only at H)
           by_cases c16:t556=true
           ·subst c16;rw [if_pos rfl] at H
            by_cases c17:x7_1 > 0
            ·rw [if_pos c17] at H;have c17b0:decide (0<x7_1)=true:=decide_eq_true c17;clear c17
             (first|rw [c17b0]|(simp only [i64_w,i32_w];rw [c17b0])|skip)
             obtain ⟨ji18,hji18⟩:∃ j_:Int,(wrap64 (x7_1 - 1))=j_:=⟨_,rfl⟩
             replace H:(if 0≤(ji18) then (if (ji18)<(l0.length:Int) then ((impl_pieceWay.f kj1 ((rd_T138 l0 (ji18)).f0) ((rd_T138 l0 (ji18)).f1) ((rd_T138 l0 (ji18)).f2) ((rd_T138 l0 (ji18)).f3) ((rd_T138 l0 x7_1).f0) ((rd_T138 l0 x7_1).f1) ((rd_T138 l0 x7_1).f2) ((rd_T138 l0 x7_1).f3)).bind fun t558=>(impl_BlkOk.j2 kj1 l0 l0 (l0.length:Int) x7_1 (decide (t558 ≥ 0)))) else (none)) else (none))=some r:=by first|(rw [hji18] at H;exact H)|(simp only [hji18] at H ⊢;exact H)
             (try rw [hji18] at A9)
             (try rw [hji18] at A11)
             (try rw [hji18] at A13)
             (try rw [hji18] at A15)
             have hji18w:(IntKind.i64.wrap (x7_1 - 1))=ji18:=(i64_w _).trans hji18
             by_cases c19:0≤(ji18)
             ·rw [if_pos c19] at H;have c19b0:decide (0≤(ji18))=true:=decide_eq_true c19;clear c19
              by_cases c20:(ji18)<(l0.length:Int)
              ·rw [if_pos c20] at H;have c20b0:decide ((ji18)<(l0.length:Int))=true:=decide_eq_true c20;clear c20;obtain ⟨t558,A21,H⟩:=bI H;(try dsimp only at H);have H':=mA H;clear H
               try go_wp2
               have n0_:Aside0 (((((w7.setCell ⟨gb552,0,none⟩ (.int .i64 ((rd_T138 l0 x7_1).f0))).setCell ⟨gb552,1,none⟩ (.int .i64 ((rd_T138 l0 x7_1).f1))).setCell ⟨gb552,2,none⟩ (.int .i64 ((rd_T138 l0 x7_1).f2))).setCell ⟨gb552,3,none⟩ (.int .i64 ((rd_T138 l0 x7_1).f3))).heap[gb552]?=some (.cells #[.int .i64 ((rd_T138 l0 x7_1).f0),.int .i64 ((rd_T138 l0 x7_1).f1),.int .i64 ((rd_T138 l0 x7_1).f2),.int .i64 ((rd_T138 l0 x7_1).f3)] 138 (0,0))):=⟨pP BK552⟩
               have n1_:Aside0 (Below w.heap.size w ((((w7.setCell ⟨gb552,0,none⟩ (.int .i64 ((rd_T138 l0 x7_1).f0))).setCell ⟨gb552,1,none⟩ (.int .i64 ((rd_T138 l0 x7_1).f1))).setCell ⟨gb552,2,none⟩ (.int .i64 ((rd_T138 l0 x7_1).f2))).setCell ⟨gb552,3,none⟩ (.int .i64 ((rd_T138 l0 x7_1).f3)))):=⟨pS HB.out⟩
               (try clear BK552);(try clear HB)
               generalize ((((w7.setCell ⟨gb552,0,none⟩ (.int .i64 ((rd_T138 l0 x7_1).f0))).setCell ⟨gb552,1,none⟩ (.int .i64 ((rd_T138 l0 x7_1).f1))).setCell ⟨gb552,2,none⟩ (.int .i64 ((rd_T138 l0 x7_1).f2))).setCell ⟨gb552,3,none⟩ (.int .i64 ((rd_T138 l0 x7_1).f3)))=w22 at n0_ n1_ ⊢
               have BK552:=n0_;have HB:=n1_;clear n0_ n1_;replace BK552:=mA (blk_drew BK552.out);replace HB:=mA (below_drew1 HB.out);have p557:0≤((ji18):Int):=of_decide_eq_true bA;have q557:(ji18)<(l0.length:Int):=of_decide_eq_true bA;obtain ⟨ad557,e557,hx557_0,hx557_1,hx557_2,hx557_3⟩:=at_T138 HR0.out (ji18) p557 q557;have hw557_3:=hx557_3;have hw557_2:=hx557_2;have hw557_1:=hx557_1;have hw557_0:=hx557_0
               obtain rfl:ad551=ad557:=(by injection e557)
               replace hx557_0:=hC HB hx557_0;replace hx557_1:=hC HB hx557_1;replace hx557_2:=hC HB hx557_2;replace hx557_3:=hC HB hx557_3;replace p557:=eq_true p557;replace q557:=eq_true q557
               refine start_ (n:=36) (S:=fun w'=>w'.heap[gb552]?=some (.cells #[.int .i64 ((rd_T138 l0 x7_1).f0),.int .i64 ((rd_T138 l0 x7_1).f1),.int .i64 ((rd_T138 l0 x7_1).f2),.int .i64 ((rd_T138 l0 x7_1).f3)] 138 (0,0))∧w'.cell? (ad551.add (((ji18)).toNat * 4))=some (.int .i64 ((rd_T138 l0 (ji18)).f0))∧w'.cell? ⟨(ad551.add (((ji18)).toNat * 4)).block,(ad551.add (((ji18)).toNat * 4)).off+1,none⟩=some (.int .i64 ((rd_T138 l0 (ji18)).f1))∧w'.cell? ⟨(ad551.add (((ji18)).toNat * 4)).block,(ad551.add (((ji18)).toNat * 4)).off+2,none⟩=some (.int .i64 ((rd_T138 l0 (ji18)).f2))∧w'.cell? ⟨(ad551.add (((ji18)).toNat * 4)).block,(ad551.add (((ji18)).toNat * 4)).off+3,none⟩=some (.int .i64 ((rd_T138 l0 (ji18)).f3))) (ds:=[]) _ aK rfl rfl ⟨BK552.out,((HB.out.cell (World.block_lt_of_cell? w _ hw557_0)).trans hw557_0),((HB.out.cell (World.block_lt_of_cell? w _ hw557_1)).trans hw557_1),((HB.out.cell (World.block_lt_of_cell? w _ hw557_2)).trans hw557_2),((HB.out.cell (World.block_lt_of_cell? w _ hw557_3)).trans hw557_3)⟩ (fun hHeld=>?_);refine with_tabW impl_BlkOk.tab4 impl_BlkOk.bits4 (fun HT_ HW_=>?_)
               generalize w22.drew=w23 at BK552 HB hx557_0 hx557_1 hx557_2 hx557_3 hHeld ⊢
               refine pu_ 0 (some 12) (aT HT_) ?_
               refine tb5_ 1 (some 13) (tT HT_ HW_) hHeld ?_
               refine on_ 2 (some 14) (oT HT_) ?_;intro K hK
               refine gD Try.func74 (impl_in.calls A9.out) ?_
               rintro e w' ⟨rfl,⟨nd,rfl⟩⟩;refine ⟨_,rfl,?_⟩;refine hK.out _ _ ⟨BK552.out,((HB.out.cell (World.block_lt_of_cell? w _ hw557_0)).trans hw557_0),((HB.out.cell (World.block_lt_of_cell? w _ hw557_1)).trans hw557_1),((HB.out.cell (World.block_lt_of_cell? w _ hw557_2)).trans hw557_2),((HB.out.cell (World.block_lt_of_cell? w _ hw557_3)).trans hw557_3)⟩ (fun hHeld=>?_);clear hK K;refine no_ (some 14) ?_
               refine pu_ 3 (some 15) (aT HT_) ?_
               refine pu_ 4 (some 16) (aT HT_) ?_
               refine pu_ 5 (some 17) (aT HT_) ?_
               refine tb5_ 6 (some 18) (tT HT_ HW_) hHeld ?_
               refine on_ 7 (some 19) (oT HT_) ?_;intro K hK
               refine gD Try.func74 (impl_in.calls A11.out) ?_
               rintro e w' ⟨rfl,⟨nd,rfl⟩⟩;refine ⟨_,rfl,?_⟩;refine hK.out _ _ ⟨BK552.out,((HB.out.cell (World.block_lt_of_cell? w _ hw557_0)).trans hw557_0),((HB.out.cell (World.block_lt_of_cell? w _ hw557_1)).trans hw557_1),((HB.out.cell (World.block_lt_of_cell? w _ hw557_2)).trans hw557_2),((HB.out.cell (World.block_lt_of_cell? w _ hw557_3)).trans hw557_3)⟩ (fun hHeld=>?_);clear hK K;refine no_ (some 19) ?_
               refine pu_ 8 (some 20) (aT HT_) ?_
               refine pu_ 9 (some 21) (aT HT_) ?_
               refine pu_ 10 (some 22) (aT HT_) ?_
               refine pu_ 11 (some 23) (aT HT_) ?_
               refine tb5_ 12 (some 24) (tT HT_ HW_) hHeld ?_
               refine on_ 13 (some 25) (oT HT_) ?_;intro K hK
               refine gD Try.func74 (impl_in.calls A13.out) ?_
               rintro e w' ⟨rfl,⟨nd,rfl⟩⟩;refine ⟨_,rfl,?_⟩;refine hK.out _ _ ⟨BK552.out,((HB.out.cell (World.block_lt_of_cell? w _ hw557_0)).trans hw557_0),((HB.out.cell (World.block_lt_of_cell? w _ hw557_1)).trans hw557_1),((HB.out.cell (World.block_lt_of_cell? w _ hw557_2)).trans hw557_2),((HB.out.cell (World.block_lt_of_cell? w _ hw557_3)).trans hw557_3)⟩ (fun hHeld=>?_);clear hK K;refine no_ (some 25) ?_
               refine pu_ 14 (some 26) (aT HT_) ?_
               refine pu_ 15 (some 27) (aT HT_) ?_
               refine pu_ 16 (some 28) (aT HT_) ?_
               refine pu_ 17 (some 29) (aT HT_) ?_
               refine tb5_ 18 (some 30) (tT HT_ HW_) hHeld ?_
               refine on_ 19 (some 31) (oT HT_) ?_;intro K hK
               refine gD Try.func74 (impl_in.calls A15.out) ?_
               rintro e w' ⟨rfl,⟨nd,rfl⟩⟩;refine ⟨_,rfl,?_⟩;refine hK.out _ _ ⟨BK552.out,((HB.out.cell (World.block_lt_of_cell? w _ hw557_0)).trans hw557_0),((HB.out.cell (World.block_lt_of_cell? w _ hw557_1)).trans hw557_1),((HB.out.cell (World.block_lt_of_cell? w _ hw557_2)).trans hw557_2),((HB.out.cell (World.block_lt_of_cell? w _ hw557_3)).trans hw557_3)⟩ (fun hHeld=>?_);clear hK K;refine no_ (some 31) ?_
               refine pu_ 20 (some 32) (aT HT_) ?_
               refine pu_ 21 (some 33) (aT HT_) ?_
               refine pu_ 22 (some 34) (aT HT_) ?_
               refine pu_ 23 (some 35) (aT HT_) ?_
               refine pu_ 24 (some 36) (aT HT_) ?_
               refine pu_ 25 (some 37) (aT HT_) ?_
               refine pu_ 26 (some 38) (aT HT_) ?_
               refine pu_ 27 (some 39) (aT HT_) ?_
               refine pu_ 28 (some 40) (aT HT_) ?_
               refine pu_ 29 (some 41) (aT HT_) ?_
               refine tb5_ 30 (some 42) (tT HT_ HW_) hHeld ?_
               refine tb5_ 31 (some 43) (tT HT_ HW_) hHeld ?_
               refine on_ 32 (some 44) (oT HT_) ?_;intro K hK
               refine goes_ Try.func133 aK rfl #[.agg #[.int .i64 ((rd_T138 l0 (ji18)).f0),.int .i64 ((rd_T138 l0 (ji18)).f1),.int .i64 ((rd_T138 l0 (ji18)).f2),.int .i64 ((rd_T138 l0 (ji18)).f3)],.agg #[.int .i64 ((rd_T138 l0 x7_1).f0),.int .i64 ((rd_T138 l0 x7_1).f1),.int .i64 ((rd_T138 l0 x7_1).f2),.int .i64 ((rd_T138 l0 x7_1).f3)]] (by rfl) rfl rfl (by (try simp only [List.map_toArray,List.map_cons,List.map_nil]);first|done|(simp only [hji18];rfl)|rfl|(simp only [List.length_drop,List.length_take];rfl)) ?_
               with_reducible refine (impl_pieceWay.calls A21.out).mono ?_
               rintro e w24 ⟨rfl,hb⟩;refine ⟨_,rfl,?_⟩;replace BK552:=bK BK552 hb;replace HB:=spS HB hb
               (try clear hb)
               refine hK.out _ _ ⟨BK552.out,((HB.out.cell (World.block_lt_of_cell? w _ hw557_0)).trans hw557_0),((HB.out.cell (World.block_lt_of_cell? w _ hw557_1)).trans hw557_1),((HB.out.cell (World.block_lt_of_cell? w _ hw557_2)).trans hw557_2),((HB.out.cell (World.block_lt_of_cell? w _ hw557_3)).trans hw557_3)⟩ (fun hHeld=>?_);clear hK K;refine no_ (some 44) ?_
               refine pu_ 33 (some 45) (aT HT_) ?_
               refine pu_ 34 (some 46) (aT HT_) ?_
               refine pu_ 35 (some 47) (aT HT_) ?_
               refine done_ (done_of HT_.out aK) ?_
               try go_wp2
               go_meet
               case rel=>exact ⟨_,(decide (t558 ≥ 0)),bZ,H',⟨by have:=HK1.out;have:=HJ1.out;first|omega|exact Nat.le_refl _⟩,⟨pK BK552.out⟩,⟨pS HB.out⟩⟩
              ·rw [if_neg c20] at H
               exact absurd H (by simp)
             ·rw [if_neg c19] at H
              exact absurd H (by simp)
            ·rw [if_neg c17] at H;have c17b0:decide (0<x7_1)=false:=decide_eq_false c17;clear c17
             (first|rw [c17b0]|(simp only [i64_w,i32_w];rw [c17b0])|skip)
             have H':=mA H;clear H
             try go_wp2
             have n0_:Aside0 (((((w7.setCell ⟨gb552,0,none⟩ (.int .i64 ((rd_T138 l0 x7_1).f0))).setCell ⟨gb552,1,none⟩ (.int .i64 ((rd_T138 l0 x7_1).f1))).setCell ⟨gb552,2,none⟩ (.int .i64 ((rd_T138 l0 x7_1).f2))).setCell ⟨gb552,3,none⟩ (.int .i64 ((rd_T138 l0 x7_1).f3))).heap[gb552]?=some (.cells #[.int .i64 ((rd_T138 l0 x7_1).f0),.int .i64 ((rd_T138 l0 x7_1).f1),.int .i64 ((rd_T138 l0 x7_1).f2),.int .i64 ((rd_T138 l0 x7_1).f3)] 138 (0,0))):=⟨pP BK552⟩
             have n1_:Aside0 (Below w.heap.size w ((((w7.setCell ⟨gb552,0,none⟩ (.int .i64 ((rd_T138 l0 x7_1).f0))).setCell ⟨gb552,1,none⟩ (.int .i64 ((rd_T138 l0 x7_1).f1))).setCell ⟨gb552,2,none⟩ (.int .i64 ((rd_T138 l0 x7_1).f2))).setCell ⟨gb552,3,none⟩ (.int .i64 ((rd_T138 l0 x7_1).f3)))):=⟨pS HB.out⟩
             (try clear BK552);(try clear HB)
             generalize ((((w7.setCell ⟨gb552,0,none⟩ (.int .i64 ((rd_T138 l0 x7_1).f0))).setCell ⟨gb552,1,none⟩ (.int .i64 ((rd_T138 l0 x7_1).f1))).setCell ⟨gb552,2,none⟩ (.int .i64 ((rd_T138 l0 x7_1).f2))).setCell ⟨gb552,3,none⟩ (.int .i64 ((rd_T138 l0 x7_1).f3)))=w25 at n0_ n1_ ⊢
             have BK552:=n0_;have HB:=n1_;clear n0_ n1_;replace BK552:=mA (blk_drew BK552.out);replace HB:=mA (below_drew1 HB.out)
             refine start_ (n:=36) (S:=fun w'=>w'.heap[gb552]?=some (.cells #[.int .i64 ((rd_T138 l0 x7_1).f0),.int .i64 ((rd_T138 l0 x7_1).f1),.int .i64 ((rd_T138 l0 x7_1).f2),.int .i64 ((rd_T138 l0 x7_1).f3)] 138 (0,0))) (ds:=[]) _ aK rfl rfl BK552.out (fun hHeld=>?_);refine with_tabW impl_BlkOk.tab4 impl_BlkOk.bits4 (fun HT_ HW_=>?_)
             generalize w25.drew=w26 at BK552 HB hHeld ⊢
             refine pu_ 0 (some 12) (aT HT_) ?_
             refine tb1_ 1 (some 13) (tT HT_ HW_) hHeld ?_
             refine on_ 2 (some 14) (oT HT_) ?_;intro K hK
             refine gD Try.func74 (impl_in.calls A9.out) ?_
             rintro e w' ⟨rfl,⟨nd,rfl⟩⟩;refine ⟨_,rfl,?_⟩;refine hK.out _ _ BK552.out (fun hHeld=>?_);clear hK K;refine no_ (some 14) ?_
             refine pu_ 3 (some 15) (aT HT_) ?_
             refine pu_ 4 (some 16) (aT HT_) ?_
             refine pu_ 5 (some 17) (aT HT_) ?_
             refine tb1_ 6 (some 18) (tT HT_ HW_) hHeld ?_
             refine on_ 7 (some 19) (oT HT_) ?_;intro K hK
             refine gD Try.func74 (impl_in.calls A11.out) ?_
             rintro e w' ⟨rfl,⟨nd,rfl⟩⟩;refine ⟨_,rfl,?_⟩;refine hK.out _ _ BK552.out (fun hHeld=>?_);clear hK K;refine no_ (some 19) ?_
             refine pu_ 8 (some 20) (aT HT_) ?_
             refine pu_ 9 (some 21) (aT HT_) ?_
             refine pu_ 10 (some 22) (aT HT_) ?_
             refine pu_ 11 (some 23) (aT HT_) ?_
             refine tb1_ 12 (some 24) (tT HT_ HW_) hHeld ?_
             refine on_ 13 (some 25) (oT HT_) ?_;intro K hK
             refine gD Try.func74 (impl_in.calls A13.out) ?_
             rintro e w' ⟨rfl,⟨nd,rfl⟩⟩;refine ⟨_,rfl,?_⟩;refine hK.out _ _ BK552.out (fun hHeld=>?_);clear hK K;refine no_ (some 25) ?_
             refine pu_ 14 (some 26) (aT HT_) ?_
             refine pu_ 15 (some 27) (aT HT_) ?_
             refine pu_ 16 (some 28) (aT HT_) ?_
             refine pu_ 17 (some 29) (aT HT_) ?_
             refine tb1_ 18 (some 30) (tT HT_ HW_) hHeld ?_
             refine on_ 19 (some 31) (oT HT_) ?_;intro K hK
             refine gD Try.func74 (impl_in.calls A15.out) ?_
             rintro e w' ⟨rfl,⟨nd,rfl⟩⟩;refine ⟨_,rfl,?_⟩;refine hK.out _ _ BK552.out (fun hHeld=>?_);clear hK K;refine no_ (some 31) ?_
             refine pu_ 20 (some 32) (aT HT_) ?_
             refine pu_ 21 (some 33) (aT HT_) ?_
             refine pu_ 22 (some 34) (aT HT_) ?_
             refine pu_ 23 (some 35) (aT HT_) ?_
             refine pu_ 24 (some 36) (aT HT_) ?_
             refine pu_ 25 (some 37) (aT HT_) ?_
             refine pd_ 26 (some 38) (aT HT_) ?_
             refine pd_ 27 (some 39) (aT HT_) ?_
             refine pd_ 28 (some 40) (aT HT_) ?_
             refine pd_ 29 (some 41) (aT HT_) ?_
             refine pd_ 30 (some 42) (aT HT_) ?_
             refine pd_ 31 (some 43) (aT HT_) ?_
             refine pd_ 32 (some 44) (aT HT_) ?_
             refine pd_ 33 (some 45) (aT HT_) ?_
             refine pu_ 34 (some 46) (aT HT_) ?_
             refine pu_ 35 (some 47) (aT HT_) ?_
             refine done_ (done_of HT_.out aK) ?_
             try go_wp2
             go_meet
             case rel=>exact ⟨_,(false),bZ,H',⟨by have:=HK1.out;have:=HJ1.out;first|omega|exact Nat.le_refl _⟩,⟨pK BK552.out⟩,⟨pS HB.out⟩⟩
           ·replace c16:=Bool.eq_false_iff.mpr c16;subst c16
            rw [if_neg nFT] at H
            have H':=mA H;clear H
            try go_wp2
            have n0_:Aside0 (((((w7.setCell ⟨gb552,0,none⟩ (.int .i64 ((rd_T138 l0 x7_1).f0))).setCell ⟨gb552,1,none⟩ (.int .i64 ((rd_T138 l0 x7_1).f1))).setCell ⟨gb552,2,none⟩ (.int .i64 ((rd_T138 l0 x7_1).f2))).setCell ⟨gb552,3,none⟩ (.int .i64 ((rd_T138 l0 x7_1).f3))).heap[gb552]?=some (.cells #[.int .i64 ((rd_T138 l0 x7_1).f0),.int .i64 ((rd_T138 l0 x7_1).f1),.int .i64 ((rd_T138 l0 x7_1).f2),.int .i64 ((rd_T138 l0 x7_1).f3)] 138 (0,0))):=⟨pP BK552⟩
            have n1_:Aside0 (Below w.heap.size w ((((w7.setCell ⟨gb552,0,none⟩ (.int .i64 ((rd_T138 l0 x7_1).f0))).setCell ⟨gb552,1,none⟩ (.int .i64 ((rd_T138 l0 x7_1).f1))).setCell ⟨gb552,2,none⟩ (.int .i64 ((rd_T138 l0 x7_1).f2))).setCell ⟨gb552,3,none⟩ (.int .i64 ((rd_T138 l0 x7_1).f3)))):=⟨pS HB.out⟩
            (try clear BK552);(try clear HB)
            generalize ((((w7.setCell ⟨gb552,0,none⟩ (.int .i64 ((rd_T138 l0 x7_1).f0))).setCell ⟨gb552,1,none⟩ (.int .i64 ((rd_T138 l0 x7_1).f1))).setCell ⟨gb552,2,none⟩ (.int .i64 ((rd_T138 l0 x7_1).f2))).setCell ⟨gb552,3,none⟩ (.int .i64 ((rd_T138 l0 x7_1).f3)))=w27 at n0_ n1_ ⊢
            have BK552:=n0_;have HB:=n1_;clear n0_ n1_;replace BK552:=mA (blk_drew BK552.out);replace HB:=mA (below_drew1 HB.out)
            refine start_ (n:=36) (S:=fun w'=>w'.heap[gb552]?=some (.cells #[.int .i64 ((rd_T138 l0 x7_1).f0),.int .i64 ((rd_T138 l0 x7_1).f1),.int .i64 ((rd_T138 l0 x7_1).f2),.int .i64 ((rd_T138 l0 x7_1).f3)] 138 (0,0))) (ds:=[]) _ aK rfl rfl BK552.out (fun hHeld=>?_);refine with_tabW impl_BlkOk.tab4 impl_BlkOk.bits4 (fun HT_ HW_=>?_)
            generalize w27.drew=w28 at BK552 HB hHeld ⊢
            refine pu_ 0 (some 12) (aT HT_) ?_
            refine tb1_ 1 (some 13) (tT HT_ HW_) hHeld ?_
            refine on_ 2 (some 14) (oT HT_) ?_;intro K hK
            refine gD Try.func74 (impl_in.calls A9.out) ?_
            rintro e w' ⟨rfl,⟨nd,rfl⟩⟩;refine ⟨_,rfl,?_⟩;refine hK.out _ _ BK552.out (fun hHeld=>?_);clear hK K;refine no_ (some 14) ?_
            refine pu_ 3 (some 15) (aT HT_) ?_
            refine pu_ 4 (some 16) (aT HT_) ?_
            refine pu_ 5 (some 17) (aT HT_) ?_
            refine tb1_ 6 (some 18) (tT HT_ HW_) hHeld ?_
            refine on_ 7 (some 19) (oT HT_) ?_;intro K hK
            refine gD Try.func74 (impl_in.calls A11.out) ?_
            rintro e w' ⟨rfl,⟨nd,rfl⟩⟩;refine ⟨_,rfl,?_⟩;refine hK.out _ _ BK552.out (fun hHeld=>?_);clear hK K;refine no_ (some 19) ?_
            refine pu_ 8 (some 20) (aT HT_) ?_
            refine pu_ 9 (some 21) (aT HT_) ?_
            refine pu_ 10 (some 22) (aT HT_) ?_
            refine pu_ 11 (some 23) (aT HT_) ?_
            refine tb1_ 12 (some 24) (tT HT_ HW_) hHeld ?_
            refine on_ 13 (some 25) (oT HT_) ?_;intro K hK
            refine gD Try.func74 (impl_in.calls A13.out) ?_
            rintro e w' ⟨rfl,⟨nd,rfl⟩⟩;refine ⟨_,rfl,?_⟩;refine hK.out _ _ BK552.out (fun hHeld=>?_);clear hK K;refine no_ (some 25) ?_
            refine pu_ 14 (some 26) (aT HT_) ?_
            refine pu_ 15 (some 27) (aT HT_) ?_
            refine pu_ 16 (some 28) (aT HT_) ?_
            refine pu_ 17 (some 29) (aT HT_) ?_
            refine tb1_ 18 (some 30) (tT HT_ HW_) hHeld ?_
            refine on_ 19 (some 31) (oT HT_) ?_;intro K hK
            refine gD Try.func74 (impl_in.calls A15.out) ?_
            rintro e w' ⟨rfl,⟨nd,rfl⟩⟩;refine ⟨_,rfl,?_⟩;refine hK.out _ _ BK552.out (fun hHeld=>?_);clear hK K;refine no_ (some 31) ?_
            refine pu_ 20 (some 32) (aT HT_) ?_
            refine pu_ 21 (some 33) (aT HT_) ?_
            refine pu_ 22 (some 34) (aT HT_) ?_
            refine pd_ 23 (some 35) (aT HT_) ?_
            refine pd_ 24 (some 36) (aT HT_) ?_
            refine pd_ 25 (some 37) (aT HT_) ?_
            refine pd_ 26 (some 38) (aT HT_) ?_
            refine pd_ 27 (some 39) (aT HT_) ?_
            refine pd_ 28 (some 40) (aT HT_) ?_
            refine pd_ 29 (some 41) (aT HT_) ?_
            refine pd_ 30 (some 42) (aT HT_) ?_
            refine pd_ 31 (some 43) (aT HT_) ?_
            refine pd_ 32 (some 44) (aT HT_) ?_
            refine pd_ 33 (some 45) (aT HT_) ?_
            refine pd_ 34 (some 46) (aT HT_) ?_
            refine pu_ 35 (some 47) (aT HT_) ?_
            refine done_ (done_of HT_.out aK) ?_
            try go_wp2
            go_meet
            case rel=>exact ⟨_,(true),bZ,H',⟨by have:=HK1.out;have:=HJ1.out;first|omega|exact Nat.le_refl _⟩,⟨pK BK552.out⟩,⟨pS HB.out⟩⟩
          ·replace c14:=Bool.eq_false_iff.mpr c14;subst c14
           rw [if_neg nFT] at H
           have H':=mA H;clear H
           try go_wp2
           have n0_:Aside0 (((((w7.setCell ⟨gb552,0,none⟩ (.int .i64 ((rd_T138 l0 x7_1).f0))).setCell ⟨gb552,1,none⟩ (.int .i64 ((rd_T138 l0 x7_1).f1))).setCell ⟨gb552,2,none⟩ (.int .i64 ((rd_T138 l0 x7_1).f2))).setCell ⟨gb552,3,none⟩ (.int .i64 ((rd_T138 l0 x7_1).f3))).heap[gb552]?=some (.cells #[.int .i64 ((rd_T138 l0 x7_1).f0),.int .i64 ((rd_T138 l0 x7_1).f1),.int .i64 ((rd_T138 l0 x7_1).f2),.int .i64 ((rd_T138 l0 x7_1).f3)] 138 (0,0))):=⟨pP BK552⟩
           have n1_:Aside0 (Below w.heap.size w ((((w7.setCell ⟨gb552,0,none⟩ (.int .i64 ((rd_T138 l0 x7_1).f0))).setCell ⟨gb552,1,none⟩ (.int .i64 ((rd_T138 l0 x7_1).f1))).setCell ⟨gb552,2,none⟩ (.int .i64 ((rd_T138 l0 x7_1).f2))).setCell ⟨gb552,3,none⟩ (.int .i64 ((rd_T138 l0 x7_1).f3)))):=⟨pS HB.out⟩
           (try clear BK552);(try clear HB)
           generalize ((((w7.setCell ⟨gb552,0,none⟩ (.int .i64 ((rd_T138 l0 x7_1).f0))).setCell ⟨gb552,1,none⟩ (.int .i64 ((rd_T138 l0 x7_1).f1))).setCell ⟨gb552,2,none⟩ (.int .i64 ((rd_T138 l0 x7_1).f2))).setCell ⟨gb552,3,none⟩ (.int .i64 ((rd_T138 l0 x7_1).f3)))=w29 at n0_ n1_ ⊢
           have BK552:=n0_;have HB:=n1_;clear n0_ n1_;replace BK552:=mA (blk_drew BK552.out);replace HB:=mA (below_drew1 HB.out)
           refine start_ (n:=36) (S:=fun w'=>w'.heap[gb552]?=some (.cells #[.int .i64 ((rd_T138 l0 x7_1).f0),.int .i64 ((rd_T138 l0 x7_1).f1),.int .i64 ((rd_T138 l0 x7_1).f2),.int .i64 ((rd_T138 l0 x7_1).f3)] 138 (0,0))) (ds:=[]) _ aK rfl rfl BK552.out (fun hHeld=>?_);refine with_tabW impl_BlkOk.tab4 impl_BlkOk.bits4 (fun HT_ HW_=>?_)
           generalize w29.drew=w30 at BK552 HB hHeld ⊢
           refine pu_ 0 (some 12) (aT HT_) ?_
           refine tb1_ 1 (some 13) (tT HT_ HW_) hHeld ?_
           refine on_ 2 (some 14) (oT HT_) ?_;intro K hK
           refine gD Try.func74 (impl_in.calls A9.out) ?_
           rintro e w' ⟨rfl,⟨nd,rfl⟩⟩;refine ⟨_,rfl,?_⟩;refine hK.out _ _ BK552.out (fun hHeld=>?_);clear hK K;refine no_ (some 14) ?_
           refine pu_ 3 (some 15) (aT HT_) ?_
           refine pu_ 4 (some 16) (aT HT_) ?_
           refine pu_ 5 (some 17) (aT HT_) ?_
           refine tb1_ 6 (some 18) (tT HT_ HW_) hHeld ?_
           refine on_ 7 (some 19) (oT HT_) ?_;intro K hK
           refine gD Try.func74 (impl_in.calls A11.out) ?_
           rintro e w' ⟨rfl,⟨nd,rfl⟩⟩;refine ⟨_,rfl,?_⟩;refine hK.out _ _ BK552.out (fun hHeld=>?_);clear hK K;refine no_ (some 19) ?_
           refine pu_ 8 (some 20) (aT HT_) ?_
           refine pu_ 9 (some 21) (aT HT_) ?_
           refine pu_ 10 (some 22) (aT HT_) ?_
           refine pu_ 11 (some 23) (aT HT_) ?_
           refine tb1_ 12 (some 24) (tT HT_ HW_) hHeld ?_
           refine on_ 13 (some 25) (oT HT_) ?_;intro K hK
           refine gD Try.func74 (impl_in.calls A13.out) ?_
           rintro e w' ⟨rfl,⟨nd,rfl⟩⟩;refine ⟨_,rfl,?_⟩;refine hK.out _ _ BK552.out (fun hHeld=>?_);clear hK K;refine no_ (some 25) ?_
           refine pu_ 14 (some 26) (aT HT_) ?_
           refine pu_ 15 (some 27) (aT HT_) ?_
           refine pu_ 16 (some 28) (aT HT_) ?_
           refine pd_ 17 (some 29) (aT HT_) ?_
           refine pd_ 18 (some 30) (aT HT_) ?_
           refine pd_ 19 (some 31) (aT HT_) ?_
           refine pd_ 20 (some 32) (aT HT_) ?_
           refine pu_ 21 (some 33) (aT HT_) ?_
           refine pu_ 22 (some 34) (aT HT_) ?_
           refine pd_ 23 (some 35) (aT HT_) ?_
           refine pd_ 24 (some 36) (aT HT_) ?_
           refine pd_ 25 (some 37) (aT HT_) ?_
           refine pd_ 26 (some 38) (aT HT_) ?_
           refine pd_ 27 (some 39) (aT HT_) ?_
           refine pd_ 28 (some 40) (aT HT_) ?_
           refine pd_ 29 (some 41) (aT HT_) ?_
           refine pd_ 30 (some 42) (aT HT_) ?_
           refine pd_ 31 (some 43) (aT HT_) ?_
           refine pd_ 32 (some 44) (aT HT_) ?_
           refine pd_ 33 (some 45) (aT HT_) ?_
           refine pd_ 34 (some 46) (aT HT_) ?_
           refine pu_ 35 (some 47) (aT HT_) ?_
           refine done_ (done_of HT_.out aK) ?_
           try go_wp2
           go_meet
           case rel=>exact ⟨_,(true),bZ,H',⟨by have:=HK1.out;have:=HJ1.out;first|omega|exact Nat.le_refl _⟩,⟨pK BK552.out⟩,⟨pS HB.out⟩⟩
         ·replace c12:=Bool.eq_false_iff.mpr c12;subst c12
          rw [if_neg nFT] at H
          have H':=mA H;clear H
          try go_wp2
          have n0_:Aside0 (((((w7.setCell ⟨gb552,0,none⟩ (.int .i64 ((rd_T138 l0 x7_1).f0))).setCell ⟨gb552,1,none⟩ (.int .i64 ((rd_T138 l0 x7_1).f1))).setCell ⟨gb552,2,none⟩ (.int .i64 ((rd_T138 l0 x7_1).f2))).setCell ⟨gb552,3,none⟩ (.int .i64 ((rd_T138 l0 x7_1).f3))).heap[gb552]?=some (.cells #[.int .i64 ((rd_T138 l0 x7_1).f0),.int .i64 ((rd_T138 l0 x7_1).f1),.int .i64 ((rd_T138 l0 x7_1).f2),.int .i64 ((rd_T138 l0 x7_1).f3)] 138 (0,0))):=⟨pP BK552⟩
          have n1_:Aside0 (Below w.heap.size w ((((w7.setCell ⟨gb552,0,none⟩ (.int .i64 ((rd_T138 l0 x7_1).f0))).setCell ⟨gb552,1,none⟩ (.int .i64 ((rd_T138 l0 x7_1).f1))).setCell ⟨gb552,2,none⟩ (.int .i64 ((rd_T138 l0 x7_1).f2))).setCell ⟨gb552,3,none⟩ (.int .i64 ((rd_T138 l0 x7_1).f3)))):=⟨pS HB.out⟩
          (try clear BK552);(try clear HB)
          generalize ((((w7.setCell ⟨gb552,0,none⟩ (.int .i64 ((rd_T138 l0 x7_1).f0))).setCell ⟨gb552,1,none⟩ (.int .i64 ((rd_T138 l0 x7_1).f1))).setCell ⟨gb552,2,none⟩ (.int .i64 ((rd_T138 l0 x7_1).f2))).setCell ⟨gb552,3,none⟩ (.int .i64 ((rd_T138 l0 x7_1).f3)))=w31 at n0_ n1_ ⊢
          have BK552:=n0_;have HB:=n1_;clear n0_ n1_;replace BK552:=mA (blk_drew BK552.out);replace HB:=mA (below_drew1 HB.out)
          refine start_ (n:=36) (S:=fun w'=>w'.heap[gb552]?=some (.cells #[.int .i64 ((rd_T138 l0 x7_1).f0),.int .i64 ((rd_T138 l0 x7_1).f1),.int .i64 ((rd_T138 l0 x7_1).f2),.int .i64 ((rd_T138 l0 x7_1).f3)] 138 (0,0))) (ds:=[]) _ aK rfl rfl BK552.out (fun hHeld=>?_);refine with_tabW impl_BlkOk.tab4 impl_BlkOk.bits4 (fun HT_ HW_=>?_)
          generalize w31.drew=w32 at BK552 HB hHeld ⊢
          refine pu_ 0 (some 12) (aT HT_) ?_
          refine tb1_ 1 (some 13) (tT HT_ HW_) hHeld ?_
          refine on_ 2 (some 14) (oT HT_) ?_;intro K hK
          refine gD Try.func74 (impl_in.calls A9.out) ?_
          rintro e w' ⟨rfl,⟨nd,rfl⟩⟩;refine ⟨_,rfl,?_⟩;refine hK.out _ _ BK552.out (fun hHeld=>?_);clear hK K;refine no_ (some 14) ?_
          refine pu_ 3 (some 15) (aT HT_) ?_
          refine pu_ 4 (some 16) (aT HT_) ?_
          refine pu_ 5 (some 17) (aT HT_) ?_
          refine tb1_ 6 (some 18) (tT HT_ HW_) hHeld ?_
          refine on_ 7 (some 19) (oT HT_) ?_;intro K hK
          refine gD Try.func74 (impl_in.calls A11.out) ?_
          rintro e w' ⟨rfl,⟨nd,rfl⟩⟩;refine ⟨_,rfl,?_⟩;refine hK.out _ _ BK552.out (fun hHeld=>?_);clear hK K;refine no_ (some 19) ?_
          refine pu_ 8 (some 20) (aT HT_) ?_
          refine pu_ 9 (some 21) (aT HT_) ?_
          refine pu_ 10 (some 22) (aT HT_) ?_
          refine pd_ 11 (some 23) (aT HT_) ?_
          refine pd_ 12 (some 24) (aT HT_) ?_
          refine pd_ 13 (some 25) (aT HT_) ?_
          refine pd_ 14 (some 26) (aT HT_) ?_
          refine pu_ 15 (some 27) (aT HT_) ?_
          refine pu_ 16 (some 28) (aT HT_) ?_
          refine pd_ 17 (some 29) (aT HT_) ?_
          refine pd_ 18 (some 30) (aT HT_) ?_
          refine pd_ 19 (some 31) (aT HT_) ?_
          refine pd_ 20 (some 32) (aT HT_) ?_
          refine pu_ 21 (some 33) (aT HT_) ?_
          refine pu_ 22 (some 34) (aT HT_) ?_
          refine pd_ 23 (some 35) (aT HT_) ?_
          refine pd_ 24 (some 36) (aT HT_) ?_
          refine pd_ 25 (some 37) (aT HT_) ?_
          refine pd_ 26 (some 38) (aT HT_) ?_
          refine pd_ 27 (some 39) (aT HT_) ?_
          refine pd_ 28 (some 40) (aT HT_) ?_
          refine pd_ 29 (some 41) (aT HT_) ?_
          refine pd_ 30 (some 42) (aT HT_) ?_
          refine pd_ 31 (some 43) (aT HT_) ?_
          refine pd_ 32 (some 44) (aT HT_) ?_
          refine pd_ 33 (some 45) (aT HT_) ?_
          refine pd_ 34 (some 46) (aT HT_) ?_
          refine pu_ 35 (some 47) (aT HT_) ?_
          refine done_ (done_of HT_.out aK) ?_
          try go_wp2
          go_meet
          case rel=>exact ⟨_,(true),bZ,H',⟨by have:=HK1.out;have:=HJ1.out;first|omega|exact Nat.le_refl _⟩,⟨pK BK552.out⟩,⟨pS HB.out⟩⟩
        ·replace c10:=Bool.eq_false_iff.mpr c10;subst c10
         rw [if_neg nFT] at H
         have H':=mA H;clear H
         try go_wp2
         have n0_:Aside0 (((((w7.setCell ⟨gb552,0,none⟩ (.int .i64 ((rd_T138 l0 x7_1).f0))).setCell ⟨gb552,1,none⟩ (.int .i64 ((rd_T138 l0 x7_1).f1))).setCell ⟨gb552,2,none⟩ (.int .i64 ((rd_T138 l0 x7_1).f2))).setCell ⟨gb552,3,none⟩ (.int .i64 ((rd_T138 l0 x7_1).f3))).heap[gb552]?=some (.cells #[.int .i64 ((rd_T138 l0 x7_1).f0),.int .i64 ((rd_T138 l0 x7_1).f1),.int .i64 ((rd_T138 l0 x7_1).f2),.int .i64 ((rd_T138 l0 x7_1).f3)] 138 (0,0))):=⟨pP BK552⟩
         have n1_:Aside0 (Below w.heap.size w ((((w7.setCell ⟨gb552,0,none⟩ (.int .i64 ((rd_T138 l0 x7_1).f0))).setCell ⟨gb552,1,none⟩ (.int .i64 ((rd_T138 l0 x7_1).f1))).setCell ⟨gb552,2,none⟩ (.int .i64 ((rd_T138 l0 x7_1).f2))).setCell ⟨gb552,3,none⟩ (.int .i64 ((rd_T138 l0 x7_1).f3)))):=⟨pS HB.out⟩
         (try clear BK552);(try clear HB)
         generalize ((((w7.setCell ⟨gb552,0,none⟩ (.int .i64 ((rd_T138 l0 x7_1).f0))).setCell ⟨gb552,1,none⟩ (.int .i64 ((rd_T138 l0 x7_1).f1))).setCell ⟨gb552,2,none⟩ (.int .i64 ((rd_T138 l0 x7_1).f2))).setCell ⟨gb552,3,none⟩ (.int .i64 ((rd_T138 l0 x7_1).f3)))=w33 at n0_ n1_ ⊢
         have BK552:=n0_;have HB:=n1_;clear n0_ n1_;replace BK552:=mA (blk_drew BK552.out);replace HB:=mA (below_drew1 HB.out)
         refine start_ (n:=36) (S:=fun w'=>w'.heap[gb552]?=some (.cells #[.int .i64 ((rd_T138 l0 x7_1).f0),.int .i64 ((rd_T138 l0 x7_1).f1),.int .i64 ((rd_T138 l0 x7_1).f2),.int .i64 ((rd_T138 l0 x7_1).f3)] 138 (0,0))) (ds:=[]) _ aK rfl rfl BK552.out (fun hHeld=>?_);refine with_tabW impl_BlkOk.tab4 impl_BlkOk.bits4 (fun HT_ HW_=>?_)
         generalize w33.drew=w34 at BK552 HB hHeld ⊢
         refine pu_ 0 (some 12) (aT HT_) ?_
         refine tb1_ 1 (some 13) (tT HT_ HW_) hHeld ?_
         refine on_ 2 (some 14) (oT HT_) ?_;intro K hK
         refine gD Try.func74 (impl_in.calls A9.out) ?_
         rintro e w' ⟨rfl,⟨nd,rfl⟩⟩;refine ⟨_,rfl,?_⟩;refine hK.out _ _ BK552.out (fun hHeld=>?_);clear hK K;refine no_ (some 14) ?_
         refine pu_ 3 (some 15) (aT HT_) ?_
         refine pu_ 4 (some 16) (aT HT_) ?_
         refine pd_ 5 (some 17) (aT HT_) ?_
         refine pd_ 6 (some 18) (aT HT_) ?_
         refine pd_ 7 (some 19) (aT HT_) ?_
         refine pd_ 8 (some 20) (aT HT_) ?_
         refine pu_ 9 (some 21) (aT HT_) ?_
         refine pu_ 10 (some 22) (aT HT_) ?_
         refine pd_ 11 (some 23) (aT HT_) ?_
         refine pd_ 12 (some 24) (aT HT_) ?_
         refine pd_ 13 (some 25) (aT HT_) ?_
         refine pd_ 14 (some 26) (aT HT_) ?_
         refine pu_ 15 (some 27) (aT HT_) ?_
         refine pu_ 16 (some 28) (aT HT_) ?_
         refine pd_ 17 (some 29) (aT HT_) ?_
         refine pd_ 18 (some 30) (aT HT_) ?_
         refine pd_ 19 (some 31) (aT HT_) ?_
         refine pd_ 20 (some 32) (aT HT_) ?_
         refine pu_ 21 (some 33) (aT HT_) ?_
         refine pu_ 22 (some 34) (aT HT_) ?_
         refine pd_ 23 (some 35) (aT HT_) ?_
         refine pd_ 24 (some 36) (aT HT_) ?_
         refine pd_ 25 (some 37) (aT HT_) ?_
         refine pd_ 26 (some 38) (aT HT_) ?_
         refine pd_ 27 (some 39) (aT HT_) ?_
         refine pd_ 28 (some 40) (aT HT_) ?_
         refine pd_ 29 (some 41) (aT HT_) ?_
         refine pd_ 30 (some 42) (aT HT_) ?_
         refine pd_ 31 (some 43) (aT HT_) ?_
         refine pd_ 32 (some 44) (aT HT_) ?_
         refine pd_ 33 (some 45) (aT HT_) ?_
         refine pd_ 34 (some 46) (aT HT_) ?_
         refine pu_ 35 (some 47) (aT HT_) ?_
         refine done_ (done_of HT_.out aK) ?_
         try go_wp2
         go_meet
         case rel=>exact ⟨_,(true),bZ,H',⟨by have:=HK1.out;have:=HJ1.out;first|omega|exact Nat.le_refl _⟩,⟨pK BK552.out⟩,⟨pS HB.out⟩⟩
       case rest =>
        clear HC6
        obtain ⟨kq,x47_5,rfl,HA,HJ5,BK552,HB⟩:=hcut
        cases kq with
        | zero=>exact absurd HA.out (by simp [impl_BlkOk.j2])
        | succ kj5 =>
         have H:=HA.out;clear HA;simp only [impl_BlkOk.j2] at H
         by_cases c35:x47_5=true
         ·subst c35;rw [if_pos rfl] at H;obtain rfl:=Option.some.inj H
          go_wp2
          go_ret
          exact rZ (pS HB.out)
         ·replace c35:=Bool.eq_false_iff.mpr c35;subst c35
          rw [if_neg nFT] at H
          have H':=mA H;clear H
          go_wp2
          go_roundg kj5
          case measure=>have:=HK1.out;have:=HJ1.out;have:=HJ5.out;omega
          case rel=>exact ⟨(wrap64 (x7_1+1)),bZ,H',⟨by have:=HK1.out;have:=HJ1.out;have:=HJ5.out;omega⟩,⟨pS HB.out⟩⟩
      ·rw [if_neg c5] at H
       exact absurd H (by simp)
     ·rw [if_neg c4] at H
      exact absurd H (by simp)

/-! ### impl_lastOk: function 78 -/
def impl_lastOk.l0 : Nat → List (S140) → List (S140) → Int → Int → Option (Bool)
 | 0,_,_,_,_=>none
 | k+1,x0,x5,x6,x7=>if x7<x6 then (if 0≤x7 then (if x7<(x5.length:Int) then ((impl_in.f ((rd_T140 x5 x7).f0) 0 3).bind fun t561=>(if t561=true then ((impl_in.f ((rd_T140 x5 x7).f1) 1 99999).bind fun t562=>(if t562=true then (if x7 > 0 then (if 0≤(wrap64 (x7 - 1)) then (if (wrap64 (x7 - 1))<(x0.length:Int) then (if ((rd_T140 x0 (wrap64 (x7 - 1))).f0) ≥ ((rd_T140 x5 x7).f0) then (some false) else (impl_lastOk.l0 k x0 x5 x6 (wrap64 (x7+1)))) else (none)) else (none)) else (impl_lastOk.l0 k x0 x5 x6 (wrap64 (x7+1)))) else (some false))) else (some false))) else (none)) else (none)) else (some (decide ((x0.length:Int)≤4)))
def impl_lastOk.f (k : Nat) (l0 : List (S140)) : Option (Bool) := impl_lastOk.l0 k l0 l0 (l0.length : Int) 0
theorem impl_lastOk.mono_l : ∀ k, (∀ y0 y1 y2 y3, LeO (impl_lastOk.l0 k y0 y1 y2 y3) (impl_lastOk.l0 (k + 1) y0 y1 y2 y3))
 | 0=>fun _ _ _ _ r h=>by simp [impl_lastOk.l0] at h
 | k+1=>by
  have ih0:=impl_lastOk.mono_l k
  ·intros
   unfold impl_lastOk.l0
   repeat' first
   | (with_reducible first|apply ih0|exact LeO.refl _|exact LeO.none _|refine LeO.ite ?_ ?_|refine LeO.bind ?_ (fun _=>?_))|exact LeO.none _|refine LeO.ite ?_ ?_|refine LeO.bind ?_ (fun _=>?_)
theorem impl_lastOk.mono : ∀ a0 k, LeO (impl_lastOk.f k a0) (impl_lastOk.f (k + 1) a0) := by
 intro a0 k;have ih0:=impl_lastOk.mono_l k
 unfold impl_lastOk.f
 repeat' first
   | (with_reducible first|apply ih0|exact LeO.refl _|exact LeO.none _|refine LeO.ite ?_ ?_|refine LeO.bind ?_ (fun _=>?_))|exact LeO.none _|refine LeO.ite ?_ ?_|refine LeO.bind ?_ (fun _=>?_)
set_option maxHeartbeats 8000000 in
set_option maxRecDepth 100000 in
theorem impl_lastOk.calls {k : Nat} {A0 : Option Addr} {c0 : Nat} {l0 : List (S140)} {r : Bool} {w : World} (hr0 : Kd.C k140 w A0 l0.length l0) (hc0 : l0.length ≤ c0) (h : impl_lastOk.f k l0 = some r) :
  Calls Try.prog 78 #[.slice A0 l0.length c0] w fun e w'=>e=.returned (.bool r)∧Below w.heap.size w w':=by
 have hu140:=Try.underlying140;have HR0:=mA hr0;have HC0:=mA hc0;clear hr0 hc0;have HB:=mA (Below.refl w.heap.size w);have H:(impl_lastOk.l0 k l0 l0 (l0.length:Int) 0)=some r:=h;clear h;have H':=mA H;clear H
 go_enter Try.func78,Try.ntmps78
 go_wp2
 repeat (go_quiet (fail);try go_wp2)
 go_loopg [7] k (fun kq v7 w'=>∃ (x7_1:Int),v7=.int .i64 x7_1∧Aside0 (impl_lastOk.l0 kq l0 l0 (l0.length:Int) x7_1=some r)∧Aside0 (kq≤k)∧Aside0 (Below w.heap.size w w'))
 case atStart=>exact ⟨(0),bZ,H',⟨Nat.le_refl _⟩,⟨pB HB.out⟩⟩
 case round =>
  clear H';obtain ⟨x7_1,rfl,HA,HK1,HB⟩:=hrel
  cases gk with
  | zero=>exact absurd HA.out (by simp [impl_lastOk.l0])
  | succ k1 =>
   have H:=HA.out;clear HA;simp only [impl_lastOk.l0] at H
   by_cases c2:x7_1<(l0.length:Int)
   ·rw [if_pos c2] at H;have c2b0:decide (x7_1<(l0.length:Int))=true:=decide_eq_true c2;clear c2
    by_cases c3:0≤x7_1
    ·rw [if_pos c3] at H;have c3b0:decide (0≤x7_1)=true:=decide_eq_true c3;clear c3
     by_cases c4:x7_1<(l0.length:Int)
     ·rw [if_pos c4] at H;have c4b0:decide (x7_1<(l0.length:Int))=true:=decide_eq_true c4;clear c4;obtain ⟨t561,A5,H⟩:=bI H;(try dsimp only at H)
      by_cases c6:t561=true
      ·subst c6;rw [if_pos rfl] at H;obtain ⟨t562,A7,H⟩:=bI H;(try dsimp only at H)
       by_cases c8:t562=true
       ·subst c8;rw [if_pos rfl] at H
        by_cases c9:x7_1 > 0
        ·rw [if_pos c9] at H;have c9b0:decide (0<x7_1)=true:=decide_eq_true c9;clear c9;obtain ⟨ji10,hji10⟩:∃ j_:Int,(wrap64 (x7_1 - 1))=j_:=⟨_,rfl⟩
         replace H:(if 0≤(ji10) then (if (ji10)<(l0.length:Int) then (if ((rd_T140 l0 (ji10)).f0) ≥ ((rd_T140 l0 x7_1).f0) then (some false) else (impl_lastOk.l0 k1 l0 l0 (l0.length:Int) (wrap64 (x7_1+1)))) else (none)) else (none))=some r:=by first|(rw [hji10] at H;exact H)|(simp only [hji10] at H ⊢;exact H)
         (try rw [hji10] at A5)
         (try rw [hji10] at A7)
         have hji10w:(IntKind.i64.wrap (x7_1 - 1))=ji10:=(i64_w _).trans hji10
         by_cases c11:0≤(ji10)
         ·rw [if_pos c11] at H;have c11b0:decide (0≤(ji10))=true:=decide_eq_true c11;clear c11
          by_cases c12:(ji10)<(l0.length:Int)
          ·rw [if_pos c12] at H;have c12b0:decide ((ji10)<(l0.length:Int))=true:=decide_eq_true c12;clear c12
           by_cases c13:((rd_T140 l0 (ji10)).f0) ≥ ((rd_T140 l0 x7_1).f0)
           ·rw [if_pos c13] at H;have c13b0:decide (((rd_T140 l0 x7_1).f0)≤((rd_T140 l0 (ji10)).f0))=true:=decide_eq_true c13;clear c13;obtain rfl:=Option.some.inj H;have p559:0≤(x7_1:Int):=of_decide_eq_true bA;have q559:x7_1<(l0.length:Int):=of_decide_eq_true bA;obtain ⟨ad559,e559,hx559_0,hx559_1⟩:=at_T140 HR0.out x7_1 p559 q559;cases e559;replace hx559_0:=hC HB hx559_0;replace hx559_1:=hC HB hx559_1;replace p559:=eq_true p559;replace q559:=eq_true q559
            go_wp2_with (first|((with_reducible refine gT 4 rfl ?_);refine bE 4 #[.int .i64 0,.int .i64 0] 140 ?_;intro gb560 hg w14 hbox hb;have BK560:=mA hbox;have GW560:=gbpB HB hg;have GE560:=gbpB HB hg;replace HB:=spB HB hb;clear hb hbox hg;obtain ⟨hcz15_0,hcz15_1,hfz15_0,hfz15_1⟩:=box2 BK560.out)|(go_at_call 74;(with_reducible refine (impl_in.calls A5.out).mono ?_);rintro e w' ⟨rfl,⟨nd,rfl⟩⟩;(try first|exact ⟨rfl,_,World.drewN_drewN _ _ _⟩|exact ⟨rfl,_,Eq.trans (World.drewN_drewN _ _ _) (congrArg (World.drewN _) (Nat.add_assoc _ _ _))⟩))|(go_at_call 74;(with_reducible refine (impl_in.calls A7.out).mono ?_);rintro e w' ⟨rfl,⟨nd,rfl⟩⟩;(try first|exact ⟨rfl,_,World.drewN_drewN _ _ _⟩|exact ⟨rfl,_,Eq.trans (World.drewN_drewN _ _ _) (congrArg (World.drewN _) (Nat.add_assoc _ _ _))⟩);have p563:0≤((ji10):Int):=of_decide_eq_true bA;have q563:(ji10)<(l0.length:Int):=of_decide_eq_true bA;obtain ⟨ad563,e563,hx563_0,hx563_1⟩:=at_T140 HR0.out (ji10) p563 q563;obtain rfl:ad559=ad563:=(by injection e563);have hn563_0:ad559.block≠gb560:=Nat.ne_of_lt (Nat.lt_of_lt_of_le (by have:=World.block_lt_of_cell? _ _ hx563_0;first|rwa [add_block] at this|exact this) GW560.out);have hn563_1:ad559.block≠gb560:=Nat.ne_of_lt (Nat.lt_of_lt_of_le (by have:=World.block_lt_of_cell? _ _ hx563_0;first|rwa [add_block] at this|exact this) GW560.out);replace hx563_0:=hC HB hx563_0;replace hx563_1:=hC HB hx563_1;replace hx563_0:=(cell_far (p:=⟨gb560,0,none⟩) (by first|(rw [add_block];exact hn563_0)|(show (Addr.add _ _).block≠_;rw [add_block];exact hn563_0)|exact hn563_0) (.int .i64 ((rd_T140 l0 x7_1).f0))).trans hx563_0;replace hx563_1:=(cell_far (p:=⟨gb560,0,none⟩) (by first|(rw [add_block];exact hn563_0)|(show (Addr.add _ _).block≠_;rw [add_block];exact hn563_0)|exact hn563_0) (.int .i64 ((rd_T140 l0 x7_1).f0))).trans hx563_1;replace hx563_0:=(cell_far (p:=⟨gb560,1,none⟩) (by first|(rw [add_block];exact hn563_1)|(show (Addr.add _ _).block≠_;rw [add_block];exact hn563_1)|exact hn563_1) (.int .i64 ((rd_T140 l0 x7_1).f1))).trans hx563_0;replace hx563_1:=(cell_far (p:=⟨gb560,1,none⟩) (by first|(rw [add_block];exact hn563_1)|(show (Addr.add _ _).block≠_;rw [add_block];exact hn563_1)|exact hn563_1) (.int .i64 ((rd_T140 l0 x7_1).f1))).trans hx563_1;(try have hy563_0:=fun (n_:Nat)=>(show ((((w14.drewN n_).setCell ⟨gb560,0,none⟩ (.int .i64 ((rd_T140 l0 x7_1).f0))).setCell ⟨gb560,1,none⟩ (.int .i64 ((rd_T140 l0 x7_1).f1)))).cell? _=some _ from hx563_0));(try have hy563_1:=fun (n_:Nat)=>(show ((((w14.drewN n_).setCell ⟨gb560,0,none⟩ (.int .i64 ((rd_T140 l0 x7_1).f0))).setCell ⟨gb560,1,none⟩ (.int .i64 ((rd_T140 l0 x7_1).f1)))).cell? _=some _ from hx563_1));clear hn563_0;clear hn563_1;replace p563:=eq_true p563;replace q563:=eq_true q563))
            repeat (go_quiet (first|((with_reducible refine gT 4 rfl ?_);refine bE 4 #[.int .i64 0,.int .i64 0] 140 ?_;intro gb560 hg w14 hbox hb;have BK560:=mA hbox;have GW560:=gbpB HB hg;have GE560:=gbpB HB hg;replace HB:=spB HB hb;clear hb hbox hg;obtain ⟨hcz15_0,hcz15_1,hfz15_0,hfz15_1⟩:=box2 BK560.out)|(go_at_call 74;(with_reducible refine (impl_in.calls A5.out).mono ?_);rintro e w' ⟨rfl,⟨nd,rfl⟩⟩;(try first|exact ⟨rfl,_,World.drewN_drewN _ _ _⟩|exact ⟨rfl,_,Eq.trans (World.drewN_drewN _ _ _) (congrArg (World.drewN _) (Nat.add_assoc _ _ _))⟩))|(go_at_call 74;(with_reducible refine (impl_in.calls A7.out).mono ?_);rintro e w' ⟨rfl,⟨nd,rfl⟩⟩;(try first|exact ⟨rfl,_,World.drewN_drewN _ _ _⟩|exact ⟨rfl,_,Eq.trans (World.drewN_drewN _ _ _) (congrArg (World.drewN _) (Nat.add_assoc _ _ _))⟩);have p563:0≤((ji10):Int):=of_decide_eq_true bA;have q563:(ji10)<(l0.length:Int):=of_decide_eq_true bA;obtain ⟨ad563,e563,hx563_0,hx563_1⟩:=at_T140 HR0.out (ji10) p563 q563;obtain rfl:ad559=ad563:=(by injection e563);have hn563_0:ad559.block≠gb560:=Nat.ne_of_lt (Nat.lt_of_lt_of_le (by have:=World.block_lt_of_cell? _ _ hx563_0;first|rwa [add_block] at this|exact this) GW560.out);have hn563_1:ad559.block≠gb560:=Nat.ne_of_lt (Nat.lt_of_lt_of_le (by have:=World.block_lt_of_cell? _ _ hx563_0;first|rwa [add_block] at this|exact this) GW560.out);replace hx563_0:=hC HB hx563_0;replace hx563_1:=hC HB hx563_1;replace hx563_0:=(cell_far (p:=⟨gb560,0,none⟩) (by first|(rw [add_block];exact hn563_0)|(show (Addr.add _ _).block≠_;rw [add_block];exact hn563_0)|exact hn563_0) (.int .i64 ((rd_T140 l0 x7_1).f0))).trans hx563_0;replace hx563_1:=(cell_far (p:=⟨gb560,0,none⟩) (by first|(rw [add_block];exact hn563_0)|(show (Addr.add _ _).block≠_;rw [add_block];exact hn563_0)|exact hn563_0) (.int .i64 ((rd_T140 l0 x7_1).f0))).trans hx563_1;replace hx563_0:=(cell_far (p:=⟨gb560,1,none⟩) (by first|(rw [add_block];exact hn563_1)|(show (Addr.add _ _).block≠_;rw [add_block];exact hn563_1)|exact hn563_1) (.int .i64 ((rd_T140 l0 x7_1).f1))).trans hx563_0;replace hx563_1:=(cell_far (p:=⟨gb560,1,none⟩) (by first|(rw [add_block];exact hn563_1)|(show (Addr.add _ _).block≠_;rw [add_block];exact hn563_1)|exact hn563_1) (.int .i64 ((rd_T140 l0 x7_1).f1))).trans hx563_1;(try have hy563_0:=fun (n_:Nat)=>(show ((((w14.drewN n_).setCell ⟨gb560,0,none⟩ (.int .i64 ((rd_T140 l0 x7_1).f0))).setCell ⟨gb560,1,none⟩ (.int .i64 ((rd_T140 l0 x7_1).f1)))).cell? _=some _ from hx563_0));(try have hy563_1:=fun (n_:Nat)=>(show ((((w14.drewN n_).setCell ⟨gb560,0,none⟩ (.int .i64 ((rd_T140 l0 x7_1).f0))).setCell ⟨gb560,1,none⟩ (.int .i64 ((rd_T140 l0 x7_1).f1)))).cell? _=some _ from hx563_1));clear hn563_0;clear hn563_1;replace p563:=eq_true p563;replace q563:=eq_true q563));try go_wp2_with (first|((with_reducible refine gT 4 rfl ?_);refine bE 4 #[.int .i64 0,.int .i64 0] 140 ?_;intro gb560 hg w14 hbox hb;have BK560:=mA hbox;have GW560:=gbpB HB hg;have GE560:=gbpB HB hg;replace HB:=spB HB hb;clear hb hbox hg;obtain ⟨hcz15_0,hcz15_1,hfz15_0,hfz15_1⟩:=box2 BK560.out)|(go_at_call 74;(with_reducible refine (impl_in.calls A5.out).mono ?_);rintro e w' ⟨rfl,⟨nd,rfl⟩⟩;(try first|exact ⟨rfl,_,World.drewN_drewN _ _ _⟩|exact ⟨rfl,_,Eq.trans (World.drewN_drewN _ _ _) (congrArg (World.drewN _) (Nat.add_assoc _ _ _))⟩))|(go_at_call 74;(with_reducible refine (impl_in.calls A7.out).mono ?_);rintro e w' ⟨rfl,⟨nd,rfl⟩⟩;(try first|exact ⟨rfl,_,World.drewN_drewN _ _ _⟩|exact ⟨rfl,_,Eq.trans (World.drewN_drewN _ _ _) (congrArg (World.drewN _) (Nat.add_assoc _ _ _))⟩);have p563:0≤((ji10):Int):=of_decide_eq_true bA;have q563:(ji10)<(l0.length:Int):=of_decide_eq_true bA;obtain ⟨ad563,e563,hx563_0,hx563_1⟩:=at_T140 HR0.out (ji10) p563 q563;obtain rfl:ad559=ad563:=(by injection e563);have hn563_0:ad559.block≠gb560:=Nat.ne_of_lt (Nat.lt_of_lt_of_le (by have:=World.block_lt_of_cell? _ _ hx563_0;first|rwa [add_block] at this|exact this) GW560.out);have hn563_1:ad559.block≠gb560:=Nat.ne_of_lt (Nat.lt_of_lt_of_le (by have:=World.block_lt_of_cell? _ _ hx563_0;first|rwa [add_block] at this|exact this) GW560.out);replace hx563_0:=hC HB hx563_0;replace hx563_1:=hC HB hx563_1;replace hx563_0:=(cell_far (p:=⟨gb560,0,none⟩) (by first|(rw [add_block];exact hn563_0)|(show (Addr.add _ _).block≠_;rw [add_block];exact hn563_0)|exact hn563_0) (.int .i64 ((rd_T140 l0 x7_1).f0))).trans hx563_0;replace hx563_1:=(cell_far (p:=⟨gb560,0,none⟩) (by first|(rw [add_block];exact hn563_0)|(show (Addr.add _ _).block≠_;rw [add_block];exact hn563_0)|exact hn563_0) (.int .i64 ((rd_T140 l0 x7_1).f0))).trans hx563_1;replace hx563_0:=(cell_far (p:=⟨gb560,1,none⟩) (by first|(rw [add_block];exact hn563_1)|(show (Addr.add _ _).block≠_;rw [add_block];exact hn563_1)|exact hn563_1) (.int .i64 ((rd_T140 l0 x7_1).f1))).trans hx563_0;replace hx563_1:=(cell_far (p:=⟨gb560,1,none⟩) (by first|(rw [add_block];exact hn563_1)|(show (Addr.add _ _).block≠_;rw [add_block];exact hn563_1)|exact hn563_1) (.int .i64 ((rd_T140 l0 x7_1).f1))).trans hx563_1;(try have hy563_0:=fun (n_:Nat)=>(show ((((w14.drewN n_).setCell ⟨gb560,0,none⟩ (.int .i64 ((rd_T140 l0 x7_1).f0))).setCell ⟨gb560,1,none⟩ (.int .i64 ((rd_T140 l0 x7_1).f1)))).cell? _=some _ from hx563_0));(try have hy563_1:=fun (n_:Nat)=>(show ((((w14.drewN n_).setCell ⟨gb560,0,none⟩ (.int .i64 ((rd_T140 l0 x7_1).f0))).setCell ⟨gb560,1,none⟩ (.int .i64 ((rd_T140 l0 x7_1).f1)))).cell? _=some _ from hx563_1));clear hn563_0;clear hn563_1;replace p563:=eq_true p563;replace q563:=eq_true q563)))
            go_ret
            exact ⟨by first|rfl|(simp [errW_none,errW_some]<;>rfl)|(simp only [← hji10];first|rfl|(simp [errW_none,errW_some]<;>rfl))|(simp [*,errW_none,errW_some]<;>rfl),pS HB.out⟩
           ·rw [if_neg c13] at H;have c13b0:decide (((rd_T140 l0 x7_1).f0)≤((rd_T140 l0 (ji10)).f0))=false:=decide_eq_false c13;clear c13;have H':=mA H;clear H;have p559:0≤(x7_1:Int):=of_decide_eq_true bA;have q559:x7_1<(l0.length:Int):=of_decide_eq_true bA;obtain ⟨ad559,e559,hx559_0,hx559_1⟩:=at_T140 HR0.out x7_1 p559 q559;cases e559;replace hx559_0:=hC HB hx559_0;replace hx559_1:=hC HB hx559_1;replace p559:=eq_true p559;replace q559:=eq_true q559
            go_wp2_with (first|((with_reducible refine gT 4 rfl ?_);refine bE 4 #[.int .i64 0,.int .i64 0] 140 ?_;intro gb560 hg w16 hbox hb;have BK560:=mA hbox;have GW560:=gbpB HB hg;have GE560:=gbpB HB hg;replace HB:=spB HB hb;clear hb hbox hg;obtain ⟨hcz17_0,hcz17_1,hfz17_0,hfz17_1⟩:=box2 BK560.out)|(go_at_call 74;(with_reducible refine (impl_in.calls A5.out).mono ?_);rintro e w' ⟨rfl,⟨nd,rfl⟩⟩;(try first|exact ⟨rfl,_,World.drewN_drewN _ _ _⟩|exact ⟨rfl,_,Eq.trans (World.drewN_drewN _ _ _) (congrArg (World.drewN _) (Nat.add_assoc _ _ _))⟩))|(go_at_call 74;(with_reducible refine (impl_in.calls A7.out).mono ?_);rintro e w' ⟨rfl,⟨nd,rfl⟩⟩;(try first|exact ⟨rfl,_,World.drewN_drewN _ _ _⟩|exact ⟨rfl,_,Eq.trans (World.drewN_drewN _ _ _) (congrArg (World.drewN _) (Nat.add_assoc _ _ _))⟩);have p563:0≤((ji10):Int):=of_decide_eq_true bA;have q563:(ji10)<(l0.length:Int):=of_decide_eq_true bA;obtain ⟨ad563,e563,hx563_0,hx563_1⟩:=at_T140 HR0.out (ji10) p563 q563;obtain rfl:ad559=ad563:=(by injection e563);have hn563_0:ad559.block≠gb560:=Nat.ne_of_lt (Nat.lt_of_lt_of_le (by have:=World.block_lt_of_cell? _ _ hx563_0;first|rwa [add_block] at this|exact this) GW560.out);have hn563_1:ad559.block≠gb560:=Nat.ne_of_lt (Nat.lt_of_lt_of_le (by have:=World.block_lt_of_cell? _ _ hx563_0;first|rwa [add_block] at this|exact this) GW560.out);replace hx563_0:=hC HB hx563_0;replace hx563_1:=hC HB hx563_1;replace hx563_0:=(cell_far (p:=⟨gb560,0,none⟩) (by first|(rw [add_block];exact hn563_0)|(show (Addr.add _ _).block≠_;rw [add_block];exact hn563_0)|exact hn563_0) (.int .i64 ((rd_T140 l0 x7_1).f0))).trans hx563_0;replace hx563_1:=(cell_far (p:=⟨gb560,0,none⟩) (by first|(rw [add_block];exact hn563_0)|(show (Addr.add _ _).block≠_;rw [add_block];exact hn563_0)|exact hn563_0) (.int .i64 ((rd_T140 l0 x7_1).f0))).trans hx563_1;replace hx563_0:=(cell_far (p:=⟨gb560,1,none⟩) (by first|(rw [add_block];exact hn563_1)|(show (Addr.add _ _).block≠_;rw [add_block];exact hn563_1)|exact hn563_1) (.int .i64 ((rd_T140 l0 x7_1).f1))).trans hx563_0;replace hx563_1:=(cell_far (p:=⟨gb560,1,none⟩) (by first|(rw [add_block];exact hn563_1)|(show (Addr.add _ _).block≠_;rw [add_block];exact hn563_1)|exact hn563_1) (.int .i64 ((rd_T140 l0 x7_1).f1))).trans hx563_1;(try have hy563_0:=fun (n_:Nat)=>(show ((((w16.drewN n_).setCell ⟨gb560,0,none⟩ (.int .i64 ((rd_T140 l0 x7_1).f0))).setCell ⟨gb560,1,none⟩ (.int .i64 ((rd_T140 l0 x7_1).f1)))).cell? _=some _ from hx563_0));(try have hy563_1:=fun (n_:Nat)=>(show ((((w16.drewN n_).setCell ⟨gb560,0,none⟩ (.int .i64 ((rd_T140 l0 x7_1).f0))).setCell ⟨gb560,1,none⟩ (.int .i64 ((rd_T140 l0 x7_1).f1)))).cell? _=some _ from hx563_1));clear hn563_0;clear hn563_1;replace p563:=eq_true p563;replace q563:=eq_true q563))
            repeat (go_quiet (first|((with_reducible refine gT 4 rfl ?_);refine bE 4 #[.int .i64 0,.int .i64 0] 140 ?_;intro gb560 hg w16 hbox hb;have BK560:=mA hbox;have GW560:=gbpB HB hg;have GE560:=gbpB HB hg;replace HB:=spB HB hb;clear hb hbox hg;obtain ⟨hcz17_0,hcz17_1,hfz17_0,hfz17_1⟩:=box2 BK560.out)|(go_at_call 74;(with_reducible refine (impl_in.calls A5.out).mono ?_);rintro e w' ⟨rfl,⟨nd,rfl⟩⟩;(try first|exact ⟨rfl,_,World.drewN_drewN _ _ _⟩|exact ⟨rfl,_,Eq.trans (World.drewN_drewN _ _ _) (congrArg (World.drewN _) (Nat.add_assoc _ _ _))⟩))|(go_at_call 74;(with_reducible refine (impl_in.calls A7.out).mono ?_);rintro e w' ⟨rfl,⟨nd,rfl⟩⟩;(try first|exact ⟨rfl,_,World.drewN_drewN _ _ _⟩|exact ⟨rfl,_,Eq.trans (World.drewN_drewN _ _ _) (congrArg (World.drewN _) (Nat.add_assoc _ _ _))⟩);have p563:0≤((ji10):Int):=of_decide_eq_true bA;have q563:(ji10)<(l0.length:Int):=of_decide_eq_true bA;obtain ⟨ad563,e563,hx563_0,hx563_1⟩:=at_T140 HR0.out (ji10) p563 q563;obtain rfl:ad559=ad563:=(by injection e563);have hn563_0:ad559.block≠gb560:=Nat.ne_of_lt (Nat.lt_of_lt_of_le (by have:=World.block_lt_of_cell? _ _ hx563_0;first|rwa [add_block] at this|exact this) GW560.out);have hn563_1:ad559.block≠gb560:=Nat.ne_of_lt (Nat.lt_of_lt_of_le (by have:=World.block_lt_of_cell? _ _ hx563_0;first|rwa [add_block] at this|exact this) GW560.out);replace hx563_0:=hC HB hx563_0;replace hx563_1:=hC HB hx563_1;replace hx563_0:=(cell_far (p:=⟨gb560,0,none⟩) (by first|(rw [add_block];exact hn563_0)|(show (Addr.add _ _).block≠_;rw [add_block];exact hn563_0)|exact hn563_0) (.int .i64 ((rd_T140 l0 x7_1).f0))).trans hx563_0;replace hx563_1:=(cell_far (p:=⟨gb560,0,none⟩) (by first|(rw [add_block];exact hn563_0)|(show (Addr.add _ _).block≠_;rw [add_block];exact hn563_0)|exact hn563_0) (.int .i64 ((rd_T140 l0 x7_1).f0))).trans hx563_1;replace hx563_0:=(cell_far (p:=⟨gb560,1,none⟩) (by first|(rw [add_block];exact hn563_1)|(show (Addr.add _ _).block≠_;rw [add_block];exact hn563_1)|exact hn563_1) (.int .i64 ((rd_T140 l0 x7_1).f1))).trans hx563_0;replace hx563_1:=(cell_far (p:=⟨gb560,1,none⟩) (by first|(rw [add_block];exact hn563_1)|(show (Addr.add _ _).block≠_;rw [add_block];exact hn563_1)|exact hn563_1) (.int .i64 ((rd_T140 l0 x7_1).f1))).trans hx563_1;(try have hy563_0:=fun (n_:Nat)=>(show ((((w16.drewN n_).setCell ⟨gb560,0,none⟩ (.int .i64 ((rd_T140 l0 x7_1).f0))).setCell ⟨gb560,1,none⟩ (.int .i64 ((rd_T140 l0 x7_1).f1)))).cell? _=some _ from hx563_0));(try have hy563_1:=fun (n_:Nat)=>(show ((((w16.drewN n_).setCell ⟨gb560,0,none⟩ (.int .i64 ((rd_T140 l0 x7_1).f0))).setCell ⟨gb560,1,none⟩ (.int .i64 ((rd_T140 l0 x7_1).f1)))).cell? _=some _ from hx563_1));clear hn563_0;clear hn563_1;replace p563:=eq_true p563;replace q563:=eq_true q563));try go_wp2_with (first|((with_reducible refine gT 4 rfl ?_);refine bE 4 #[.int .i64 0,.int .i64 0] 140 ?_;intro gb560 hg w16 hbox hb;have BK560:=mA hbox;have GW560:=gbpB HB hg;have GE560:=gbpB HB hg;replace HB:=spB HB hb;clear hb hbox hg;obtain ⟨hcz17_0,hcz17_1,hfz17_0,hfz17_1⟩:=box2 BK560.out)|(go_at_call 74;(with_reducible refine (impl_in.calls A5.out).mono ?_);rintro e w' ⟨rfl,⟨nd,rfl⟩⟩;(try first|exact ⟨rfl,_,World.drewN_drewN _ _ _⟩|exact ⟨rfl,_,Eq.trans (World.drewN_drewN _ _ _) (congrArg (World.drewN _) (Nat.add_assoc _ _ _))⟩))|(go_at_call 74;(with_reducible refine (impl_in.calls A7.out).mono ?_);rintro e w' ⟨rfl,⟨nd,rfl⟩⟩;(try first|exact ⟨rfl,_,World.drewN_drewN _ _ _⟩|exact ⟨rfl,_,Eq.trans (World.drewN_drewN _ _ _) (congrArg (World.drewN _) (Nat.add_assoc _ _ _))⟩);have p563:0≤((ji10):Int):=of_decide_eq_true bA;have q563:(ji10)<(l0.length:Int):=of_decide_eq_true bA;obtain ⟨ad563,e563,hx563_0,hx563_1⟩:=at_T140 HR0.out (ji10) p563 q563;obtain rfl:ad559=ad563:=(by injection e563);have hn563_0:ad559.block≠gb560:=Nat.ne_of_lt (Nat.lt_of_lt_of_le (by have:=World.block_lt_of_cell? _ _ hx563_0;first|rwa [add_block] at this|exact this) GW560.out);have hn563_1:ad559.block≠gb560:=Nat.ne_of_lt (Nat.lt_of_lt_of_le (by have:=World.block_lt_of_cell? _ _ hx563_0;first|rwa [add_block] at this|exact this) GW560.out);replace hx563_0:=hC HB hx563_0;replace hx563_1:=hC HB hx563_1;replace hx563_0:=(cell_far (p:=⟨gb560,0,none⟩) (by first|(rw [add_block];exact hn563_0)|(show (Addr.add _ _).block≠_;rw [add_block];exact hn563_0)|exact hn563_0) (.int .i64 ((rd_T140 l0 x7_1).f0))).trans hx563_0;replace hx563_1:=(cell_far (p:=⟨gb560,0,none⟩) (by first|(rw [add_block];exact hn563_0)|(show (Addr.add _ _).block≠_;rw [add_block];exact hn563_0)|exact hn563_0) (.int .i64 ((rd_T140 l0 x7_1).f0))).trans hx563_1;replace hx563_0:=(cell_far (p:=⟨gb560,1,none⟩) (by first|(rw [add_block];exact hn563_1)|(show (Addr.add _ _).block≠_;rw [add_block];exact hn563_1)|exact hn563_1) (.int .i64 ((rd_T140 l0 x7_1).f1))).trans hx563_0;replace hx563_1:=(cell_far (p:=⟨gb560,1,none⟩) (by first|(rw [add_block];exact hn563_1)|(show (Addr.add _ _).block≠_;rw [add_block];exact hn563_1)|exact hn563_1) (.int .i64 ((rd_T140 l0 x7_1).f1))).trans hx563_1;(try have hy563_0:=fun (n_:Nat)=>(show ((((w16.drewN n_).setCell ⟨gb560,0,none⟩ (.int .i64 ((rd_T140 l0 x7_1).f0))).setCell ⟨gb560,1,none⟩ (.int .i64 ((rd_T140 l0 x7_1).f1)))).cell? _=some _ from hx563_0));(try have hy563_1:=fun (n_:Nat)=>(show ((((w16.drewN n_).setCell ⟨gb560,0,none⟩ (.int .i64 ((rd_T140 l0 x7_1).f0))).setCell ⟨gb560,1,none⟩ (.int .i64 ((rd_T140 l0 x7_1).f1)))).cell? _=some _ from hx563_1));clear hn563_0;clear hn563_1;replace p563:=eq_true p563;replace q563:=eq_true q563)))
            go_roundg k1
            case measure=>have:=HK1.out;omega
            case rel=>exact ⟨(wrap64 (x7_1+1)),bZ,H',⟨by have:=HK1.out;omega⟩,⟨pS HB.out⟩⟩
          ·rw [if_neg c12] at H
           exact absurd H (by simp)
         ·rw [if_neg c11] at H
          exact absurd H (by simp)
        ·rw [if_neg c9] at H;have c9b0:decide (0<x7_1)=false:=decide_eq_false c9;clear c9;have H':=mA H;clear H;have p559:0≤(x7_1:Int):=of_decide_eq_true bA;have q559:x7_1<(l0.length:Int):=of_decide_eq_true bA;obtain ⟨ad559,e559,hx559_0,hx559_1⟩:=at_T140 HR0.out x7_1 p559 q559;cases e559;replace hx559_0:=hC HB hx559_0;replace hx559_1:=hC HB hx559_1;replace p559:=eq_true p559;replace q559:=eq_true q559
         go_wp2_with (first|((with_reducible refine gT 4 rfl ?_);refine bE 4 #[.int .i64 0,.int .i64 0] 140 ?_;intro gb560 hg w18 hbox hb;have BK560:=mA hbox;have GW560:=gbpB HB hg;have GE560:=gbpB HB hg;replace HB:=spB HB hb;clear hb hbox hg;obtain ⟨hcz19_0,hcz19_1,hfz19_0,hfz19_1⟩:=box2 BK560.out)|(go_at_call 74;(with_reducible refine (impl_in.calls A5.out).mono ?_);rintro e w' ⟨rfl,⟨nd,rfl⟩⟩;(try first|exact ⟨rfl,_,World.drewN_drewN _ _ _⟩|exact ⟨rfl,_,Eq.trans (World.drewN_drewN _ _ _) (congrArg (World.drewN _) (Nat.add_assoc _ _ _))⟩))|(go_at_call 74;(with_reducible refine (impl_in.calls A7.out).mono ?_);rintro e w' ⟨rfl,⟨nd,rfl⟩⟩;(try first|exact ⟨rfl,_,World.drewN_drewN _ _ _⟩|exact ⟨rfl,_,Eq.trans (World.drewN_drewN _ _ _) (congrArg (World.drewN _) (Nat.add_assoc _ _ _))⟩)))
         repeat (go_quiet (first|((with_reducible refine gT 4 rfl ?_);refine bE 4 #[.int .i64 0,.int .i64 0] 140 ?_;intro gb560 hg w18 hbox hb;have BK560:=mA hbox;have GW560:=gbpB HB hg;have GE560:=gbpB HB hg;replace HB:=spB HB hb;clear hb hbox hg;obtain ⟨hcz19_0,hcz19_1,hfz19_0,hfz19_1⟩:=box2 BK560.out)|(go_at_call 74;(with_reducible refine (impl_in.calls A5.out).mono ?_);rintro e w' ⟨rfl,⟨nd,rfl⟩⟩;(try first|exact ⟨rfl,_,World.drewN_drewN _ _ _⟩|exact ⟨rfl,_,Eq.trans (World.drewN_drewN _ _ _) (congrArg (World.drewN _) (Nat.add_assoc _ _ _))⟩))|(go_at_call 74;(with_reducible refine (impl_in.calls A7.out).mono ?_);rintro e w' ⟨rfl,⟨nd,rfl⟩⟩;(try first|exact ⟨rfl,_,World.drewN_drewN _ _ _⟩|exact ⟨rfl,_,Eq.trans (World.drewN_drewN _ _ _) (congrArg (World.drewN _) (Nat.add_assoc _ _ _))⟩)));try go_wp2_with (first|((with_reducible refine gT 4 rfl ?_);refine bE 4 #[.int .i64 0,.int .i64 0] 140 ?_;intro gb560 hg w18 hbox hb;have BK560:=mA hbox;have GW560:=gbpB HB hg;have GE560:=gbpB HB hg;replace HB:=spB HB hb;clear hb hbox hg;obtain ⟨hcz19_0,hcz19_1,hfz19_0,hfz19_1⟩:=box2 BK560.out)|(go_at_call 74;(with_reducible refine (impl_in.calls A5.out).mono ?_);rintro e w' ⟨rfl,⟨nd,rfl⟩⟩;(try first|exact ⟨rfl,_,World.drewN_drewN _ _ _⟩|exact ⟨rfl,_,Eq.trans (World.drewN_drewN _ _ _) (congrArg (World.drewN _) (Nat.add_assoc _ _ _))⟩))|(go_at_call 74;(with_reducible refine (impl_in.calls A7.out).mono ?_);rintro e w' ⟨rfl,⟨nd,rfl⟩⟩;(try first|exact ⟨rfl,_,World.drewN_drewN _ _ _⟩|exact ⟨rfl,_,Eq.trans (World.drewN_drewN _ _ _) (congrArg (World.drewN _) (Nat.add_assoc _ _ _))⟩))))
         go_roundg k1
         case measure=>have:=HK1.out;omega
         case rel=>exact ⟨(wrap64 (x7_1+1)),bZ,H',⟨by have:=HK1.out;omega⟩,⟨pS HB.out⟩⟩
       ·replace c8:=Bool.eq_false_iff.mpr c8;subst c8
        rw [if_neg nFT] at H
        obtain rfl:=Option.some.inj H;have p559:0≤(x7_1:Int):=of_decide_eq_true bA;have q559:x7_1<(l0.length:Int):=of_decide_eq_true bA;obtain ⟨ad559,e559,hx559_0,hx559_1⟩:=at_T140 HR0.out x7_1 p559 q559;cases e559;replace hx559_0:=hC HB hx559_0;replace hx559_1:=hC HB hx559_1;replace p559:=eq_true p559;replace q559:=eq_true q559
        go_wp2_with (first|((with_reducible refine gT 4 rfl ?_);refine bE 4 #[.int .i64 0,.int .i64 0] 140 ?_;intro gb560 hg w20 hbox hb;have BK560:=mA hbox;have GW560:=gbpB HB hg;have GE560:=gbpB HB hg;replace HB:=spB HB hb;clear hb hbox hg;obtain ⟨hcz21_0,hcz21_1,hfz21_0,hfz21_1⟩:=box2 BK560.out)|(go_at_call 74;(with_reducible refine (impl_in.calls A5.out).mono ?_);rintro e w' ⟨rfl,⟨nd,rfl⟩⟩;(try first|exact ⟨rfl,_,World.drewN_drewN _ _ _⟩|exact ⟨rfl,_,Eq.trans (World.drewN_drewN _ _ _) (congrArg (World.drewN _) (Nat.add_assoc _ _ _))⟩))|(go_at_call 74;(with_reducible refine (impl_in.calls A7.out).mono ?_);rintro e w' ⟨rfl,⟨nd,rfl⟩⟩;(try first|exact ⟨rfl,_,World.drewN_drewN _ _ _⟩|exact ⟨rfl,_,Eq.trans (World.drewN_drewN _ _ _) (congrArg (World.drewN _) (Nat.add_assoc _ _ _))⟩)))
        repeat (go_quiet (first|((with_reducible refine gT 4 rfl ?_);refine bE 4 #[.int .i64 0,.int .i64 0] 140 ?_;intro gb560 hg w20 hbox hb;have BK560:=mA hbox;have GW560:=gbpB HB hg;have GE560:=gbpB HB hg;replace HB:=spB HB hb;clear hb hbox hg;obtain ⟨hcz21_0,hcz21_1,hfz21_0,hfz21_1⟩:=box2 BK560.out)|(go_at_call 74;(with_reducible refine (impl_in.calls A5.out).mono ?_);rintro e w' ⟨rfl,⟨nd,rfl⟩⟩;(try first|exact ⟨rfl,_,World.drewN_drewN _ _ _⟩|exact ⟨rfl,_,Eq.trans (World.drewN_drewN _ _ _) (congrArg (World.drewN _) (Nat.add_assoc _ _ _))⟩))|(go_at_call 74;(with_reducible refine (impl_in.calls A7.out).mono ?_);rintro e w' ⟨rfl,⟨nd,rfl⟩⟩;(try first|exact ⟨rfl,_,World.drewN_drewN _ _ _⟩|exact ⟨rfl,_,Eq.trans (World.drewN_drewN _ _ _) (congrArg (World.drewN _) (Nat.add_assoc _ _ _))⟩)));try go_wp2_with (first|((with_reducible refine gT 4 rfl ?_);refine bE 4 #[.int .i64 0,.int .i64 0] 140 ?_;intro gb560 hg w20 hbox hb;have BK560:=mA hbox;have GW560:=gbpB HB hg;have GE560:=gbpB HB hg;replace HB:=spB HB hb;clear hb hbox hg;obtain ⟨hcz21_0,hcz21_1,hfz21_0,hfz21_1⟩:=box2 BK560.out)|(go_at_call 74;(with_reducible refine (impl_in.calls A5.out).mono ?_);rintro e w' ⟨rfl,⟨nd,rfl⟩⟩;(try first|exact ⟨rfl,_,World.drewN_drewN _ _ _⟩|exact ⟨rfl,_,Eq.trans (World.drewN_drewN _ _ _) (congrArg (World.drewN _) (Nat.add_assoc _ _ _))⟩))|(go_at_call 74;(with_reducible refine (impl_in.calls A7.out).mono ?_);rintro e w' ⟨rfl,⟨nd,rfl⟩⟩;(try first|exact ⟨rfl,_,World.drewN_drewN _ _ _⟩|exact ⟨rfl,_,Eq.trans (World.drewN_drewN _ _ _) (congrArg (World.drewN _) (Nat.add_assoc _ _ _))⟩))))
        go_ret
        exact rZ (pS HB.out)
      ·replace c6:=Bool.eq_false_iff.mpr c6;subst c6
       rw [if_neg nFT] at H
       obtain rfl:=Option.some.inj H;have p559:0≤(x7_1:Int):=of_decide_eq_true bA;have q559:x7_1<(l0.length:Int):=of_decide_eq_true bA;obtain ⟨ad559,e559,hx559_0,hx559_1⟩:=at_T140 HR0.out x7_1 p559 q559;cases e559;replace hx559_0:=hC HB hx559_0;replace hx559_1:=hC HB hx559_1;replace p559:=eq_true p559;replace q559:=eq_true q559
       go_wp2_with (first|((with_reducible refine gT 4 rfl ?_);refine bE 4 #[.int .i64 0,.int .i64 0] 140 ?_;intro gb560 hg w22 hbox hb;have BK560:=mA hbox;have GW560:=gbpB HB hg;have GE560:=gbpB HB hg;replace HB:=spB HB hb;clear hb hbox hg;obtain ⟨hcz23_0,hcz23_1,hfz23_0,hfz23_1⟩:=box2 BK560.out)|(go_at_call 74;(with_reducible refine (impl_in.calls A5.out).mono ?_);rintro e w' ⟨rfl,⟨nd,rfl⟩⟩;(try first|exact ⟨rfl,_,World.drewN_drewN _ _ _⟩|exact ⟨rfl,_,Eq.trans (World.drewN_drewN _ _ _) (congrArg (World.drewN _) (Nat.add_assoc _ _ _))⟩)))
       repeat (go_quiet (first|((with_reducible refine gT 4 rfl ?_);refine bE 4 #[.int .i64 0,.int .i64 0] 140 ?_;intro gb560 hg w22 hbox hb;have BK560:=mA hbox;have GW560:=gbpB HB hg;have GE560:=gbpB HB hg;replace HB:=spB HB hb;clear hb hbox hg;obtain ⟨hcz23_0,hcz23_1,hfz23_0,hfz23_1⟩:=box2 BK560.out)|(go_at_call 74;(with_reducible refine (impl_in.calls A5.out).mono ?_);rintro e w' ⟨rfl,⟨nd,rfl⟩⟩;(try first|exact ⟨rfl,_,World.drewN_drewN _ _ _⟩|exact ⟨rfl,_,Eq.trans (World.drewN_drewN _ _ _) (congrArg (World.drewN _) (Nat.add_assoc _ _ _))⟩)));try go_wp2_with (first|((with_reducible refine gT 4 rfl ?_);refine bE 4 #[.int .i64 0,.int .i64 0] 140 ?_;intro gb560 hg w22 hbox hb;have BK560:=mA hbox;have GW560:=gbpB HB hg;have GE560:=gbpB HB hg;replace HB:=spB HB hb;clear hb hbox hg;obtain ⟨hcz23_0,hcz23_1,hfz23_0,hfz23_1⟩:=box2 BK560.out)|(go_at_call 74;(with_reducible refine (impl_in.calls A5.out).mono ?_);rintro e w' ⟨rfl,⟨nd,rfl⟩⟩;(try first|exact ⟨rfl,_,World.drewN_drewN _ _ _⟩|exact ⟨rfl,_,Eq.trans (World.drewN_drewN _ _ _) (congrArg (World.drewN _) (Nat.add_assoc _ _ _))⟩))))
       go_ret
       exact rZ (pS HB.out)
     ·rw [if_neg c4] at H
      exact absurd H (by simp)
    ·rw [if_neg c3] at H
     exact absurd H (by simp)
   ·rw [if_neg c2] at H;have c2b0:decide (x7_1<(l0.length:Int))=false:=decide_eq_false c2;clear c2;obtain rfl:=Option.some.inj H
    go_wp2
    repeat (go_quiet (fail);try go_wp2)
    go_ret
    exact rZ (pB HB.out)

/-! ### impl_WordOk: function 19 -/
def impl_WordOk.f (k : Nat) (a0_0 : Int) (a0_1 : Int) (a0_2 : Int) (a0_3 : Int) (a0_4 : Int) (a0_5 : Int) (a0_6 : Int) (a0_7 : Int) (a0_8 : Int) (a0_9 : Int) (a0_10 : Int) (a0_11 : Int) (a0_12 : Int) (a0_13 : Int) (a0_14 : Int) (a0_15 : Int) (a0_16 : Int) (a0_17 : Int) (a0_18 : Int) (a0_19 : Int) (a0_20 : Int) (a0_21 : Int) (a0_22 : Int) (a0_23 : Int) (l0_24 : List (S138)) (l0_25 : List (S140)) : Option (Bool) := (impl_in.f a0_0 1 15).bind fun t565 => (if t565 = true then ((impl_isPlace.f a0_1).bind fun t566 => (if t566 = true then ((impl_isPlace.f a0_2).bind fun t567 => (if t567 = true then ((impl_cmdOk.f k a0_6 a0_7 a0_8 a0_9 a0_10 a0_11 a0_12 a0_13 a0_14 a0_15).bind fun t568 => (if t568 = true then ((impl_BlkOk.f k l0_24).bind fun t569 => (if t569 = true then ((impl_lastOk.f k l0_25).bind fun t570 => (if t570 = true then ((impl_wordNumbers.f k a0_0 a0_1 a0_2 a0_3 a0_4 a0_5 a0_6 a0_7 a0_8 a0_9 a0_10 a0_11 a0_12 a0_13 a0_14 a0_15 a0_16 a0_17 a0_18 a0_19 a0_20 a0_21 a0_22 a0_23 l0_24 l0_25).bind fun t571 => ((impl_numbersOk.f k t571).bind fun t574 => (some t574))) else (some false))) else (some false))) else (some false))) else (some false))) else (some false))) else (some false))
theorem impl_WordOk.mono : ∀ a0 a1 a2 a3 a4 a5 a6 a7 a8 a9 a10 a11 a12 a13 a14 a15 a16 a17 a18 a19 a20 a21 a22 a23 a24 a25 k, LeO (impl_WordOk.f k a0 a1 a2 a3 a4 a5 a6 a7 a8 a9 a10 a11 a12 a13 a14 a15 a16 a17 a18 a19 a20 a21 a22 a23 a24 a25) (impl_WordOk.f (k + 1) a0 a1 a2 a3 a4 a5 a6 a7 a8 a9 a10 a11 a12 a13 a14 a15 a16 a17 a18 a19 a20 a21 a22 a23 a24 a25) := by
 intro a0 a1 a2 a3 a4 a5 a6 a7 a8 a9 a10 a11 a12 a13 a14 a15 a16 a17 a18 a19 a20 a21 a22 a23 a24 a25 k
 unfold impl_WordOk.f
 repeat' first
   | (with_reducible first|apply impl_BlkOk.mono|apply impl_cmdOk.mono|apply impl_lastOk.mono|apply impl_numbersOk.mono|apply impl_wordNumbers.mono|exact LeO.refl _|exact LeO.none _|refine LeO.ite ?_ ?_|refine LeO.bind ?_ (fun _=>?_))|exact LeO.none _|refine LeO.ite ?_ ?_|refine LeO.bind ?_ (fun _=>?_)
set_option maxHeartbeats 8000000 in
set_option maxRecDepth 100000 in
theorem impl_WordOk.calls {k : Nat} {a0_0 : Int} {a0_1 : Int} {a0_2 : Int} {a0_3 : Int} {a0_4 : Int} {a0_5 : Int} {a0_6 : Int} {a0_7 : Int} {a0_8 : Int} {a0_9 : Int} {a0_10 : Int} {a0_11 : Int} {a0_12 : Int} {a0_13 : Int} {a0_14 : Int} {a0_15 : Int} {a0_16 : Int} {a0_17 : Int} {a0_18 : Int} {a0_19 : Int} {a0_20 : Int} {a0_21 : Int} {a0_22 : Int} {a0_23 : Int} {A0_24 : Option Addr} {c0_24 : Nat} {l0_24 : List (S138)} {A0_25 : Option Addr} {c0_25 : Nat} {l0_25 : List (S140)} {r : Bool} {w : World} (hr0_24 : Kd.C k138 w A0_24 l0_24.length l0_24) (hc0_24 : l0_24.length ≤ c0_24) (hr0_25 : Kd.C k140 w A0_25 l0_25.length l0_25) (hc0_25 : l0_25.length ≤ c0_25) (h : impl_WordOk.f k a0_0 a0_1 a0_2 a0_3 a0_4 a0_5 a0_6 a0_7 a0_8 a0_9 a0_10 a0_11 a0_12 a0_13 a0_14 a0_15 a0_16 a0_17 a0_18 a0_19 a0_20 a0_21 a0_22 a0_23 l0_24 l0_25 = some r) :
  Calls Try.prog 19 #[.agg #[.int .i64 a0_0,.int .i64 a0_1,.int .i64 a0_2,.int .i64 a0_3,.int .i64 a0_4,.int .i64 a0_5,.int .i64 a0_6,.int .i64 a0_7,.int .i64 a0_8,.int .i64 a0_9,.int .i64 a0_10,.int .i64 a0_11,.int .i64 a0_12,.int .i64 a0_13,.int .i64 a0_14,.int .i64 a0_15,.int .i64 a0_16,.int .i64 a0_17,.int .i64 a0_18,.int .i64 a0_19,.int .i64 a0_20,.int .i64 a0_21,.int .i64 a0_22,.int .i64 a0_23,.slice A0_24 l0_24.length c0_24,.slice A0_25 l0_25.length c0_25]] w fun e w'=>e=.returned (.bool r)∧Below w.heap.size w w':=by
 have hu28:=Try.underlying28;have hu24:=Try.underlying24;have HR0_24:=mA hr0_24;have HC0_24:=mA hc0_24;clear hr0_24 hc0_24;have HR0_25:=mA hr0_25;have HC0_25:=mA hc0_25;clear hr0_25 hc0_25;have HB:=mA (Below.refl w.heap.size w);have H:((impl_in.f a0_0 1 15).bind fun t565=>(if t565=true then ((impl_isPlace.f a0_1).bind fun t566=>(if t566=true then ((impl_isPlace.f a0_2).bind fun t567=>(if t567=true then ((impl_cmdOk.f k a0_6 a0_7 a0_8 a0_9 a0_10 a0_11 a0_12 a0_13 a0_14 a0_15).bind fun t568=>(if t568=true then ((impl_BlkOk.f k l0_24).bind fun t569=>(if t569=true then ((impl_lastOk.f k l0_25).bind fun t570=>(if t570=true then ((impl_wordNumbers.f k a0_0 a0_1 a0_2 a0_3 a0_4 a0_5 a0_6 a0_7 a0_8 a0_9 a0_10 a0_11 a0_12 a0_13 a0_14 a0_15 a0_16 a0_17 a0_18 a0_19 a0_20 a0_21 a0_22 a0_23 l0_24 l0_25).bind fun t571=>((impl_numbersOk.f k t571).bind fun t574=>(some t574))) else (some false))) else (some false))) else (some false))) else (some false))) else (some false))) else (some false)))=some r:=h;clear h;obtain ⟨t565,A2,H⟩:=bI H;(try dsimp only at H)
 by_cases c3:t565=true
 ·subst c3;rw [if_pos rfl] at H;obtain ⟨t566,A4,H⟩:=bI H;(try dsimp only at H)
  by_cases c5:t566=true
  ·subst c5;rw [if_pos rfl] at H;obtain ⟨t567,A6,H⟩:=bI H;(try dsimp only at H)
   by_cases c7:t567=true
   ·subst c7;rw [if_pos rfl] at H;obtain ⟨t568,A8,H⟩:=bI H;(try dsimp only at H)
    by_cases c9:t568=true
    ·subst c9;rw [if_pos rfl] at H;obtain ⟨t569,A10,H⟩:=bI H;(try dsimp only at H)
     by_cases c11:t569=true
     ·subst c11;rw [if_pos rfl] at H;obtain ⟨t570,A12,H⟩:=bI H;(try dsimp only at H)
      by_cases c13:t570=true
      ·subst c13;rw [if_pos rfl] at H;obtain ⟨t571,A14,H⟩:=bI H;(try dsimp only at H);obtain ⟨t574,A15,H⟩:=bI H;(try dsimp only at H);obtain rfl:=Option.some.inj H
       go_enter Try.func19,Try.ntmps19
       go_wp2_with (first|((with_reducible refine gLg rfl (by assumption) ?_);refine ldV ?_)|((with_reducible refine gSt rfl (by assumption) ?_);refine stV ?_)|((with_reducible refine gT 1 rfl ?_);refine bE 1 #[.int .i64 a0_0,.int .i64 a0_1,.int .i64 a0_2,.int .i64 a0_3,.int .i64 a0_4,.int .i64 a0_5,.int .i64 a0_6,.int .i64 a0_7,.int .i64 a0_8,.int .i64 a0_9,.int .i64 a0_10,.int .i64 a0_11,.int .i64 a0_12,.int .i64 a0_13,.int .i64 a0_14,.int .i64 a0_15,.int .i64 a0_16,.int .i64 a0_17,.int .i64 a0_18,.int .i64 a0_19,.int .i64 a0_20,.int .i64 a0_21,.int .i64 a0_22,.int .i64 a0_23,.slice A0_24 l0_24.length c0_24,.slice A0_25 l0_25.length c0_25] 28 ?_;intro gb564 hg w16 hbox hb;have BK564:=mA hbox;have GW564:=gbpB HB hg;have GE564:=gbpB HB hg;replace HB:=spB HB hb;clear hb hbox hg;have hcz17_0:=fun i_=>blk_cell BK564.out i_;have hfz17_0:=fun i_=>blk_frozen BK564.out i_)|((with_reducible refine gT 5 rfl ?_);refine gC (some 5) Try.func74 (impl_in.calls A2.out) ?_;rintro e w' ⟨rfl,⟨nd,rfl⟩⟩;refine ⟨_,rfl,?_⟩)|(go_at_call 75;(with_reducible refine (impl_isPlace.calls A4.out).mono ?_);rintro e w' ⟨rfl,⟨nd,rfl⟩⟩)|(go_at_call 75;(with_reducible refine (impl_isPlace.calls A6.out).mono ?_);rintro e w' ⟨rfl,⟨nd,rfl⟩⟩)|(go_at_call 76;(with_reducible refine (impl_cmdOk.calls A8.out).mono ?_);rintro e w18 ⟨rfl,hb⟩;replace BK564:=bK BK564 hb;replace HB:=spS HB hb;(try clear hb);have hcz19_0:=fun i_=>blk_cell BK564.out i_;have hfz19_0:=fun i_=>blk_frozen BK564.out i_)|(go_at_call 77;(with_reducible refine (impl_BlkOk.calls ?s1 ?s2 A10.out).mono ?_);(case s1=>exact cB HR0_24 HB);(case s2=>exact HC0_24.out);rintro e w20 ⟨rfl,hb⟩;replace BK564:=bK BK564 hb;replace HB:=spS HB hb;(try clear hb);have hcz21_0:=fun i_=>blk_cell BK564.out i_;have hfz21_0:=fun i_=>blk_frozen BK564.out i_)|(go_at_call 78;(with_reducible refine (impl_lastOk.calls ?s1 ?s2 A12.out).mono ?_);(case s1=>exact cB HR0_25 HB);(case s2=>exact HC0_25.out);rintro e w22 ⟨rfl,hb⟩;replace BK564:=bK BK564 hb;replace HB:=spS HB hb;(try clear hb);have hcz23_0:=fun i_=>blk_cell BK564.out i_;have hfz23_0:=fun i_=>blk_frozen BK564.out i_)|(go_at_call 62;(with_reducible refine (impl_wordNumbers.calls ?s1 ?s2 ?s3 ?s4 A14.out).mono ?_);(case s1=>exact cB HR0_24 HB);(case s2=>exact HC0_24.out);(case s3=>exact cB HR0_25 HB);(case s4=>exact HC0_25.out);rintro e w24 ⟨v572,rfl,ho0,hb⟩;have HO573:=mA (Kd.R_lower ho0 (bpS HB));replace BK564:=bK BK564 hb;replace HB:=spS HB hb;(try clear hb);(try clear ho0);obtain ⟨Ao25,co25,rfl⟩:=Kd.R_slice HO573.out)|(go_at_call 79;(with_reducible refine (impl_numbersOk.calls ?s1 ?s2 A15.out).mono ?_);(case s1=>exact cR HO573);(case s2=>exact cL HO573);rintro e w' ⟨rfl,⟨nd,rfl⟩⟩))
       go_ret
       exact rZ (pS HB.out)
      ·replace c13:=Bool.eq_false_iff.mpr c13;subst c13
       rw [if_neg nFT] at H
       obtain rfl:=Option.some.inj H
       go_enter Try.func19,Try.ntmps19
       go_wp2_with (first|((with_reducible refine gLg rfl (by assumption) ?_);refine ldV ?_)|((with_reducible refine gSt rfl (by assumption) ?_);refine stV ?_)|((with_reducible refine gT 1 rfl ?_);refine bE 1 #[.int .i64 a0_0,.int .i64 a0_1,.int .i64 a0_2,.int .i64 a0_3,.int .i64 a0_4,.int .i64 a0_5,.int .i64 a0_6,.int .i64 a0_7,.int .i64 a0_8,.int .i64 a0_9,.int .i64 a0_10,.int .i64 a0_11,.int .i64 a0_12,.int .i64 a0_13,.int .i64 a0_14,.int .i64 a0_15,.int .i64 a0_16,.int .i64 a0_17,.int .i64 a0_18,.int .i64 a0_19,.int .i64 a0_20,.int .i64 a0_21,.int .i64 a0_22,.int .i64 a0_23,.slice A0_24 l0_24.length c0_24,.slice A0_25 l0_25.length c0_25] 28 ?_;intro gb564 hg w26 hbox hb;have BK564:=mA hbox;have GW564:=gbpB HB hg;have GE564:=gbpB HB hg;replace HB:=spB HB hb;clear hb hbox hg;have hcz27_0:=fun i_=>blk_cell BK564.out i_;have hfz27_0:=fun i_=>blk_frozen BK564.out i_)|((with_reducible refine gT 5 rfl ?_);refine gC (some 5) Try.func74 (impl_in.calls A2.out) ?_;rintro e w' ⟨rfl,⟨nd,rfl⟩⟩;refine ⟨_,rfl,?_⟩)|(go_at_call 75;(with_reducible refine (impl_isPlace.calls A4.out).mono ?_);rintro e w' ⟨rfl,⟨nd,rfl⟩⟩)|(go_at_call 75;(with_reducible refine (impl_isPlace.calls A6.out).mono ?_);rintro e w' ⟨rfl,⟨nd,rfl⟩⟩)|(go_at_call 76;(with_reducible refine (impl_cmdOk.calls A8.out).mono ?_);rintro e w28 ⟨rfl,hb⟩;replace BK564:=bK BK564 hb;replace HB:=spS HB hb;(try clear hb);have hcz29_0:=fun i_=>blk_cell BK564.out i_;have hfz29_0:=fun i_=>blk_frozen BK564.out i_)|(go_at_call 77;(with_reducible refine (impl_BlkOk.calls ?s1 ?s2 A10.out).mono ?_);(case s1=>exact cB HR0_24 HB);(case s2=>exact HC0_24.out);rintro e w30 ⟨rfl,hb⟩;replace BK564:=bK BK564 hb;replace HB:=spS HB hb;(try clear hb);have hcz31_0:=fun i_=>blk_cell BK564.out i_;have hfz31_0:=fun i_=>blk_frozen BK564.out i_)|(go_at_call 78;(with_reducible refine (impl_lastOk.calls ?s1 ?s2 A12.out).mono ?_);(case s1=>exact cB HR0_25 HB);(case s2=>exact HC0_25.out);rintro e w32 ⟨rfl,hb⟩;replace BK564:=bK BK564 hb;replace HB:=spS HB hb;(try clear hb)))
       go_ret
       exact rZ (pS HB.out)
     ·replace c11:=Bool.eq_false_iff.mpr c11;subst c11
      rw [if_neg nFT] at H
      obtain rfl:=Option.some.inj H
      go_enter Try.func19,Try.ntmps19
      go_wp2_with (first|((with_reducible refine gLg rfl (by assumption) ?_);refine ldV ?_)|((with_reducible refine gSt rfl (by assumption) ?_);refine stV ?_)|((with_reducible refine gT 1 rfl ?_);refine bE 1 #[.int .i64 a0_0,.int .i64 a0_1,.int .i64 a0_2,.int .i64 a0_3,.int .i64 a0_4,.int .i64 a0_5,.int .i64 a0_6,.int .i64 a0_7,.int .i64 a0_8,.int .i64 a0_9,.int .i64 a0_10,.int .i64 a0_11,.int .i64 a0_12,.int .i64 a0_13,.int .i64 a0_14,.int .i64 a0_15,.int .i64 a0_16,.int .i64 a0_17,.int .i64 a0_18,.int .i64 a0_19,.int .i64 a0_20,.int .i64 a0_21,.int .i64 a0_22,.int .i64 a0_23,.slice A0_24 l0_24.length c0_24,.slice A0_25 l0_25.length c0_25] 28 ?_;intro gb564 hg w33 hbox hb;have BK564:=mA hbox;have GW564:=gbpB HB hg;have GE564:=gbpB HB hg;replace HB:=spB HB hb;clear hb hbox hg;have hcz34_0:=fun i_=>blk_cell BK564.out i_;have hfz34_0:=fun i_=>blk_frozen BK564.out i_)|((with_reducible refine gT 5 rfl ?_);refine gC (some 5) Try.func74 (impl_in.calls A2.out) ?_;rintro e w' ⟨rfl,⟨nd,rfl⟩⟩;refine ⟨_,rfl,?_⟩)|(go_at_call 75;(with_reducible refine (impl_isPlace.calls A4.out).mono ?_);rintro e w' ⟨rfl,⟨nd,rfl⟩⟩)|(go_at_call 75;(with_reducible refine (impl_isPlace.calls A6.out).mono ?_);rintro e w' ⟨rfl,⟨nd,rfl⟩⟩)|(go_at_call 76;(with_reducible refine (impl_cmdOk.calls A8.out).mono ?_);rintro e w35 ⟨rfl,hb⟩;replace BK564:=bK BK564 hb;replace HB:=spS HB hb;(try clear hb);have hcz36_0:=fun i_=>blk_cell BK564.out i_;have hfz36_0:=fun i_=>blk_frozen BK564.out i_)|(go_at_call 77;(with_reducible refine (impl_BlkOk.calls ?s1 ?s2 A10.out).mono ?_);(case s1=>exact cB HR0_24 HB);(case s2=>exact HC0_24.out);rintro e w37 ⟨rfl,hb⟩;replace BK564:=bK BK564 hb;replace HB:=spS HB hb;(try clear hb)))
      go_ret
      exact rZ (pS HB.out)
    ·replace c9:=Bool.eq_false_iff.mpr c9;subst c9
     rw [if_neg nFT] at H
     obtain rfl:=Option.some.inj H
     go_enter Try.func19,Try.ntmps19
     go_wp2_with (first|((with_reducible refine gLg rfl (by assumption) ?_);refine ldV ?_)|((with_reducible refine gSt rfl (by assumption) ?_);refine stV ?_)|((with_reducible refine gT 1 rfl ?_);refine bE 1 #[.int .i64 a0_0,.int .i64 a0_1,.int .i64 a0_2,.int .i64 a0_3,.int .i64 a0_4,.int .i64 a0_5,.int .i64 a0_6,.int .i64 a0_7,.int .i64 a0_8,.int .i64 a0_9,.int .i64 a0_10,.int .i64 a0_11,.int .i64 a0_12,.int .i64 a0_13,.int .i64 a0_14,.int .i64 a0_15,.int .i64 a0_16,.int .i64 a0_17,.int .i64 a0_18,.int .i64 a0_19,.int .i64 a0_20,.int .i64 a0_21,.int .i64 a0_22,.int .i64 a0_23,.slice A0_24 l0_24.length c0_24,.slice A0_25 l0_25.length c0_25] 28 ?_;intro gb564 hg w38 hbox hb;have BK564:=mA hbox;have GW564:=gbpB HB hg;have GE564:=gbpB HB hg;replace HB:=spB HB hb;clear hb hbox hg;have hcz39_0:=fun i_=>blk_cell BK564.out i_;have hfz39_0:=fun i_=>blk_frozen BK564.out i_)|((with_reducible refine gT 5 rfl ?_);refine gC (some 5) Try.func74 (impl_in.calls A2.out) ?_;rintro e w' ⟨rfl,⟨nd,rfl⟩⟩;refine ⟨_,rfl,?_⟩)|(go_at_call 75;(with_reducible refine (impl_isPlace.calls A4.out).mono ?_);rintro e w' ⟨rfl,⟨nd,rfl⟩⟩)|(go_at_call 75;(with_reducible refine (impl_isPlace.calls A6.out).mono ?_);rintro e w' ⟨rfl,⟨nd,rfl⟩⟩)|(go_at_call 76;(with_reducible refine (impl_cmdOk.calls A8.out).mono ?_);rintro e w40 ⟨rfl,hb⟩;replace BK564:=bK BK564 hb;replace HB:=spS HB hb;(try clear hb)))
     go_ret
     exact rZ (pS HB.out)
   ·replace c7:=Bool.eq_false_iff.mpr c7;subst c7
    rw [if_neg nFT] at H
    obtain rfl:=Option.some.inj H
    go_enter Try.func19,Try.ntmps19
    go_wp2_with (first|((with_reducible refine gLg rfl (by assumption) ?_);refine ldV ?_)|((with_reducible refine gSt rfl (by assumption) ?_);refine stV ?_)|((with_reducible refine gT 1 rfl ?_);refine bE 1 #[.int .i64 a0_0,.int .i64 a0_1,.int .i64 a0_2,.int .i64 a0_3,.int .i64 a0_4,.int .i64 a0_5,.int .i64 a0_6,.int .i64 a0_7,.int .i64 a0_8,.int .i64 a0_9,.int .i64 a0_10,.int .i64 a0_11,.int .i64 a0_12,.int .i64 a0_13,.int .i64 a0_14,.int .i64 a0_15,.int .i64 a0_16,.int .i64 a0_17,.int .i64 a0_18,.int .i64 a0_19,.int .i64 a0_20,.int .i64 a0_21,.int .i64 a0_22,.int .i64 a0_23,.slice A0_24 l0_24.length c0_24,.slice A0_25 l0_25.length c0_25] 28 ?_;intro gb564 hg w41 hbox hb;have BK564:=mA hbox;have GW564:=gbpB HB hg;have GE564:=gbpB HB hg;replace HB:=spB HB hb;clear hb hbox hg;have hcz42_0:=fun i_=>blk_cell BK564.out i_;have hfz42_0:=fun i_=>blk_frozen BK564.out i_)|((with_reducible refine gT 5 rfl ?_);refine gC (some 5) Try.func74 (impl_in.calls A2.out) ?_;rintro e w' ⟨rfl,⟨nd,rfl⟩⟩;refine ⟨_,rfl,?_⟩)|(go_at_call 75;(with_reducible refine (impl_isPlace.calls A4.out).mono ?_);rintro e w' ⟨rfl,⟨nd,rfl⟩⟩)|(go_at_call 75;(with_reducible refine (impl_isPlace.calls A6.out).mono ?_);rintro e w' ⟨rfl,⟨nd,rfl⟩⟩))
    go_ret
    exact rZ (pS HB.out)
  ·replace c5:=Bool.eq_false_iff.mpr c5;subst c5
   rw [if_neg nFT] at H
   obtain rfl:=Option.some.inj H
   go_enter Try.func19,Try.ntmps19
   go_wp2_with (first|((with_reducible refine gLg rfl (by assumption) ?_);refine ldV ?_)|((with_reducible refine gSt rfl (by assumption) ?_);refine stV ?_)|((with_reducible refine gT 1 rfl ?_);refine bE 1 #[.int .i64 a0_0,.int .i64 a0_1,.int .i64 a0_2,.int .i64 a0_3,.int .i64 a0_4,.int .i64 a0_5,.int .i64 a0_6,.int .i64 a0_7,.int .i64 a0_8,.int .i64 a0_9,.int .i64 a0_10,.int .i64 a0_11,.int .i64 a0_12,.int .i64 a0_13,.int .i64 a0_14,.int .i64 a0_15,.int .i64 a0_16,.int .i64 a0_17,.int .i64 a0_18,.int .i64 a0_19,.int .i64 a0_20,.int .i64 a0_21,.int .i64 a0_22,.int .i64 a0_23,.slice A0_24 l0_24.length c0_24,.slice A0_25 l0_25.length c0_25] 28 ?_;intro gb564 hg w43 hbox hb;have BK564:=mA hbox;have GW564:=gbpB HB hg;have GE564:=gbpB HB hg;replace HB:=spB HB hb;clear hb hbox hg;have hcz44_0:=fun i_=>blk_cell BK564.out i_;have hfz44_0:=fun i_=>blk_frozen BK564.out i_)|((with_reducible refine gT 5 rfl ?_);refine gC (some 5) Try.func74 (impl_in.calls A2.out) ?_;rintro e w' ⟨rfl,⟨nd,rfl⟩⟩;refine ⟨_,rfl,?_⟩)|(go_at_call 75;(with_reducible refine (impl_isPlace.calls A4.out).mono ?_);rintro e w' ⟨rfl,⟨nd,rfl⟩⟩))
   go_ret
   exact rZ (pS HB.out)
 ·replace c3:=Bool.eq_false_iff.mpr c3;subst c3
  rw [if_neg nFT] at H
  obtain rfl:=Option.some.inj H
  go_enter Try.func19,Try.ntmps19
  go_wp2_with (first|((with_reducible refine gLg rfl (by assumption) ?_);refine ldV ?_)|((with_reducible refine gSt rfl (by assumption) ?_);refine stV ?_)|((with_reducible refine gT 1 rfl ?_);refine bE 1 #[.int .i64 a0_0,.int .i64 a0_1,.int .i64 a0_2,.int .i64 a0_3,.int .i64 a0_4,.int .i64 a0_5,.int .i64 a0_6,.int .i64 a0_7,.int .i64 a0_8,.int .i64 a0_9,.int .i64 a0_10,.int .i64 a0_11,.int .i64 a0_12,.int .i64 a0_13,.int .i64 a0_14,.int .i64 a0_15,.int .i64 a0_16,.int .i64 a0_17,.int .i64 a0_18,.int .i64 a0_19,.int .i64 a0_20,.int .i64 a0_21,.int .i64 a0_22,.int .i64 a0_23,.slice A0_24 l0_24.length c0_24,.slice A0_25 l0_25.length c0_25] 28 ?_;intro gb564 hg w45 hbox hb;have BK564:=mA hbox;have GW564:=gbpB HB hg;have GE564:=gbpB HB hg;replace HB:=spB HB hb;clear hb hbox hg;have hcz46_0:=fun i_=>blk_cell BK564.out i_;have hfz46_0:=fun i_=>blk_frozen BK564.out i_)|((with_reducible refine gT 5 rfl ?_);refine gC (some 5) Try.func74 (impl_in.calls A2.out) ?_;rintro e w' ⟨rfl,⟨nd,rfl⟩⟩;refine ⟨_,rfl,?_⟩))
  go_ret
  exact rZ (pS HB.out)

end Go.Proofs.Ytoieojmfkkidnaa.P
