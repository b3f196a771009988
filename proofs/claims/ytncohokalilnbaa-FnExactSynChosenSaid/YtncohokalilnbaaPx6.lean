-- printed by pprint.py (this session's program over the kit's printer) out of the translation. Lean checks it.
import Derived.Test.YtncohokalilnbaaPx0
import Derived.Test.YtncohokalilnbaaPx1
import Derived.Test.YtncohokalilnbaaPx2
import Derived.Test.YtncohokalilnbaaPx5
namespace Go.Proofs.Ytncohokalilnbaa.P
open Go.RowKit Go.Proofs.YtncohokalilnbaaX Go.Proofs.YtncohokalilnbaaW.PrintWords Go.Proofs.YtncohokalilnbaaW.PrintLast Go.Proofs.YtncohokalilnbaaW.PrintMore
attribute [local go_sem] max2_int min2_int max_two min_two max_three min_three max_four min_four   -- for this text's walks alone
set_option linter.unusedVariables false
set_option linter.unusedSimpArgs false

attribute [local go_sem high] eqA44 eqA53
/-! ### spec_SynVoterOk: function 54 -/
mutual
def spec_SynVoterOk.j0 : Nat → Bool → Int → List (S53) → Option (Bool)
 | 0,_,_,_=>none
 | k+1,x13,x186000,x186001=>if x13=true then (some false) else (spec_SynVoterOk.l0 k 0 x186000 x186001)
def spec_SynVoterOk.l0 : Nat → Int → Int → List (S53) → Option (Bool)
 | 0,_,_,_=>none
 | k+1,x3,x186000,x186001=>if x3<(x186001.length:Int) then (if 0≤x3 then ((spec_l21PaperOk.f ((rd_T53 x186001 x3).f0) ((rd_T53 x186001 x3).f1) ((rd_T53 x186001 x3).f2.f0) ((rd_T53 x186001 x3).f2.f1) ((rd_T53 x186001 x3).f2.f2) ((rd_T53 x186001 x3).f2.f3) ((rd_T53 x186001 x3).f2.f4) ((rd_T53 x186001 x3).f2.f5) ((rd_T53 x186001 x3).f2.f6) ((rd_T53 x186001 x3).f2.f7) ((rd_T53 x186001 x3).f2.f8) ((rd_T53 x186001 x3).f2.f9)).bind fun t188=>(if t188=true then (if ((rd_T53 x186001 x3).f1) > x186000 then (some false) else (if x3 > 0 then (if 0≤(wrap64 (x3 - 1)) then (if (wrap64 (x3 - 1))<(x186001.length:Int) then (if ((rd_T53 x186001 (wrap64 (x3 - 1))).f0) ≥ ((rd_T53 x186001 x3).f0) then (some false) else (spec_SynVoterOk.l0 k (wrap64 (x3+1)) x186000 x186001)) else (none)) else (none)) else (spec_SynVoterOk.l0 k (wrap64 (x3+1)) x186000 x186001))) else (some false))) else (none)) else (some true)
end
def spec_SynVoterOk.f (k : Nat) (a0_0 : Int) (l0_1 : List (S53)) : Option (Bool) := (spec_l6In.f a0_0 0 99999).bind fun t186 => (if t186 = true then (spec_SynVoterOk.j0 k (decide ((l0_1.length : Int) > 60)) a0_0 l0_1) else (spec_SynVoterOk.j0 k true a0_0 l0_1))
theorem spec_SynVoterOk.mono_l : ∀ k, (∀ y0 y1 y2, LeO (spec_SynVoterOk.j0 k y0 y1 y2) (spec_SynVoterOk.j0 (k + 1) y0 y1 y2)) ∧ (∀ y0 y1 y2, LeO (spec_SynVoterOk.l0 k y0 y1 y2) (spec_SynVoterOk.l0 (k + 1) y0 y1 y2))
 | 0=>⟨fun _ _ _ r h=>by simp [spec_SynVoterOk.j0] at h,fun _ _ _ r h=>by simp [spec_SynVoterOk.l0] at h⟩
 | k+1=>by
  obtain ⟨ih0,ih1⟩:=spec_SynVoterOk.mono_l k;refine ⟨?_,?_⟩
  ·intros
   unfold spec_SynVoterOk.j0
   repeat' first
   | (with_reducible first|apply ih0|apply ih1|exact LeO.refl _|exact LeO.none _|refine LeO.ite ?_ ?_|refine LeO.bind ?_ (fun _=>?_))|exact LeO.none _|refine LeO.ite ?_ ?_|refine LeO.bind ?_ (fun _=>?_)
  ·intros
   unfold spec_SynVoterOk.l0
   repeat' first
   | (with_reducible first|apply ih0|apply ih1|exact LeO.refl _|exact LeO.none _|refine LeO.ite ?_ ?_|refine LeO.bind ?_ (fun _=>?_))|exact LeO.none _|refine LeO.ite ?_ ?_|refine LeO.bind ?_ (fun _=>?_)
theorem spec_SynVoterOk.mono : ∀ a0 a1 k, LeO (spec_SynVoterOk.f k a0 a1) (spec_SynVoterOk.f (k + 1) a0 a1) := by
 intro a0 a1 k;obtain ⟨ih0,ih1⟩:=spec_SynVoterOk.mono_l k
 unfold spec_SynVoterOk.f
 repeat' first
   | (with_reducible first|apply ih0|apply ih1|exact LeO.refl _|exact LeO.none _|refine LeO.ite ?_ ?_|refine LeO.bind ?_ (fun _=>?_))|exact LeO.none _|refine LeO.ite ?_ ?_|refine LeO.bind ?_ (fun _=>?_)
def spec_SynVoterOk.T6 : Bool × List (List Nat × List Nat) := (true, [([], []), ([0], [0]), ([], []), ([1, 2], [1, 2]), ([3], [3]), ([4], [4]), ([5], [5]), ([6, 5], [6]), ([7], [7]), ([8, 7], [7, 8]), ([7], [7]), ([9, 10, 7], [7, 9, 10]), ([11, 7], [7, 11]), ([12, 7], [7, 12]), ([7], [7]), ([14, 7], [7, 14]), ([13, 15, 7], [7, 13, 15]), ([7, 16], [7, 16]), ([17, 7], [17]), ([18], [18]), ([19, 18], [18, 19]), ([20, 18, 18], [18, 20]), ([21], [21]), ([22, 21], [21, 22]), ([21], [21]), ([24, 21], [21, 24]), ([23, 25, 21], [21, 23, 25]), ([26, 21], [21, 26]), ([27, 21], [21, 27]), ([21], [21]), ([29, 21], [21, 29]), ([21], [21]), ([30, 31, 21], [21, 30, 31]), ([32, 21], [21, 32]), ([33, 21], [21, 33]), ([28, 34, 21], [21, 28, 34]), ([21, 35, 18], [18, 21, 35]), ([18, 36], [18, 36])])
def spec_SynVoterOk.B6 : List Nat := [0, 1, 0, 7, 15, 31, 63, 127, 255, 511, 255, 2047, 4095, 8191, 255, 16639, 65535, 131071, 262143, 524287, 1048575, 2097151, 4194303, 8388607, 4194303, 20971519, 67108863, 134217727, 268435455, 4194303, 541065215, 4194303, 3762290687, 8057257983, 16647192575, 34359738367, 68719476735, 137438953471]
theorem spec_SynVoterOk.tab6 : rtab .any (opsOf Try.f54 6) = spec_SynVoterOk.T6 := by kernel_rfl
theorem spec_SynVoterOk.bits6 : waitsOk spec_SynVoterOk.T6.2 spec_SynVoterOk.B6 = true := by kernel_rfl
set_option maxHeartbeats 8000000 in
set_option maxRecDepth 100000 in
theorem spec_SynVoterOk.calls {k : Nat} {a0_0 : Int} {A0_1 : Option Addr} {c0_1 : Nat} {l0_1 : List (S53)} {r : Bool} {w : World} (hr0_1 : Kd.C k53 w A0_1 l0_1.length l0_1) (hc0_1 : l0_1.length ≤ c0_1) (h : spec_SynVoterOk.f k a0_0 l0_1 = some r) :
  Calls Try.prog 54 #[.agg #[.int .i64 a0_0,.slice A0_1 l0_1.length c0_1]] w fun e w'=>e=.returned (.bool r)∧Below w.heap.size w w':=by
 have hu84:=Try.underlying84;have hu53:=Try.underlying53;have HR0_1:=mA hr0_1;have HC0_1:=mA hc0_1;clear hr0_1 hc0_1;have HB:=mA (Below.refl w.heap.size w);have H:((spec_l6In.f a0_0 0 99999).bind fun t186=>(if t186=true then (spec_SynVoterOk.j0 k (decide ((l0_1.length:Int) > 60)) a0_0 l0_1) else (spec_SynVoterOk.j0 k true a0_0 l0_1)))=some r:=h;clear h;have HC2:=mA H;clear H
 go_enter Try.func54,Try.ntmps54
 go_upto_region 1 with (first|((with_reducible refine gT 1 rfl ?_);(try (refine gate_guard (by rfl) ?_;dsimp only));refine bE 1 #[.int .i64 a0_0,.slice A0_1 l0_1.length c0_1] 84 ?_;intro gb185 hg w3 hbox hb;have BK185:=mA hbox;have GW185:=gbpB HB hg;have GE185:=gbpB HB hg;replace HB:=spB HB hb;clear hb hbox hg))
 (try simp only [Act.put,List.setIfInBounds_toArray,List.set_cons_zero,List.set_cons_succ])
 go_cut [13] (fun v13 wc=>∃ (kq:Nat) (x13_1:Bool),v13=.bool x13_1∧Aside0 (spec_SynVoterOk.j0 kq x13_1 a0_0 l0_1=some r)∧Aside0 (kq≤k)∧Aside0 (wc.heap[gb185]?=some (.cells #[.int .i64 a0_0,(.slice A0_1 l0_1.length c0_1)] 84 (0,0)))∧Aside0 (Below w.heap.size w wc))
 case first =>
  have H:=HC2.out;clear HC2;obtain ⟨t186,A4,H⟩:=bI H;(try dsimp only at H)
  by_cases c5:t186=true
  ·subst c5;rw [if_pos rfl] at H;have H':=mA H;clear H;obtain ⟨hcz6_0,hcz6_1,hfz6_0,hfz6_1⟩:=box2 BK185.out
   go_wp2_with (first|((with_reducible refine gT 6 rfl ?_);refine gC (some 6) Try.func55 (spec_l6In.calls A4.out) ?_;rintro e w' ⟨rfl,⟨nd,rfl⟩⟩;refine ⟨_,rfl,?_⟩))
   go_meet
   case rel=>exact ⟨_,(decide ((l0_1.length:Int) > 60)),bZ,H',⟨by first|omega|exact Nat.le_refl _⟩,⟨pK BK185.out⟩,⟨pS HB.out⟩⟩
  ·replace c5:=Bool.eq_false_iff.mpr c5;subst c5
   rw [if_neg nFT] at H
   have H':=mA H;clear H;obtain ⟨hcz7_0,hcz7_1,hfz7_0,hfz7_1⟩:=box2 BK185.out
   go_wp2_with (first|((with_reducible refine gT 6 rfl ?_);refine gC (some 6) Try.func55 (spec_l6In.calls A4.out) ?_;rintro e w' ⟨rfl,⟨nd,rfl⟩⟩;refine ⟨_,rfl,?_⟩))
   go_meet
   case rel=>exact ⟨_,(true),bZ,H',⟨by first|omega|exact Nat.le_refl _⟩,⟨pK BK185.out⟩,⟨pS HB.out⟩⟩
 case rest =>
  clear HC2
  obtain ⟨kq,x13_1,rfl,HA,HJ1,BK185,HB⟩:=hcut
  cases kq with
  | zero=>exact absurd HA.out (by simp [spec_SynVoterOk.j0])
  | succ kj1 =>
   have H:=HA.out;clear HA;simp only [spec_SynVoterOk.j0] at H
   by_cases c8:x13_1=true
   ·subst c8;rw [if_pos rfl] at H;obtain rfl:=Option.some.inj H
    go_wp2
    go_ret
    exact rZ (pS HB.out)
   ·replace c8:=Bool.eq_false_iff.mpr c8;subst c8
    rw [if_neg nFT] at H
    have H':=mA H;clear H
    go_wp2
    go_loopg [3] kj1 (fun kq v3 w'=>∃ (x3_2:Int),v3=.int .i64 x3_2∧Aside0 (spec_SynVoterOk.l0 kq x3_2 a0_0 l0_1=some r)∧Aside0 (kq≤kj1)∧Aside0 (w'.heap[gb185]?=some (.cells #[.int .i64 a0_0,(.slice A0_1 l0_1.length c0_1)] 84 (0,0)))∧Aside0 (Below w.heap.size w w'))
    case atStart=>exact ⟨(0),bZ,H',⟨Nat.le_refl _⟩,⟨pK BK185.out⟩,⟨pS HB.out⟩⟩
    case round =>
     clear H'
     (try clear c8)
     obtain ⟨x3_2,rfl,HA,HK2,BK185,HB⟩:=hrel
     cases gk with
     | zero=>exact absurd HA.out (by simp [spec_SynVoterOk.l0])
     | succ k2 =>
      have H:=HA.out;clear HA;simp only [spec_SynVoterOk.l0] at H
      by_cases c9:x3_2<(l0_1.length:Int)
      ·rw [if_pos c9] at H;have c9b0:decide (x3_2<(l0_1.length:Int))=true:=decide_eq_true c9;clear c9
       by_cases c10:0≤x3_2
       ·rw [if_pos c10] at H;have c10b0:decide (0≤x3_2)=true:=decide_eq_true c10;clear c10;obtain ⟨t188,A11,H⟩:=bI H;(try dsimp only at H)
        by_cases c12:t188=true
        ·subst c12;rw [if_pos rfl] at H
         by_cases c13:((rd_T53 l0_1 x3_2).f1) > a0_0
         ·rw [if_pos c13] at H;have c13b0:decide (a0_0<((rd_T53 l0_1 x3_2).f1))=true:=decide_eq_true c13;clear c13;obtain rfl:=Option.some.inj H;obtain ⟨hcz14_0,hcz14_1,hfz14_0,hfz14_1⟩:=box2 BK185.out
          try go_wp2
          replace BK185:=mA (blk_drew BK185.out);replace HB:=mA (below_drew1 HB.out);have p187:0≤(x3_2:Int):=of_decide_eq_true bA;have q187:x3_2<(l0_1.length:Int):=of_decide_eq_true bA;obtain ⟨ad187,e187,hs187⟩:=at_R53 HR0_1.out x3_2 p187 q187;cases e187;replace p187:=eq_true p187;replace q187:=eq_true q187;have p189:0≤(x3_2:Int):=of_decide_eq_true bA;have q189:x3_2<(l0_1.length:Int):=of_decide_eq_true bA;obtain ⟨ad189,e189,hs189⟩:=at_R53 HR0_1.out x3_2 p189 q189
          obtain rfl:ad187=ad189:=(by injection e189)
          replace p189:=eq_true p189;replace q189:=eq_true q189
          refine start_ (n:=38) (S:=fun w'=>w'.cell? ⟨gb185,0,none⟩=some (.int .i64 a0_0)∧w'.cell? ⟨gb185,1,none⟩=some (.slice (some ad187) l0_1.length c0_1)∧RS w' (ad187.add ((x3_2).toNat * 12)) (d53 (rd_T53 l0_1 x3_2))∧RS w' (ad187.add ((x3_2).toNat * 12)) (d53 (rd_T53 l0_1 x3_2))) (ds:=[]) _ aK rfl rfl ⟨eC BK185 0,eC BK185 1,rS HB hs187,rS HB hs189⟩ (fun hHeld=>?_);refine with_tabW spec_SynVoterOk.tab6 spec_SynVoterOk.bits6 (fun HT_ HW_=>?_)
          generalize wr.drew=w15 at BK185 HB hHeld ⊢
          refine qu 0 ?_;refine qu 2 ?_;refine qt 1 ?_;refine qu 3 ?_;refine qt 4 ?_
          refine qo 5 ?_;intro K hK
          refine gD Try.func58 (spec_l21PaperOk.calls A11.out) ?_
          rintro e w16 ⟨rfl,hb⟩;refine ⟨_,rfl,?_⟩;replace BK185:=bK BK185 hb;replace HB:=spS HB hb
          (try clear hb)
          refine hK.out _ _ ⟨eC BK185 0,eC BK185 1,rS HB hs187,rS HB hs189⟩ (fun hHeld=>?_);clear hK K;refine no_ (some 26) ?_;refine qu 6 ?_;refine qu 7 ?_;refine qu 8 ?_;refine qu 10 ?_;refine qu 14 ?_;refine qt 9 ?_;refine qu 11 ?_;refine qu 12 ?_;refine qt 13 ?_;refine qt 15 ?_;refine qu 16 ?_;refine qu 17 ?_;refine qu 18 ?_;refine qd 19 ?_;refine qd 20 ?_;refine qd 21 ?_;refine qd 22 ?_;refine qd 23 ?_;refine qd 24 ?_;refine qd 25 ?_;refine qd 26 ?_;refine qd 27 ?_;refine qd 28 ?_;refine qd 29 ?_;refine qd 30 ?_;refine qd 31 ?_;refine qd 32 ?_;refine qd 33 ?_;refine qd 34 ?_;refine qd 35 ?_;refine qd 36 ?_;refine qu 37 ?_;refine qe ?_
          try go_wp2
          go_ret
          exact rZ (pS HB.out)
         ·rw [if_neg c13] at H;have c13b0:decide (a0_0<((rd_T53 l0_1 x3_2).f1))=false:=decide_eq_false c13;clear c13
          by_cases c17:x3_2 > 0
          ·rw [if_pos c17] at H;have c17b0:decide (0<x3_2)=true:=decide_eq_true c17;clear c17;obtain ⟨ji18,hji18⟩:∃ j_:Int,(wrap64 (x3_2 - 1))=j_:=⟨_,rfl⟩
           replace H:(if 0≤(ji18) then (if (ji18)<(l0_1.length:Int) then (if ((rd_T53 l0_1 (ji18)).f0) ≥ ((rd_T53 l0_1 x3_2).f0) then (some false) else (spec_SynVoterOk.l0 k2 (wrap64 (x3_2+1)) a0_0 l0_1)) else (none)) else (none))=some r:=by first|(rw [hji18] at H;exact H)|(simp only [hji18] at H ⊢;exact H)
           (try rw [hji18] at A11)
           have hji18w:(IntKind.i64.wrap (x3_2 - 1))=ji18:=(i64_w _).trans hji18
           by_cases c19:0≤(ji18)
           ·rw [if_pos c19] at H;have c19b0:decide (0≤(ji18))=true:=decide_eq_true c19;clear c19
            by_cases c20:(ji18)<(l0_1.length:Int)
            ·rw [if_pos c20] at H;have c20b0:decide ((ji18)<(l0_1.length:Int))=true:=decide_eq_true c20;clear c20
             by_cases c21:((rd_T53 l0_1 (ji18)).f0) ≥ ((rd_T53 l0_1 x3_2).f0)
             ·rw [if_pos c21] at H;have c21b0:decide (((rd_T53 l0_1 x3_2).f0)≤((rd_T53 l0_1 (ji18)).f0))=true:=decide_eq_true c21;clear c21;obtain rfl:=Option.some.inj H;obtain ⟨hcz22_0,hcz22_1,hfz22_0,hfz22_1⟩:=box2 BK185.out
              try go_wp2
              replace BK185:=mA (blk_drew BK185.out);replace HB:=mA (below_drew1 HB.out);have p187:0≤(x3_2:Int):=of_decide_eq_true bA;have q187:x3_2<(l0_1.length:Int):=of_decide_eq_true bA;obtain ⟨ad187,e187,hs187⟩:=at_R53 HR0_1.out x3_2 p187 q187;cases e187;replace p187:=eq_true p187;replace q187:=eq_true q187;have p189:0≤(x3_2:Int):=of_decide_eq_true bA;have q189:x3_2<(l0_1.length:Int):=of_decide_eq_true bA;obtain ⟨ad189,e189,hs189⟩:=at_R53 HR0_1.out x3_2 p189 q189
              obtain rfl:ad187=ad189:=(by injection e189)
              replace p189:=eq_true p189;replace q189:=eq_true q189;have p190:0≤((ji18):Int):=of_decide_eq_true bA;have q190:(ji18)<(l0_1.length:Int):=of_decide_eq_true bA;obtain ⟨ad190,e190,hs190⟩:=at_R53 HR0_1.out (ji18) p190 q190
              obtain rfl:ad187=ad190:=(by injection e190)
              replace p190:=eq_true p190;replace q190:=eq_true q190;have p191:0≤(x3_2:Int):=of_decide_eq_true bA;have q191:x3_2<(l0_1.length:Int):=of_decide_eq_true bA;obtain ⟨ad191,e191,hs191⟩:=at_R53 HR0_1.out x3_2 p191 q191
              obtain rfl:ad187=ad191:=(by injection e191)
              replace p191:=eq_true p191;replace q191:=eq_true q191
              refine start_ (n:=38) (S:=fun w'=>w'.cell? ⟨gb185,0,none⟩=some (.int .i64 a0_0)∧w'.cell? ⟨gb185,1,none⟩=some (.slice (some ad187) l0_1.length c0_1)∧RS w' (ad187.add ((x3_2).toNat * 12)) (d53 (rd_T53 l0_1 x3_2))∧RS w' (ad187.add ((x3_2).toNat * 12)) (d53 (rd_T53 l0_1 x3_2))∧RS w' (ad187.add (((ji18)).toNat * 12)) (d53 (rd_T53 l0_1 (ji18)))∧RS w' (ad187.add ((x3_2).toNat * 12)) (d53 (rd_T53 l0_1 x3_2))) (ds:=[]) _ aK rfl rfl ⟨eC BK185 0,eC BK185 1,rS HB hs187,rS HB hs189,rS HB hs190,rS HB hs191⟩ (fun hHeld=>?_);refine with_tabW spec_SynVoterOk.tab6 spec_SynVoterOk.bits6 (fun HT_ HW_=>?_)
              generalize wr.drew=w23 at BK185 HB hHeld ⊢
              refine qu 0 ?_;refine qu 2 ?_;refine qt 1 ?_;refine qu 3 ?_;refine qt 4 ?_
              refine qo 5 ?_;intro K hK
              refine gD Try.func58 (spec_l21PaperOk.calls A11.out) ?_
              rintro e w24 ⟨rfl,hb⟩;refine ⟨_,rfl,?_⟩;replace BK185:=bK BK185 hb;replace HB:=spS HB hb
              (try clear hb)
              refine hK.out _ _ ⟨eC BK185 0,eC BK185 1,rS HB hs187,rS HB hs189,rS HB hs190,rS HB hs191⟩ (fun hHeld=>?_);clear hK K;refine no_ (some 26) ?_;refine qu 6 ?_;refine qu 7 ?_;refine qu 8 ?_;refine qu 10 ?_;refine qu 14 ?_;refine qt 9 ?_;refine qu 11 ?_;refine qu 12 ?_;refine qt 13 ?_;refine qt 15 ?_;refine qu 16 ?_;refine qu 17 ?_;refine qu 18 ?_;refine qu 19 ?_;refine qu 20 ?_;refine qu 21 ?_;refine qu 22 ?_;refine qu 24 ?_;refine qu 25 ?_;refine qu 29 ?_;refine qu 31 ?_;refine qt 23 ?_;refine qu 26 ?_;refine qu 27 ?_;refine qt 28 ?_;refine qt 30 ?_;refine qu 32 ?_;refine qu 33 ?_;refine qt 34 ?_;refine qu 35 ?_;refine qu 36 ?_;refine qu 37 ?_;refine qe ?_
              try go_wp2
              go_ret
              exact ⟨by first|rfl|(simp [errW_none,errW_some]<;>rfl)|(simp only [← hji18];first|rfl|(simp [errW_none,errW_some]<;>rfl))|(simp [*,errW_none,errW_some]<;>rfl),pS HB.out⟩
             ·rw [if_neg c21] at H;have c21b0:decide (((rd_T53 l0_1 x3_2).f0)≤((rd_T53 l0_1 (ji18)).f0))=false:=decide_eq_false c21;clear c21;have H':=mA H;clear H;obtain ⟨hcz25_0,hcz25_1,hfz25_0,hfz25_1⟩:=box2 BK185.out
              try go_wp2
              replace BK185:=mA (blk_drew BK185.out);replace HB:=mA (below_drew1 HB.out);have p187:0≤(x3_2:Int):=of_decide_eq_true bA;have q187:x3_2<(l0_1.length:Int):=of_decide_eq_true bA;obtain ⟨ad187,e187,hs187⟩:=at_R53 HR0_1.out x3_2 p187 q187;cases e187;replace p187:=eq_true p187;replace q187:=eq_true q187;have p189:0≤(x3_2:Int):=of_decide_eq_true bA;have q189:x3_2<(l0_1.length:Int):=of_decide_eq_true bA;obtain ⟨ad189,e189,hs189⟩:=at_R53 HR0_1.out x3_2 p189 q189
              obtain rfl:ad187=ad189:=(by injection e189)
              replace p189:=eq_true p189;replace q189:=eq_true q189;have p190:0≤((ji18):Int):=of_decide_eq_true bA;have q190:(ji18)<(l0_1.length:Int):=of_decide_eq_true bA;obtain ⟨ad190,e190,hs190⟩:=at_R53 HR0_1.out (ji18) p190 q190
              obtain rfl:ad187=ad190:=(by injection e190)
              replace p190:=eq_true p190;replace q190:=eq_true q190;have p191:0≤(x3_2:Int):=of_decide_eq_true bA;have q191:x3_2<(l0_1.length:Int):=of_decide_eq_true bA;obtain ⟨ad191,e191,hs191⟩:=at_R53 HR0_1.out x3_2 p191 q191
              obtain rfl:ad187=ad191:=(by injection e191)
              replace p191:=eq_true p191;replace q191:=eq_true q191
              refine start_ (n:=38) (S:=fun w'=>w'.cell? ⟨gb185,0,none⟩=some (.int .i64 a0_0)∧w'.cell? ⟨gb185,1,none⟩=some (.slice (some ad187) l0_1.length c0_1)∧RS w' (ad187.add ((x3_2).toNat * 12)) (d53 (rd_T53 l0_1 x3_2))∧RS w' (ad187.add ((x3_2).toNat * 12)) (d53 (rd_T53 l0_1 x3_2))∧RS w' (ad187.add (((ji18)).toNat * 12)) (d53 (rd_T53 l0_1 (ji18)))∧RS w' (ad187.add ((x3_2).toNat * 12)) (d53 (rd_T53 l0_1 x3_2))) (ds:=[]) _ aK rfl rfl ⟨eC BK185 0,eC BK185 1,rS HB hs187,rS HB hs189,rS HB hs190,rS HB hs191⟩ (fun hHeld=>?_);refine with_tabW spec_SynVoterOk.tab6 spec_SynVoterOk.bits6 (fun HT_ HW_=>?_)
              generalize wr.drew=w26 at BK185 HB hHeld ⊢
              refine qu 0 ?_;refine qu 2 ?_;refine qt 1 ?_;refine qu 3 ?_;refine qt 4 ?_
              refine qo 5 ?_;intro K hK
              refine gD Try.func58 (spec_l21PaperOk.calls A11.out) ?_
              rintro e w27 ⟨rfl,hb⟩;refine ⟨_,rfl,?_⟩;replace BK185:=bK BK185 hb;replace HB:=spS HB hb
              (try clear hb)
              refine hK.out _ _ ⟨eC BK185 0,eC BK185 1,rS HB hs187,rS HB hs189,rS HB hs190,rS HB hs191⟩ (fun hHeld=>?_);clear hK K;refine no_ (some 26) ?_;refine qu 6 ?_;refine qu 7 ?_;refine qu 8 ?_;refine qu 10 ?_;refine qu 14 ?_;refine qt 9 ?_;refine qu 11 ?_;refine qu 12 ?_;refine qt 13 ?_;refine qt 15 ?_;refine qu 16 ?_;refine qu 17 ?_;refine qu 18 ?_;refine qu 19 ?_;refine qu 20 ?_;refine qu 21 ?_;refine qu 22 ?_;refine qu 24 ?_;refine qu 25 ?_;refine qu 29 ?_;refine qu 31 ?_;refine qt 23 ?_;refine qu 26 ?_;refine qu 27 ?_;refine qt 28 ?_;refine qt 30 ?_;refine qu 32 ?_;refine qu 33 ?_;refine qt 34 ?_;refine qu 35 ?_;refine qu 36 ?_;refine qu 37 ?_;refine qe ?_
              try go_wp2
              go_roundg k2
              case measure=>have:=HJ1.out;have:=HK2.out;omega
              case rel=>exact ⟨(wrap64 (x3_2+1)),bZ,H',⟨by have:=HJ1.out;have:=HK2.out;omega⟩,⟨pK BK185.out⟩,⟨pS HB.out⟩⟩
            ·rw [if_neg c20] at H
             exact absurd H (by simp)
           ·rw [if_neg c19] at H
            exact absurd H (by simp)
          ·rw [if_neg c17] at H;have c17b0:decide (0<x3_2)=false:=decide_eq_false c17;clear c17;have H':=mA H;clear H;obtain ⟨hcz28_0,hcz28_1,hfz28_0,hfz28_1⟩:=box2 BK185.out
           try go_wp2
           replace BK185:=mA (blk_drew BK185.out);replace HB:=mA (below_drew1 HB.out);have p187:0≤(x3_2:Int):=of_decide_eq_true bA;have q187:x3_2<(l0_1.length:Int):=of_decide_eq_true bA;obtain ⟨ad187,e187,hs187⟩:=at_R53 HR0_1.out x3_2 p187 q187;cases e187;replace p187:=eq_true p187;replace q187:=eq_true q187;have p189:0≤(x3_2:Int):=of_decide_eq_true bA;have q189:x3_2<(l0_1.length:Int):=of_decide_eq_true bA;obtain ⟨ad189,e189,hs189⟩:=at_R53 HR0_1.out x3_2 p189 q189
           obtain rfl:ad187=ad189:=(by injection e189)
           replace p189:=eq_true p189;replace q189:=eq_true q189
           refine start_ (n:=38) (S:=fun w'=>w'.cell? ⟨gb185,0,none⟩=some (.int .i64 a0_0)∧w'.cell? ⟨gb185,1,none⟩=some (.slice (some ad187) l0_1.length c0_1)∧RS w' (ad187.add ((x3_2).toNat * 12)) (d53 (rd_T53 l0_1 x3_2))∧RS w' (ad187.add ((x3_2).toNat * 12)) (d53 (rd_T53 l0_1 x3_2))) (ds:=[]) _ aK rfl rfl ⟨eC BK185 0,eC BK185 1,rS HB hs187,rS HB hs189⟩ (fun hHeld=>?_);refine with_tabW spec_SynVoterOk.tab6 spec_SynVoterOk.bits6 (fun HT_ HW_=>?_)
           generalize wr.drew=w29 at BK185 HB hHeld ⊢
           refine qu 0 ?_;refine qu 2 ?_;refine qt 1 ?_;refine qu 3 ?_;refine qt 4 ?_
           refine qo 5 ?_;intro K hK
           refine gD Try.func58 (spec_l21PaperOk.calls A11.out) ?_
           rintro e w30 ⟨rfl,hb⟩;refine ⟨_,rfl,?_⟩;replace BK185:=bK BK185 hb;replace HB:=spS HB hb
           (try clear hb)
           refine hK.out _ _ ⟨eC BK185 0,eC BK185 1,rS HB hs187,rS HB hs189⟩ (fun hHeld=>?_);clear hK K;refine no_ (some 26) ?_;refine qu 6 ?_;refine qu 7 ?_;refine qu 8 ?_;refine qu 10 ?_;refine qu 14 ?_;refine qt 9 ?_;refine qu 11 ?_;refine qu 12 ?_;refine qt 13 ?_;refine qt 15 ?_;refine qu 16 ?_;refine qu 17 ?_;refine qu 18 ?_;refine qu 19 ?_;refine qu 20 ?_;refine qu 21 ?_;refine qd 22 ?_;refine qd 23 ?_;refine qd 24 ?_;refine qd 25 ?_;refine qd 26 ?_;refine qd 27 ?_;refine qd 28 ?_;refine qd 29 ?_;refine qd 30 ?_;refine qd 31 ?_;refine qd 32 ?_;refine qd 33 ?_;refine qd 34 ?_;refine qd 35 ?_;refine qu 36 ?_;refine qu 37 ?_;refine qe ?_
           try go_wp2
           go_roundg k2
           case measure=>have:=HJ1.out;have:=HK2.out;omega
           case rel=>exact ⟨(wrap64 (x3_2+1)),bZ,H',⟨by have:=HJ1.out;have:=HK2.out;omega⟩,⟨pK BK185.out⟩,⟨pS HB.out⟩⟩
        ·replace c12:=Bool.eq_false_iff.mpr c12;subst c12
         rw [if_neg nFT] at H
         obtain rfl:=Option.some.inj H;obtain ⟨hcz31_0,hcz31_1,hfz31_0,hfz31_1⟩:=box2 BK185.out
         try go_wp2
         replace BK185:=mA (blk_drew BK185.out);replace HB:=mA (below_drew1 HB.out);have p187:0≤(x3_2:Int):=of_decide_eq_true bA;have q187:x3_2<(l0_1.length:Int):=of_decide_eq_true bA;obtain ⟨ad187,e187,hs187⟩:=at_R53 HR0_1.out x3_2 p187 q187;cases e187;replace p187:=eq_true p187;replace q187:=eq_true q187
         refine start_ (n:=38) (S:=fun w'=>w'.cell? ⟨gb185,0,none⟩=some (.int .i64 a0_0)∧w'.cell? ⟨gb185,1,none⟩=some (.slice (some ad187) l0_1.length c0_1)∧RS w' (ad187.add ((x3_2).toNat * 12)) (d53 (rd_T53 l0_1 x3_2))) (ds:=[]) _ aK rfl rfl ⟨eC BK185 0,eC BK185 1,rS HB hs187⟩ (fun hHeld=>?_);refine with_tabW spec_SynVoterOk.tab6 spec_SynVoterOk.bits6 (fun HT_ HW_=>?_)
         generalize wr.drew=w32 at BK185 HB hHeld ⊢
         refine qu 0 ?_;refine qu 2 ?_;refine qt 1 ?_;refine qu 3 ?_;refine qt 4 ?_
         refine qo 5 ?_;intro K hK
         refine gD Try.func58 (spec_l21PaperOk.calls A11.out) ?_
         rintro e w33 ⟨rfl,hb⟩;refine ⟨_,rfl,?_⟩;replace BK185:=bK BK185 hb;replace HB:=spS HB hb
         (try clear hb)
         refine hK.out _ _ ⟨eC BK185 0,eC BK185 1,rS HB hs187⟩ (fun hHeld=>?_);clear hK K;refine no_ (some 26) ?_;refine qu 6 ?_;refine qu 7 ?_;refine qd 8 ?_;refine qd 9 ?_;refine qd 10 ?_;refine qd 11 ?_;refine qd 12 ?_;refine qd 13 ?_;refine qd 14 ?_;refine qd 15 ?_;refine qd 16 ?_;refine qu 17 ?_;refine qu 18 ?_;refine qd 19 ?_;refine qd 20 ?_;refine qd 21 ?_;refine qd 22 ?_;refine qd 23 ?_;refine qd 24 ?_;refine qd 25 ?_;refine qd 26 ?_;refine qd 27 ?_;refine qd 28 ?_;refine qd 29 ?_;refine qd 30 ?_;refine qd 31 ?_;refine qd 32 ?_;refine qd 33 ?_;refine qd 34 ?_;refine qd 35 ?_;refine qd 36 ?_;refine qu 37 ?_;refine qe ?_
         try go_wp2
         go_ret
         exact rZ (pS HB.out)
       ·rw [if_neg c10] at H
        exact absurd H (by simp)
      ·rw [if_neg c9] at H;have c9b0:decide (x3_2<(l0_1.length:Int))=false:=decide_eq_false c9;clear c9;obtain rfl:=Option.some.inj H;obtain ⟨hcz34_0,hcz34_1,hfz34_0,hfz34_1⟩:=box2 BK185.out
       go_wp2
       go_ret
       exact rZ (pS HB.out)

/-! ### spec_SynSeekerOk: function 56 -/
mutual
def spec_SynSeekerOk.j0 : Nat → Bool → Int → Int → Int → Int → Int → Int → Int → Int → Int → Int → Int → Int → Int → Int → Int → Int → Int → Int → Int → Int → Int → Int → Int → Int → Int → List Int → Option (Bool)
 | 0,_,_,_,_,_,_,_,_,_,_,_,_,_,_,_,_,_,_,_,_,_,_,_,_,_,_,_=>none
 | k+1,x60,x193000,x193001,x193002,x193003,x193004,x193005,x193006,x193007,x193008,x193009,x193010,x193011,x193012,x193013,x193014,x193015,x193016,x193017,x193018,x193019,x193020,x193021,x193022,x193023,x193024,x193025=>if x60=true then (some false) else (spec_SynSeekerOk.l0 k 0 x193000 x193001 x193002 x193003 x193004 x193005 x193006 x193007 x193008 x193009 x193010 x193011 x193012 x193013 x193014 x193015 x193016 x193017 x193018 x193019 x193020 x193021 x193022 x193023 x193024 x193025)
def spec_SynSeekerOk.l0 : Nat → Int → Int → Int → Int → Int → Int → Int → Int → Int → Int → Int → Int → Int → Int → Int → Int → Int → Int → Int → Int → Int → Int → Int → Int → Int → Int → List Int → Option (Bool)
 | 0,_,_,_,_,_,_,_,_,_,_,_,_,_,_,_,_,_,_,_,_,_,_,_,_,_,_,_=>none
 | k+1,x3,x193000,x193001,x193002,x193003,x193004,x193005,x193006,x193007,x193008,x193009,x193010,x193011,x193012,x193013,x193014,x193015,x193016,x193017,x193018,x193019,x193020,x193021,x193022,x193023,x193024,x193025=>if x3<(x193025.length:Int) then (if 0≤x3 then ((spec_l6In.f (rd x193025 x3) 0 2).bind fun t198=>(if t198=true then (spec_SynSeekerOk.l0 k (wrap64 (x3+1)) x193000 x193001 x193002 x193003 x193004 x193005 x193006 x193007 x193008 x193009 x193010 x193011 x193012 x193013 x193014 x193015 x193016 x193017 x193018 x193019 x193020 x193021 x193022 x193023 x193024 x193025) else (some false))) else (none)) else (if (x193013 == 0 && (x193014 == 0 && ((x193015 == 0 && (x193016 == 0 && (x193017 == 0 && (x193018 == 0 && (x193019 == 0 && (x193020 == 0 && (x193021 == 0 && (x193022 == 0 && (x193023 == 0 && (x193024 == 0)))))))))))))=true then (some true) else ((spec_l21PaperOk.f x193013 x193014 x193015 x193016 x193017 x193018 x193019 x193020 x193021 x193022 x193023 x193024).bind fun t199=>(if t199=true then (if x193013=x193000 then (some (decide (x193014<x193001))) else (some false)) else (some false))))
end
def spec_SynSeekerOk.f (k : Nat) (a0_0 a0_1 a0_2 a0_3 a0_4 a0_5 a0_6 a0_7 a0_8 a0_9 a0_10 a0_11 a0_12 a0_13 a0_14 a0_15 a0_16 a0_17 a0_18 a0_19 a0_20 a0_21 a0_22 a0_23 a0_24 : Int) (l0_25 : List Int) : Option (Bool) := if a0_2 = 0 then (if a0_0 = 0 then (if a0_1 = 0 then (if (a0_3 == 0 && (a0_4 == 0 && (a0_5 == 0 && (a0_6 == 0 && (a0_7 == 0 && (a0_8 == 0 && (a0_9 == 0 && (a0_10 == 0 && (a0_11 == 0 && (a0_12 == 0)))))))))) = true then (if (a0_13 == 0 && (a0_14 == 0 && ((a0_15 == 0 && (a0_16 == 0 && (a0_17 == 0 && (a0_18 == 0 && (a0_19 == 0 && (a0_20 == 0 && (a0_21 == 0 && (a0_22 == 0 && (a0_23 == 0 && (a0_24 == 0))))))))))))) = true then (some ((l0_25.length : Int) == 0)) else (some false)) else (some false)) else (some false)) else (some false)) else ((spec_l6In.f a0_0 1 60).bind fun t193 => (if t193 = true then ((spec_l6In.f a0_1 1 99999).bind fun t194 => (if t194 = true then ((spec_l6In.f a0_2 1 2).bind fun t195 => (if t195 = true then ((spec_l11CmdOk.f a0_3 a0_4 a0_5 a0_6 a0_7 a0_8 a0_9 a0_10 a0_11 a0_12).bind fun t196 => (if t196 = true then (spec_SynSeekerOk.j0 k (decide ((l0_25.length : Int) ≥ 2)) a0_0 a0_1 a0_2 a0_3 a0_4 a0_5 a0_6 a0_7 a0_8 a0_9 a0_10 a0_11 a0_12 a0_13 a0_14 a0_15 a0_16 a0_17 a0_18 a0_19 a0_20 a0_21 a0_22 a0_23 a0_24 l0_25) else (spec_SynSeekerOk.j0 k true a0_0 a0_1 a0_2 a0_3 a0_4 a0_5 a0_6 a0_7 a0_8 a0_9 a0_10 a0_11 a0_12 a0_13 a0_14 a0_15 a0_16 a0_17 a0_18 a0_19 a0_20 a0_21 a0_22 a0_23 a0_24 l0_25))) else (spec_SynSeekerOk.j0 k true a0_0 a0_1 a0_2 a0_3 a0_4 a0_5 a0_6 a0_7 a0_8 a0_9 a0_10 a0_11 a0_12 a0_13 a0_14 a0_15 a0_16 a0_17 a0_18 a0_19 a0_20 a0_21 a0_22 a0_23 a0_24 l0_25))) else (spec_SynSeekerOk.j0 k true a0_0 a0_1 a0_2 a0_3 a0_4 a0_5 a0_6 a0_7 a0_8 a0_9 a0_10 a0_11 a0_12 a0_13 a0_14 a0_15 a0_16 a0_17 a0_18 a0_19 a0_20 a0_21 a0_22 a0_23 a0_24 l0_25))) else (spec_SynSeekerOk.j0 k true a0_0 a0_1 a0_2 a0_3 a0_4 a0_5 a0_6 a0_7 a0_8 a0_9 a0_10 a0_11 a0_12 a0_13 a0_14 a0_15 a0_16 a0_17 a0_18 a0_19 a0_20 a0_21 a0_22 a0_23 a0_24 l0_25)))
theorem spec_SynSeekerOk.mono_l : ∀ k, (∀ y0 y1 y2 y3 y4 y5 y6 y7 y8 y9 y10 y11 y12 y13 y14 y15 y16 y17 y18 y19 y20 y21 y22 y23 y24 y25 y26, LeO (spec_SynSeekerOk.j0 k y0 y1 y2 y3 y4 y5 y6 y7 y8 y9 y10 y11 y12 y13 y14 y15 y16 y17 y18 y19 y20 y21 y22 y23 y24 y25 y26) (spec_SynSeekerOk.j0 (k + 1) y0 y1 y2 y3 y4 y5 y6 y7 y8 y9 y10 y11 y12 y13 y14 y15 y16 y17 y18 y19 y20 y21 y22 y23 y24 y25 y26)) ∧ (∀ y0 y1 y2 y3 y4 y5 y6 y7 y8 y9 y10 y11 y12 y13 y14 y15 y16 y17 y18 y19 y20 y21 y22 y23 y24 y25 y26, LeO (spec_SynSeekerOk.l0 k y0 y1 y2 y3 y4 y5 y6 y7 y8 y9 y10 y11 y12 y13 y14 y15 y16 y17 y18 y19 y20 y21 y22 y23 y24 y25 y26) (spec_SynSeekerOk.l0 (k + 1) y0 y1 y2 y3 y4 y5 y6 y7 y8 y9 y10 y11 y12 y13 y14 y15 y16 y17 y18 y19 y20 y21 y22 y23 y24 y25 y26))
 | 0=>⟨fun _ _ _ _ _ _ _ _ _ _ _ _ _ _ _ _ _ _ _ _ _ _ _ _ _ _ _ r h=>by simp [spec_SynSeekerOk.j0] at h,fun _ _ _ _ _ _ _ _ _ _ _ _ _ _ _ _ _ _ _ _ _ _ _ _ _ _ _ r h=>by simp [spec_SynSeekerOk.l0] at h⟩
 | k+1=>by
  obtain ⟨ih0,ih1⟩:=spec_SynSeekerOk.mono_l k;refine ⟨?_,?_⟩
  ·intros
   unfold spec_SynSeekerOk.j0
   repeat' first
   | (with_reducible first|apply ih0|apply ih1|exact LeO.refl _|exact LeO.none _|refine LeO.ite ?_ ?_|refine LeO.bind ?_ (fun _=>?_))|exact LeO.none _|refine LeO.ite ?_ ?_|refine LeO.bind ?_ (fun _=>?_)
  ·intros
   unfold spec_SynSeekerOk.l0
   repeat' first
   | (with_reducible first|apply ih0|apply ih1|exact LeO.refl _|exact LeO.none _|refine LeO.ite ?_ ?_|refine LeO.bind ?_ (fun _=>?_))|exact LeO.none _|refine LeO.ite ?_ ?_|refine LeO.bind ?_ (fun _=>?_)
theorem spec_SynSeekerOk.mono : ∀ a0 a1 a2 a3 a4 a5 a6 a7 a8 a9 a10 a11 a12 a13 a14 a15 a16 a17 a18 a19 a20 a21 a22 a23 a24 a25 k, LeO (spec_SynSeekerOk.f k a0 a1 a2 a3 a4 a5 a6 a7 a8 a9 a10 a11 a12 a13 a14 a15 a16 a17 a18 a19 a20 a21 a22 a23 a24 a25) (spec_SynSeekerOk.f (k + 1) a0 a1 a2 a3 a4 a5 a6 a7 a8 a9 a10 a11 a12 a13 a14 a15 a16 a17 a18 a19 a20 a21 a22 a23 a24 a25) := by
 intro a0 a1 a2 a3 a4 a5 a6 a7 a8 a9 a10 a11 a12 a13 a14 a15 a16 a17 a18 a19 a20 a21 a22 a23 a24 a25 k;obtain ⟨ih0,ih1⟩:=spec_SynSeekerOk.mono_l k
 unfold spec_SynSeekerOk.f
 repeat' first
   | (with_reducible first|apply ih0|apply ih1|exact LeO.refl _|exact LeO.none _|refine LeO.ite ?_ ?_|refine LeO.bind ?_ (fun _=>?_))|exact LeO.none _|refine LeO.ite ?_ ?_|refine LeO.bind ?_ (fun _=>?_)
set_option maxHeartbeats 8000000 in
set_option maxRecDepth 100000 in
theorem spec_SynSeekerOk.calls {k : Nat} {a0_0 a0_1 a0_2 a0_3 a0_4 a0_5 a0_6 a0_7 a0_8 a0_9 a0_10 a0_11 a0_12 a0_13 a0_14 a0_15 a0_16 a0_17 a0_18 a0_19 a0_20 a0_21 a0_22 a0_23 a0_24 : Int} {A0_25 : Option Addr} {c0_25 : Nat} {l0_25 : List Int} {r : Bool} {w : World} (hr0_25 : Kd.C (Kd.int .i64) w A0_25 l0_25.length l0_25) (hc0_25 : l0_25.length ≤ c0_25) (h : spec_SynSeekerOk.f k a0_0 a0_1 a0_2 a0_3 a0_4 a0_5 a0_6 a0_7 a0_8 a0_9 a0_10 a0_11 a0_12 a0_13 a0_14 a0_15 a0_16 a0_17 a0_18 a0_19 a0_20 a0_21 a0_22 a0_23 a0_24 l0_25 = some r) :
  Calls Try.prog 56 #[.agg #[.int .i64 a0_0,.int .i64 a0_1,.int .i64 a0_2,.int .i64 a0_3,.int .i64 a0_4,.int .i64 a0_5,.int .i64 a0_6,.int .i64 a0_7,.int .i64 a0_8,.int .i64 a0_9,.int .i64 a0_10,.int .i64 a0_11,.int .i64 a0_12,.int .i64 a0_13,.int .i64 a0_14,.int .i64 a0_15,.int .i64 a0_16,.int .i64 a0_17,.int .i64 a0_18,.int .i64 a0_19,.int .i64 a0_20,.int .i64 a0_21,.int .i64 a0_22,.int .i64 a0_23,.int .i64 a0_24,.slice A0_25 l0_25.length c0_25]] w fun e w'=>e=.returned (.bool r)∧Below w.heap.size w w':=by
 have hu88:=Try.underlying88;have hu44:=Try.underlying44;have hu53:=Try.underlying53;have HR0_25:=mA hr0_25;have HC0_25:=mA hc0_25;clear hr0_25 hc0_25;have HB:=mA (Below.refl w.heap.size w);have H:(if a0_2=0 then (if a0_0=0 then (if a0_1=0 then (if (a0_3 == 0 && (a0_4 == 0 && (a0_5 == 0 && (a0_6 == 0 && (a0_7 == 0 && (a0_8 == 0 && (a0_9 == 0 && (a0_10 == 0 && (a0_11 == 0 && (a0_12 == 0))))))))))=true then (if (a0_13 == 0 && (a0_14 == 0 && ((a0_15 == 0 && (a0_16 == 0 && (a0_17 == 0 && (a0_18 == 0 && (a0_19 == 0 && (a0_20 == 0 && (a0_21 == 0 && (a0_22 == 0 && (a0_23 == 0 && (a0_24 == 0)))))))))))))=true then (some ((l0_25.length:Int) == 0)) else (some false)) else (some false)) else (some false)) else (some false)) else ((spec_l6In.f a0_0 1 60).bind fun t193=>(if t193=true then ((spec_l6In.f a0_1 1 99999).bind fun t194=>(if t194=true then ((spec_l6In.f a0_2 1 2).bind fun t195=>(if t195=true then ((spec_l11CmdOk.f a0_3 a0_4 a0_5 a0_6 a0_7 a0_8 a0_9 a0_10 a0_11 a0_12).bind fun t196=>(if t196=true then (spec_SynSeekerOk.j0 k (decide ((l0_25.length:Int) ≥ 2)) a0_0 a0_1 a0_2 a0_3 a0_4 a0_5 a0_6 a0_7 a0_8 a0_9 a0_10 a0_11 a0_12 a0_13 a0_14 a0_15 a0_16 a0_17 a0_18 a0_19 a0_20 a0_21 a0_22 a0_23 a0_24 l0_25) else (spec_SynSeekerOk.j0 k true a0_0 a0_1 a0_2 a0_3 a0_4 a0_5 a0_6 a0_7 a0_8 a0_9 a0_10 a0_11 a0_12 a0_13 a0_14 a0_15 a0_16 a0_17 a0_18 a0_19 a0_20 a0_21 a0_22 a0_23 a0_24 l0_25))) else (spec_SynSeekerOk.j0 k true a0_0 a0_1 a0_2 a0_3 a0_4 a0_5 a0_6 a0_7 a0_8 a0_9 a0_10 a0_11 a0_12 a0_13 a0_14 a0_15 a0_16 a0_17 a0_18 a0_19 a0_20 a0_21 a0_22 a0_23 a0_24 l0_25))) else (spec_SynSeekerOk.j0 k true a0_0 a0_1 a0_2 a0_3 a0_4 a0_5 a0_6 a0_7 a0_8 a0_9 a0_10 a0_11 a0_12 a0_13 a0_14 a0_15 a0_16 a0_17 a0_18 a0_19 a0_20 a0_21 a0_22 a0_23 a0_24 l0_25))) else (spec_SynSeekerOk.j0 k true a0_0 a0_1 a0_2 a0_3 a0_4 a0_5 a0_6 a0_7 a0_8 a0_9 a0_10 a0_11 a0_12 a0_13 a0_14 a0_15 a0_16 a0_17 a0_18 a0_19 a0_20 a0_21 a0_22 a0_23 a0_24 l0_25))))=some r:=h;clear h
 by_cases c2:a0_2=0
 ·rw [if_pos c2] at H;obtain ⟨c2b0,c2b1⟩:=eqB c2;clear c2
  by_cases c3:a0_0=0
  ·rw [if_pos c3] at H;obtain ⟨c3b0,c3b1⟩:=eqB c3;clear c3
   by_cases c4:a0_1=0
   ·rw [if_pos c4] at H;obtain ⟨c4b0,c4b1⟩:=eqB c4;clear c4
    by_cases c5:(a0_3 == 0 && (a0_4 == 0 && (a0_5 == 0 && (a0_6 == 0 && (a0_7 == 0 && (a0_8 == 0 && (a0_9 == 0 && (a0_10 == 0 && (a0_11 == 0 && (a0_12 == 0))))))))))=true
    ·rw [if_pos c5] at H;have c5b0:(a0_3 == 0 && (a0_4 == 0 && (a0_5 == 0 && (a0_6 == 0 && (a0_7 == 0 && (a0_8 == 0 && (a0_9 == 0 && (a0_10 == 0 && (a0_11 == 0 && (a0_12 == 0))))))))))=true:=c5
     (try (have c5b1:decide (a0_3=0 && (a0_4 == 0 && (a0_5 == 0 && (a0_6 == 0 && (a0_7 == 0 && (a0_8 == 0 && (a0_9 == 0 && (a0_10 == 0 && (a0_11 == 0 && (a0_12 == 0))))))))))=true:=by simpa using c5))
     (try (have c5b2:(a0_3 == 0 && (a0_4 == 0 && (a0_5 == 0 && (a0_6 == 0 && (a0_7 == 0 && (a0_8 == 0 && (a0_9 == 0 && (a0_10 == 0 && (a0_11 == 0 && (a0_12 == 0))))))))))=true:=by simpa using c5))
     clear c5
     by_cases c6:(a0_13 == 0 && (a0_14 == 0 && ((a0_15 == 0 && (a0_16 == 0 && (a0_17 == 0 && (a0_18 == 0 && (a0_19 == 0 && (a0_20 == 0 && (a0_21 == 0 && (a0_22 == 0 && (a0_23 == 0 && (a0_24 == 0)))))))))))))=true
     ·rw [if_pos c6] at H;have c6b0:(a0_13 == 0 && (a0_14 == 0 && ((a0_15 == 0 && (a0_16 == 0 && (a0_17 == 0 && (a0_18 == 0 && (a0_19 == 0 && (a0_20 == 0 && (a0_21 == 0 && (a0_22 == 0 && (a0_23 == 0 && (a0_24 == 0)))))))))))))=true:=c6
      (try (have c6b1:decide (a0_13=0 && (a0_14 == 0 && ((a0_15 == 0 && (a0_16 == 0 && (a0_17 == 0 && (a0_18 == 0 && (a0_19 == 0 && (a0_20 == 0 && (a0_21 == 0 && (a0_22 == 0 && (a0_23 == 0 && (a0_24 == 0)))))))))))))=true:=by simpa using c6))
      (try (have c6b2:(a0_13 == 0 && (a0_14 == 0 && ((a0_15 == 0 && (a0_16 == 0 && (a0_17 == 0 && (a0_18 == 0 && (a0_19 == 0 && (a0_20 == 0 && (a0_21 == 0 && (a0_22 == 0 && (a0_23 == 0 && (a0_24 == 0)))))))))))))=true:=by simpa using c6))
      clear c6;obtain rfl:=Option.some.inj H
      go_enter Try.func56,Try.ntmps56
      go_wp2_with (first|((with_reducible refine gLd rfl rfl (by assumption) ?_);refine ldV ?_)|((with_reducible refine gSt rfl (by assumption) ?_);refine stV ?_)|((with_reducible refine gT 1 rfl ?_);(try (refine gate_guard (by rfl) ?_;dsimp only));refine bX 1 ?_;intro gb192 hg w7 hbox hb;have BK192:=mA hbox;have GW192:=gbpB HB hg;have GE192:=gbpB HB hg;replace HB:=spB HB hb;clear hb hbox hg;have hcz8_0:=fun i_=>blk_cell BK192.out i_;have hfz8_0:=fun i_=>blk_frozen BK192.out i_))
      go_ret
      exact rZ (pS HB.out)
     ·rw [if_neg c6] at H
      have c6b0:(a0_13 == 0 && (a0_14 == 0 && ((a0_15 == 0 && (a0_16 == 0 && (a0_17 == 0 && (a0_18 == 0 && (a0_19 == 0 && (a0_20 == 0 && (a0_21 == 0 && (a0_22 == 0 && (a0_23 == 0 && (a0_24 == 0)))))))))))))=false:=by simpa using c6
      (try (have c6b1:decide (a0_13=0 && (a0_14 == 0 && ((a0_15 == 0 && (a0_16 == 0 && (a0_17 == 0 && (a0_18 == 0 && (a0_19 == 0 && (a0_20 == 0 && (a0_21 == 0 && (a0_22 == 0 && (a0_23 == 0 && (a0_24 == 0)))))))))))))=false:=by simpa using c6))
      (try (have c6b2:(a0_13 == 0 && (a0_14 == 0 && ((a0_15 == 0 && (a0_16 == 0 && (a0_17 == 0 && (a0_18 == 0 && (a0_19 == 0 && (a0_20 == 0 && (a0_21 == 0 && (a0_22 == 0 && (a0_23 == 0 && (a0_24 == 0)))))))))))))=false:=by simpa using c6))
      (try (have c6b3:¬ (a0_13=0 && (a0_14 == 0 && ((a0_15 == 0 && (a0_16 == 0 && (a0_17 == 0 && (a0_18 == 0 && (a0_19 == 0 && (a0_20 == 0 && (a0_21 == 0 && (a0_22 == 0 && (a0_23 == 0 && (a0_24 == 0))))))))))))):=by simpa using c6))
      clear c6;obtain rfl:=Option.some.inj H
      go_enter Try.func56,Try.ntmps56
      go_wp2_with (first|((with_reducible refine gLd rfl rfl (by assumption) ?_);refine ldV ?_)|((with_reducible refine gSt rfl (by assumption) ?_);refine stV ?_)|((with_reducible refine gT 1 rfl ?_);(try (refine gate_guard (by rfl) ?_;dsimp only));refine bX 1 ?_;intro gb192 hg w9 hbox hb;have BK192:=mA hbox;have GW192:=gbpB HB hg;have GE192:=gbpB HB hg;replace HB:=spB HB hb;clear hb hbox hg;have hcz10_0:=fun i_=>blk_cell BK192.out i_;have hfz10_0:=fun i_=>blk_frozen BK192.out i_))
      go_ret
      exact rZ (pS HB.out)
    ·rw [if_neg c5] at H
     have c5b0:(a0_3 == 0 && (a0_4 == 0 && (a0_5 == 0 && (a0_6 == 0 && (a0_7 == 0 && (a0_8 == 0 && (a0_9 == 0 && (a0_10 == 0 && (a0_11 == 0 && (a0_12 == 0))))))))))=false:=by simpa using c5
     (try (have c5b1:decide (a0_3=0 && (a0_4 == 0 && (a0_5 == 0 && (a0_6 == 0 && (a0_7 == 0 && (a0_8 == 0 && (a0_9 == 0 && (a0_10 == 0 && (a0_11 == 0 && (a0_12 == 0))))))))))=false:=by simpa using c5))
     (try (have c5b2:(a0_3 == 0 && (a0_4 == 0 && (a0_5 == 0 && (a0_6 == 0 && (a0_7 == 0 && (a0_8 == 0 && (a0_9 == 0 && (a0_10 == 0 && (a0_11 == 0 && (a0_12 == 0))))))))))=false:=by simpa using c5))
     (try (have c5b3:¬ (a0_3=0 && (a0_4 == 0 && (a0_5 == 0 && (a0_6 == 0 && (a0_7 == 0 && (a0_8 == 0 && (a0_9 == 0 && (a0_10 == 0 && (a0_11 == 0 && (a0_12 == 0)))))))))):=by simpa using c5))
     clear c5;obtain rfl:=Option.some.inj H
     go_enter Try.func56,Try.ntmps56
     go_wp2_with (first|((with_reducible refine gLd rfl rfl (by assumption) ?_);refine ldV ?_)|((with_reducible refine gSt rfl (by assumption) ?_);refine stV ?_)|((with_reducible refine gT 1 rfl ?_);(try (refine gate_guard (by rfl) ?_;dsimp only));refine bX 1 ?_;intro gb192 hg w11 hbox hb;have BK192:=mA hbox;have GW192:=gbpB HB hg;have GE192:=gbpB HB hg;replace HB:=spB HB hb;clear hb hbox hg;have hcz12_0:=fun i_=>blk_cell BK192.out i_;have hfz12_0:=fun i_=>blk_frozen BK192.out i_))
     go_ret
     exact rZ (pS HB.out)
   ·rw [if_neg c4] at H;have c4b0:(a0_1 == 0)=false:=beq_eq_false_iff_ne.mpr c4;have c4b1:(a0_1 != 0)=true:=bne_iff_ne.mpr c4;obtain rfl:=Option.some.inj H
    go_enter Try.func56,Try.ntmps56
    go_wp2_with (first|((with_reducible refine gLd rfl rfl (by assumption) ?_);refine ldV ?_)|((with_reducible refine gSt rfl (by assumption) ?_);refine stV ?_)|((with_reducible refine gT 1 rfl ?_);(try (refine gate_guard (by rfl) ?_;dsimp only));refine bX 1 ?_;intro gb192 hg w13 hbox hb;have BK192:=mA hbox;have GW192:=gbpB HB hg;have GE192:=gbpB HB hg;replace HB:=spB HB hb;clear hb hbox hg;have hcz14_0:=fun i_=>blk_cell BK192.out i_;have hfz14_0:=fun i_=>blk_frozen BK192.out i_))
    go_ret
    exact rZ (pS HB.out)
  ·rw [if_neg c3] at H;have c3b0:(a0_0 == 0)=false:=beq_eq_false_iff_ne.mpr c3;have c3b1:(a0_0 != 0)=true:=bne_iff_ne.mpr c3;obtain rfl:=Option.some.inj H
   go_enter Try.func56,Try.ntmps56
   go_wp2_with (first|((with_reducible refine gLd rfl rfl (by assumption) ?_);refine ldV ?_)|((with_reducible refine gSt rfl (by assumption) ?_);refine stV ?_)|((with_reducible refine gT 1 rfl ?_);(try (refine gate_guard (by rfl) ?_;dsimp only));refine bX 1 ?_;intro gb192 hg w15 hbox hb;have BK192:=mA hbox;have GW192:=gbpB HB hg;have GE192:=gbpB HB hg;replace HB:=spB HB hb;clear hb hbox hg;have hcz16_0:=fun i_=>blk_cell BK192.out i_;have hfz16_0:=fun i_=>blk_frozen BK192.out i_))
   go_ret
   exact rZ (pS HB.out)
 ·rw [if_neg c2] at H;have c2b0:(a0_2 == 0)=false:=beq_eq_false_iff_ne.mpr c2;have c2b1:(a0_2 != 0)=true:=bne_iff_ne.mpr c2;have HC17:=mA H;clear H
  go_enter Try.func56,Try.ntmps56
  go_upto_region 3 with (first|((with_reducible refine gLd rfl rfl (by assumption) ?_);refine ldV ?_)|((with_reducible refine gSt rfl (by assumption) ?_);refine stV ?_)|((with_reducible refine gT 1 rfl ?_);(try (refine gate_guard (by rfl) ?_;dsimp only));refine bX 1 ?_;intro gb192 hg w18 hbox hb;have BK192:=mA hbox;have GW192:=gbpB HB hg;have GE192:=gbpB HB hg;replace HB:=spB HB hb;clear hb hbox hg;have hcz19_0:=fun i_=>blk_cell BK192.out i_;have hfz19_0:=fun i_=>blk_frozen BK192.out i_))
  (try simp only [Act.put,List.setIfInBounds_toArray,List.set_cons_zero,List.set_cons_succ])
  go_cut [60] (fun v60 wc=>∃ (kq:Nat) (x60_16:Bool),v60=.bool x60_16∧Aside0 (spec_SynSeekerOk.j0 kq x60_16 a0_0 a0_1 a0_2 a0_3 a0_4 a0_5 a0_6 a0_7 a0_8 a0_9 a0_10 a0_11 a0_12 a0_13 a0_14 a0_15 a0_16 a0_17 a0_18 a0_19 a0_20 a0_21 a0_22 a0_23 a0_24 l0_25=some r)∧Aside0 (kq≤k)∧Aside0 (wc.heap[gb192]?=some (.cells #[.int .i64 a0_0,.int .i64 a0_1,.int .i64 a0_2,.int .i64 a0_3,.int .i64 a0_4,.int .i64 a0_5,.int .i64 a0_6,.int .i64 a0_7,.int .i64 a0_8,.int .i64 a0_9,.int .i64 a0_10,.int .i64 a0_11,.int .i64 a0_12,.int .i64 a0_13,.int .i64 a0_14,.int .i64 a0_15,.int .i64 a0_16,.int .i64 a0_17,.int .i64 a0_18,.int .i64 a0_19,.int .i64 a0_20,.int .i64 a0_21,.int .i64 a0_22,.int .i64 a0_23,.int .i64 a0_24,(.slice A0_25 l0_25.length c0_25)] 88 (0,0)))∧Aside0 (Below w.heap.size w wc))
  case first =>
   have H:=HC17.out;clear HC17;obtain ⟨t193,A20,H⟩:=bI H;(try dsimp only at H)
   by_cases c21:t193=true
   ·subst c21;rw [if_pos rfl] at H;obtain ⟨t194,A22,H⟩:=bI H;(try dsimp only at H)
    by_cases c23:t194=true
    ·subst c23;rw [if_pos rfl] at H;obtain ⟨t195,A24,H⟩:=bI H;(try dsimp only at H)
     by_cases c25:t195=true
     ·subst c25;rw [if_pos rfl] at H;obtain ⟨t196,A26,H⟩:=bI H;(try dsimp only at H)
      by_cases c27:t196=true
      ·subst c27;rw [if_pos rfl] at H;have H':=mA H;clear H;have hcz28_0:=fun i_=>blk_cell BK192.out i_;have hfz28_0:=fun i_=>blk_frozen BK192.out i_
       go_wp2_with (first|((with_reducible refine gLd rfl rfl (by assumption) ?_);refine ldV ?_)|((with_reducible refine gSt rfl (by assumption) ?_);refine stV ?_)|((with_reducible refine gT 35 rfl ?_);refine gC (some 35) Try.func55 (spec_l6In.calls A20.out) ?_;rintro e w' ⟨rfl,⟨nd,rfl⟩⟩;refine ⟨_,rfl,?_⟩)|(go_at_call 55;(with_reducible refine (spec_l6In.calls A22.out).mono ?_);rintro e w' ⟨rfl,⟨nd,rfl⟩⟩)|(go_at_call 55;(with_reducible refine (spec_l6In.calls A24.out).mono ?_);rintro e w' ⟨rfl,⟨nd,rfl⟩⟩)|(go_at_call 81;(with_reducible refine (spec_l11CmdOk.calls A26.out).mono ?_);rintro e w29 ⟨rfl,hb⟩;replace BK192:=bK BK192 hb;replace HB:=spS HB hb;(try clear hb);have hcz30_0:=fun i_=>blk_cell BK192.out i_;have hfz30_0:=fun i_=>blk_frozen BK192.out i_))
       go_meet
       case rel=>exact ⟨_,(decide ((l0_25.length:Int) ≥ 2)),bZ,H',⟨by first|omega|exact Nat.le_refl _⟩,⟨pK BK192.out⟩,⟨pS HB.out⟩⟩
      ·replace c27:=Bool.eq_false_iff.mpr c27;subst c27
       rw [if_neg nFT] at H
       have H':=mA H;clear H;have hcz31_0:=fun i_=>blk_cell BK192.out i_;have hfz31_0:=fun i_=>blk_frozen BK192.out i_
       go_wp2_with (first|((with_reducible refine gLd rfl rfl (by assumption) ?_);refine ldV ?_)|((with_reducible refine gSt rfl (by assumption) ?_);refine stV ?_)|((with_reducible refine gT 35 rfl ?_);refine gC (some 35) Try.func55 (spec_l6In.calls A20.out) ?_;rintro e w' ⟨rfl,⟨nd,rfl⟩⟩;refine ⟨_,rfl,?_⟩)|(go_at_call 55;(with_reducible refine (spec_l6In.calls A22.out).mono ?_);rintro e w' ⟨rfl,⟨nd,rfl⟩⟩)|(go_at_call 55;(with_reducible refine (spec_l6In.calls A24.out).mono ?_);rintro e w' ⟨rfl,⟨nd,rfl⟩⟩)|(go_at_call 81;(with_reducible refine (spec_l11CmdOk.calls A26.out).mono ?_);rintro e w32 ⟨rfl,hb⟩;replace BK192:=bK BK192 hb;replace HB:=spS HB hb;(try clear hb)))
       go_meet
       case rel=>exact ⟨_,(true),bZ,H',⟨by first|omega|exact Nat.le_refl _⟩,⟨pK BK192.out⟩,⟨pS HB.out⟩⟩
     ·replace c25:=Bool.eq_false_iff.mpr c25;subst c25
      rw [if_neg nFT] at H
      have H':=mA H;clear H;have hcz33_0:=fun i_=>blk_cell BK192.out i_;have hfz33_0:=fun i_=>blk_frozen BK192.out i_
      go_wp2_with (first|((with_reducible refine gLd rfl rfl (by assumption) ?_);refine ldV ?_)|((with_reducible refine gSt rfl (by assumption) ?_);refine stV ?_)|((with_reducible refine gT 35 rfl ?_);refine gC (some 35) Try.func55 (spec_l6In.calls A20.out) ?_;rintro e w' ⟨rfl,⟨nd,rfl⟩⟩;refine ⟨_,rfl,?_⟩)|(go_at_call 55;(with_reducible refine (spec_l6In.calls A22.out).mono ?_);rintro e w' ⟨rfl,⟨nd,rfl⟩⟩)|(go_at_call 55;(with_reducible refine (spec_l6In.calls A24.out).mono ?_);rintro e w' ⟨rfl,⟨nd,rfl⟩⟩))
      go_meet
      case rel=>exact ⟨_,(true),bZ,H',⟨by first|omega|exact Nat.le_refl _⟩,⟨pK BK192.out⟩,⟨pS HB.out⟩⟩
    ·replace c23:=Bool.eq_false_iff.mpr c23;subst c23
     rw [if_neg nFT] at H
     have H':=mA H;clear H;have hcz34_0:=fun i_=>blk_cell BK192.out i_;have hfz34_0:=fun i_=>blk_frozen BK192.out i_
     go_wp2_with (first|((with_reducible refine gLd rfl rfl (by assumption) ?_);refine ldV ?_)|((with_reducible refine gSt rfl (by assumption) ?_);refine stV ?_)|((with_reducible refine gT 35 rfl ?_);refine gC (some 35) Try.func55 (spec_l6In.calls A20.out) ?_;rintro e w' ⟨rfl,⟨nd,rfl⟩⟩;refine ⟨_,rfl,?_⟩)|(go_at_call 55;(with_reducible refine (spec_l6In.calls A22.out).mono ?_);rintro e w' ⟨rfl,⟨nd,rfl⟩⟩))
     go_meet
     case rel=>exact ⟨_,(true),bZ,H',⟨by first|omega|exact Nat.le_refl _⟩,⟨pK BK192.out⟩,⟨pS HB.out⟩⟩
   ·replace c21:=Bool.eq_false_iff.mpr c21;subst c21
    rw [if_neg nFT] at H
    have H':=mA H;clear H;have hcz35_0:=fun i_=>blk_cell BK192.out i_;have hfz35_0:=fun i_=>blk_frozen BK192.out i_
    go_wp2_with (first|((with_reducible refine gLd rfl rfl (by assumption) ?_);refine ldV ?_)|((with_reducible refine gSt rfl (by assumption) ?_);refine stV ?_)|((with_reducible refine gT 35 rfl ?_);refine gC (some 35) Try.func55 (spec_l6In.calls A20.out) ?_;rintro e w' ⟨rfl,⟨nd,rfl⟩⟩;refine ⟨_,rfl,?_⟩))
    go_meet
    case rel=>exact ⟨_,(true),bZ,H',⟨by first|omega|exact Nat.le_refl _⟩,⟨pK BK192.out⟩,⟨pS HB.out⟩⟩
  case rest =>
   clear HC17
   (try clear c2);(try clear c2b0);(try clear c2b1);(try clear hcz19_0);(try clear hfz19_0)
   obtain ⟨kq,x60_16,rfl,HA,HJ16,BK192,HB⟩:=hcut
   cases kq with
   | zero=>exact absurd HA.out (by simp [spec_SynSeekerOk.j0])
   | succ kj16 =>
    have H:=HA.out;clear HA;simp only [spec_SynSeekerOk.j0] at H
    by_cases c36:x60_16=true
    ·subst c36;rw [if_pos rfl] at H;obtain rfl:=Option.some.inj H
     go_wp2_with (first|((with_reducible refine gLd rfl rfl (by assumption) ?_);refine ldV ?_)|((with_reducible refine gSt rfl (by assumption) ?_);refine stV ?_))
     go_ret
     exact rZ (pS HB.out)
    ·replace c36:=Bool.eq_false_iff.mpr c36;subst c36
     rw [if_neg nFT] at H
     have H':=mA H;clear H
     go_wp2_with (first|((with_reducible refine gLd rfl rfl (by assumption) ?_);refine ldV ?_)|((with_reducible refine gSt rfl (by assumption) ?_);refine stV ?_))
     go_loopg [3] kj16 (fun kq v3 w'=>∃ (x3_2:Int),v3=.int .i64 x3_2∧Aside0 (spec_SynSeekerOk.l0 kq x3_2 a0_0 a0_1 a0_2 a0_3 a0_4 a0_5 a0_6 a0_7 a0_8 a0_9 a0_10 a0_11 a0_12 a0_13 a0_14 a0_15 a0_16 a0_17 a0_18 a0_19 a0_20 a0_21 a0_22 a0_23 a0_24 l0_25=some r)∧Aside0 (kq≤kj16)∧Aside0 (w'.heap[gb192]?=some (.cells #[.int .i64 a0_0,.int .i64 a0_1,.int .i64 a0_2,.int .i64 a0_3,.int .i64 a0_4,.int .i64 a0_5,.int .i64 a0_6,.int .i64 a0_7,.int .i64 a0_8,.int .i64 a0_9,.int .i64 a0_10,.int .i64 a0_11,.int .i64 a0_12,.int .i64 a0_13,.int .i64 a0_14,.int .i64 a0_15,.int .i64 a0_16,.int .i64 a0_17,.int .i64 a0_18,.int .i64 a0_19,.int .i64 a0_20,.int .i64 a0_21,.int .i64 a0_22,.int .i64 a0_23,.int .i64 a0_24,(.slice A0_25 l0_25.length c0_25)] 88 (0,0)))∧Aside0 (Below w.heap.size w w'))
     case atStart=>exact ⟨(0),bZ,H',⟨Nat.le_refl _⟩,⟨pK BK192.out⟩,⟨pS HB.out⟩⟩
     case round =>
      clear H'
      (try clear c36);(try clear hcz19_0);(try clear hfz19_0)
      obtain ⟨x3_2,rfl,HA,HK2,BK192,HB⟩:=hrel
      cases gk with
      | zero=>exact absurd HA.out (by simp [spec_SynSeekerOk.l0])
      | succ k2 =>
       have H:=HA.out;clear HA;simp only [spec_SynSeekerOk.l0] at H
       by_cases c37:x3_2<(l0_25.length:Int)
       ·rw [if_pos c37] at H;have c37b0:decide (x3_2<(l0_25.length:Int))=true:=decide_eq_true c37;clear c37
        by_cases c38:0≤x3_2
        ·rw [if_pos c38] at H;have c38b0:decide (0≤x3_2)=true:=decide_eq_true c38;clear c38;obtain ⟨t198,A39,H⟩:=bI H;(try dsimp only at H)
         by_cases c40:t198=true
         ·subst c40;rw [if_pos rfl] at H;have H':=mA H;clear H;have hcz41_0:=fun i_=>blk_cell BK192.out i_;have hfz41_0:=fun i_=>blk_frozen BK192.out i_;have p197:0≤(x3_2:Int):=of_decide_eq_true bA;have q197:x3_2<(l0_25.length:Int):=of_decide_eq_true bA;obtain ⟨ad197,e197,hx197_0⟩:=Kd.at_int HR0_25.out x3_2 p197 q197;cases e197;replace hx197_0:=hC HB hx197_0;replace p197:=eq_true p197;replace q197:=eq_true q197
          go_wp2_with (first|((with_reducible refine gLd rfl rfl (by assumption) ?_);refine ldV ?_)|((with_reducible refine gSt rfl (by assumption) ?_);refine stV ?_)|((with_reducible refine gT 73 rfl ?_);refine gC (some 73) Try.func55 (spec_l6In.calls A39.out) ?_;rintro e w' ⟨rfl,⟨nd,rfl⟩⟩;refine ⟨_,rfl,?_⟩))
          go_roundg k2
          case measure=>have:=HJ16.out;have:=HK2.out;omega
          case rel=>exact ⟨(wrap64 (x3_2+1)),bZ,H',⟨by have:=HJ16.out;have:=HK2.out;omega⟩,⟨pK BK192.out⟩,⟨pS HB.out⟩⟩
         ·replace c40:=Bool.eq_false_iff.mpr c40;subst c40
          rw [if_neg nFT] at H
          obtain rfl:=Option.some.inj H;have hcz42_0:=fun i_=>blk_cell BK192.out i_;have hfz42_0:=fun i_=>blk_frozen BK192.out i_;have p197:0≤(x3_2:Int):=of_decide_eq_true bA;have q197:x3_2<(l0_25.length:Int):=of_decide_eq_true bA;obtain ⟨ad197,e197,hx197_0⟩:=Kd.at_int HR0_25.out x3_2 p197 q197;cases e197;replace hx197_0:=hC HB hx197_0;replace p197:=eq_true p197;replace q197:=eq_true q197
          go_wp2_with (first|((with_reducible refine gLd rfl rfl (by assumption) ?_);refine ldV ?_)|((with_reducible refine gSt rfl (by assumption) ?_);refine stV ?_)|((with_reducible refine gT 73 rfl ?_);refine gC (some 73) Try.func55 (spec_l6In.calls A39.out) ?_;rintro e w' ⟨rfl,⟨nd,rfl⟩⟩;refine ⟨_,rfl,?_⟩))
          go_ret
          exact rZ (pS HB.out)
        ·rw [if_neg c38] at H
         exact absurd H (by simp)
       ·rw [if_neg c37] at H;have c37b0:decide (x3_2<(l0_25.length:Int))=false:=decide_eq_false c37;clear c37
        by_cases c43:(a0_13 == 0 && (a0_14 == 0 && ((a0_15 == 0 && (a0_16 == 0 && (a0_17 == 0 && (a0_18 == 0 && (a0_19 == 0 && (a0_20 == 0 && (a0_21 == 0 && (a0_22 == 0 && (a0_23 == 0 && (a0_24 == 0)))))))))))))=true
        ·rw [if_pos c43] at H;have c43b0:(a0_13 == 0 && (a0_14 == 0 && ((a0_15 == 0 && (a0_16 == 0 && (a0_17 == 0 && (a0_18 == 0 && (a0_19 == 0 && (a0_20 == 0 && (a0_21 == 0 && (a0_22 == 0 && (a0_23 == 0 && (a0_24 == 0)))))))))))))=true:=c43
         (try (have c43b1:decide (a0_13=0 && (a0_14 == 0 && ((a0_15 == 0 && (a0_16 == 0 && (a0_17 == 0 && (a0_18 == 0 && (a0_19 == 0 && (a0_20 == 0 && (a0_21 == 0 && (a0_22 == 0 && (a0_23 == 0 && (a0_24 == 0)))))))))))))=true:=by simpa using c43))
         (try (have c43b2:(a0_13 == 0 && (a0_14 == 0 && ((a0_15 == 0 && (a0_16 == 0 && (a0_17 == 0 && (a0_18 == 0 && (a0_19 == 0 && (a0_20 == 0 && (a0_21 == 0 && (a0_22 == 0 && (a0_23 == 0 && (a0_24 == 0)))))))))))))=true:=by simpa using c43))
         clear c43;obtain rfl:=Option.some.inj H;have hcz44_0:=fun i_=>blk_cell BK192.out i_;have hfz44_0:=fun i_=>blk_frozen BK192.out i_
         go_wp2_with (first|((with_reducible refine gLd rfl rfl (by assumption) ?_);refine ldV ?_)|((with_reducible refine gSt rfl (by assumption) ?_);refine stV ?_))
         go_ret
         exact rZ (pS HB.out)
        ·rw [if_neg c43] at H
         have c43b0:(a0_13 == 0 && (a0_14 == 0 && ((a0_15 == 0 && (a0_16 == 0 && (a0_17 == 0 && (a0_18 == 0 && (a0_19 == 0 && (a0_20 == 0 && (a0_21 == 0 && (a0_22 == 0 && (a0_23 == 0 && (a0_24 == 0)))))))))))))=false:=by simpa using c43
         (try (have c43b1:decide (a0_13=0 && (a0_14 == 0 && ((a0_15 == 0 && (a0_16 == 0 && (a0_17 == 0 && (a0_18 == 0 && (a0_19 == 0 && (a0_20 == 0 && (a0_21 == 0 && (a0_22 == 0 && (a0_23 == 0 && (a0_24 == 0)))))))))))))=false:=by simpa using c43))
         (try (have c43b2:(a0_13 == 0 && (a0_14 == 0 && ((a0_15 == 0 && (a0_16 == 0 && (a0_17 == 0 && (a0_18 == 0 && (a0_19 == 0 && (a0_20 == 0 && (a0_21 == 0 && (a0_22 == 0 && (a0_23 == 0 && (a0_24 == 0)))))))))))))=false:=by simpa using c43))
         (try (have c43b3:¬ (a0_13=0 && (a0_14 == 0 && ((a0_15 == 0 && (a0_16 == 0 && (a0_17 == 0 && (a0_18 == 0 && (a0_19 == 0 && (a0_20 == 0 && (a0_21 == 0 && (a0_22 == 0 && (a0_23 == 0 && (a0_24 == 0))))))))))))):=by simpa using c43))
         clear c43;obtain ⟨t199,A45,H⟩:=bI H;(try dsimp only at H)
         by_cases c46:t199=true
         ·subst c46;rw [if_pos rfl] at H
          by_cases c47:a0_13=a0_0
          ·rw [if_pos c47] at H;obtain ⟨c47b0,c47b1⟩:=eqB c47;clear c47;obtain rfl:=Option.some.inj H;have hcz48_0:=fun i_=>blk_cell BK192.out i_;have hfz48_0:=fun i_=>blk_frozen BK192.out i_
           go_wp2_with (first|((with_reducible refine gLd rfl rfl (by assumption) ?_);refine ldV ?_)|((with_reducible refine gSt rfl (by assumption) ?_);refine stV ?_)|(go_at_call 58;(with_reducible refine (spec_l21PaperOk.calls A45.out).mono ?_);rintro e w49 ⟨rfl,hb⟩;replace BK192:=bK BK192 hb;replace HB:=spS HB hb;(try clear hb);have hcz50_0:=fun i_=>blk_cell BK192.out i_;have hfz50_0:=fun i_=>blk_frozen BK192.out i_))
           go_ret
           exact rZ (pS HB.out)
          ·rw [if_neg c47] at H;have c47b0:(a0_13 == a0_0)=false:=beq_eq_false_iff_ne.mpr c47;have c47b1:(a0_13 != a0_0)=true:=bne_iff_ne.mpr c47;obtain rfl:=Option.some.inj H;have hcz51_0:=fun i_=>blk_cell BK192.out i_;have hfz51_0:=fun i_=>blk_frozen BK192.out i_
           go_wp2_with (first|((with_reducible refine gLd rfl rfl (by assumption) ?_);refine ldV ?_)|((with_reducible refine gSt rfl (by assumption) ?_);refine stV ?_)|(go_at_call 58;(with_reducible refine (spec_l21PaperOk.calls A45.out).mono ?_);rintro e w52 ⟨rfl,hb⟩;replace BK192:=bK BK192 hb;replace HB:=spS HB hb;(try clear hb);have hcz53_0:=fun i_=>blk_cell BK192.out i_;have hfz53_0:=fun i_=>blk_frozen BK192.out i_))
           go_ret
           exact rZ (pS HB.out)
         ·replace c46:=Bool.eq_false_iff.mpr c46;subst c46
          rw [if_neg nFT] at H
          obtain rfl:=Option.some.inj H;have hcz54_0:=fun i_=>blk_cell BK192.out i_;have hfz54_0:=fun i_=>blk_frozen BK192.out i_
          go_wp2_with (first|((with_reducible refine gLd rfl rfl (by assumption) ?_);refine ldV ?_)|((with_reducible refine gSt rfl (by assumption) ?_);refine stV ?_)|(go_at_call 58;(with_reducible refine (spec_l21PaperOk.calls A45.out).mono ?_);rintro e w55 ⟨rfl,hb⟩;replace BK192:=bK BK192 hb;replace HB:=spS HB hb;(try clear hb)))
          go_ret
          exact rZ (pS HB.out)

/-! ### spec_l11Nums: function 97 -/
def spec_l11Nums.f (a0_0 a0_1 a0_2 a0_3 a0_4 a0_5 a0_6 a0_7 a0_8 a0_9 a0_10 a0_11 a0_12 a0_13 a0_14 a0_15 a0_16 a0_17 a0_18 a0_19 a0_20 a0_21 a0_22 a0_23 : Int) (l0_24 : List (S164)) (l0_25 : List (S166)) : Option (List Int) := some (([a0_0, a0_1, a0_2, a0_3, a0_4, a0_5, a0_6, a0_7, a0_8, a0_9, a0_10, a0_11, a0_12, a0_13, a0_14, a0_15, a0_16, a0_17, a0_18, a0_19, a0_20, a0_21, a0_22, a0_23] : List Int))
set_option maxHeartbeats 8000000 in
set_option maxRecDepth 100000 in
theorem spec_l11Nums.calls {a0_0 a0_1 a0_2 a0_3 a0_4 a0_5 a0_6 a0_7 a0_8 a0_9 a0_10 a0_11 a0_12 a0_13 a0_14 a0_15 a0_16 a0_17 a0_18 a0_19 a0_20 a0_21 a0_22 a0_23 : Int} {A0_24 : Option Addr} {c0_24 : Nat} {l0_24 : List (S164)} {A0_25 : Option Addr} {c0_25 : Nat} {l0_25 : List (S166)} {r : List Int} {w : World} (hr0_24 : Kd.C k164 w A0_24 l0_24.length l0_24) (hc0_24 : l0_24.length ≤ c0_24) (hr0_25 : Kd.C k166 w A0_25 l0_25.length l0_25) (hc0_25 : l0_25.length ≤ c0_25) (h : spec_l11Nums.f a0_0 a0_1 a0_2 a0_3 a0_4 a0_5 a0_6 a0_7 a0_8 a0_9 a0_10 a0_11 a0_12 a0_13 a0_14 a0_15 a0_16 a0_17 a0_18 a0_19 a0_20 a0_21 a0_22 a0_23 l0_24 l0_25 = some r) :
  Calls Try.prog 97 #[.agg #[.int .i64 a0_0,.int .i64 a0_1,.int .i64 a0_2,.int .i64 a0_3,.int .i64 a0_4,.int .i64 a0_5,.int .i64 a0_6,.int .i64 a0_7,.int .i64 a0_8,.int .i64 a0_9,.int .i64 a0_10,.int .i64 a0_11,.int .i64 a0_12,.int .i64 a0_13,.int .i64 a0_14,.int .i64 a0_15,.int .i64 a0_16,.int .i64 a0_17,.int .i64 a0_18,.int .i64 a0_19,.int .i64 a0_20,.int .i64 a0_21,.int .i64 a0_22,.int .i64 a0_23,.slice A0_24 l0_24.length c0_24,.slice A0_25 l0_25.length c0_25]] w fun e w'=>∃ v0_:Value,e=.returned (v0_)∧Kd.R (Kd.int .i64) 3 w' w.heap.size (fun _=>True) v0_ r∧Below w.heap.size w w':=by
 have hu93:=Try.underlying93;have hu44:=Try.underlying44;have HR0_24:=mA hr0_24;have HC0_24:=mA hc0_24;clear hr0_24 hc0_24;have HR0_25:=mA hr0_25;have HC0_25:=mA hc0_25;clear hr0_25 hc0_25;have HB:=mA (Below.refl w.heap.size w);have H:(some (([a0_0,a0_1,a0_2,a0_3,a0_4,a0_5,a0_6,a0_7,a0_8,a0_9,a0_10,a0_11,a0_12,a0_13,a0_14,a0_15,a0_16,a0_17,a0_18,a0_19,a0_20,a0_21,a0_22,a0_23]:List Int)))=some r:=h;clear h;obtain ⟨y202,hy202⟩:∃ y_:List Int,y_=(([a0_0,a0_1,a0_2,a0_3,a0_4,a0_5,a0_6,a0_7,a0_8,a0_9,a0_10,a0_11,a0_12,a0_13,a0_14,a0_15,a0_16,a0_17,a0_18,a0_19,a0_20,a0_21,a0_22,a0_23]:List Int)):=⟨_,rfl⟩
 replace H:(some y202)=some r:=qH hy202 H
 have Ny202:=mA hy202;clear hy202;obtain rfl:=Option.some.inj H
 go_enter Try.func97,Try.ntmps97
 go_wp2_with (first|((with_reducible refine gLg rfl (by assumption) ?_);refine ldV ?_)|((with_reducible refine gSt rfl (by assumption) ?_);refine stV ?_)|((with_reducible refine gT 1 rfl ?_);refine bX 1 ?_;intro gb200 hg w2 hbox hb;have BK200:=mA hbox;have GW200:=gbpB HB hg;have GE200:=gbpB HB hg;replace HB:=spB HB hb;clear hb hbox hg;have hcz3_0:=fun i_=>blk_cell BK200.out i_;have hfz3_0:=fun i_=>blk_frozen BK200.out i_)|((with_reducible refine gT 3 rfl ?_);refine bJ 3 y44 ?_;intro gb201 hg w4 hbox hb;have BK201:=mA hbox;have GW201:=gbpS HB hg;have GE201:=gbpS HB hg;replace HB:=spS HB hb;have NB200_201:=mA (lN (blk_lt (pK BK200.out)) hg);have hN200_201:=NB200_201.out;have NB201_200:=nS NB200_201;have hN201_200:=NB201_200.out;replace BK200:=bK BK200 hb;clear hb hbox hg;have hcz6_0:=fun i_=>blk_cell BK201.out i_;have hfz6_0:=fun i_=>blk_frozen BK201.out i_;have hcz7_0:=fun i_=>blk_cell BK200.out i_;have hfz7_0:=fun i_=>blk_frozen BK200.out i_)|((with_reducible refine gT 54 rfl ?_);refine Kd.R_lit (Kd.int .i64) _ 3 ?hg (N:=54) ?hd (xs:=([a0_0,a0_1,a0_2,a0_3,a0_4,a0_5,a0_6,a0_7,a0_8,a0_9,a0_10,a0_11,a0_12,a0_13,a0_14,a0_15,a0_16,a0_17,a0_18,a0_19,a0_20,a0_21,a0_22,a0_23]:List Int)) (inner:=[.int .i64 a0_0,.int .i64 a0_1,.int .i64 a0_2,.int .i64 a0_3,.int .i64 a0_4,.int .i64 a0_5,.int .i64 a0_6,.int .i64 a0_7,.int .i64 a0_8,.int .i64 a0_9,.int .i64 a0_10,.int .i64 a0_11,.int .i64 a0_12,.int .i64 a0_13,.int .i64 a0_14,.int .i64 a0_15,.int .i64 a0_16,.int .i64 a0_17,.int .i64 a0_18,.int .i64 a0_19,.int .i64 a0_20,.int .i64 a0_21,.int .i64 a0_22,.int .i64 a0_23]) (ok:=fun _=>True) (okp:=fun _=>True) ?hr ?hp (fun _ hk=>hk) trivial (Below.refl _ _) (Nat.le_refl _) (by simp) ?_;(case hd=>rfl);(case hg=>rfl);(case hr=>first|(go_simp;done)|(go_simp;rfl));(case hp=>exact (Reps.one (show Kd.M (Kd.int .i64) _ _ _ a0_0 [.int .i64 a0_0] from rfl) (Reps.one (show Kd.M (Kd.int .i64) _ _ _ a0_1 [.int .i64 a0_1] from rfl) (Reps.one (show Kd.M (Kd.int .i64) _ _ _ a0_2 [.int .i64 a0_2] from rfl) (Reps.one (show Kd.M (Kd.int .i64) _ _ _ a0_3 [.int .i64 a0_3] from rfl) (Reps.one (show Kd.M (Kd.int .i64) _ _ _ a0_4 [.int .i64 a0_4] from rfl) (Reps.one (show Kd.M (Kd.int .i64) _ _ _ a0_5 [.int .i64 a0_5] from rfl) (Reps.one (show Kd.M (Kd.int .i64) _ _ _ a0_6 [.int .i64 a0_6] from rfl) (Reps.one (show Kd.M (Kd.int .i64) _ _ _ a0_7 [.int .i64 a0_7] from rfl) (Reps.one (show Kd.M (Kd.int .i64) _ _ _ a0_8 [.int .i64 a0_8] from rfl) (Reps.one (show Kd.M (Kd.int .i64) _ _ _ a0_9 [.int .i64 a0_9] from rfl) (Reps.one (show Kd.M (Kd.int .i64) _ _ _ a0_10 [.int .i64 a0_10] from rfl) (Reps.one (show Kd.M (Kd.int .i64) _ _ _ a0_11 [.int .i64 a0_11] from rfl) (Reps.one (show Kd.M (Kd.int .i64) _ _ _ a0_12 [.int .i64 a0_12] from rfl) (Reps.one (show Kd.M (Kd.int .i64) _ _ _ a0_13 [.int .i64 a0_13] from rfl) (Reps.one (show Kd.M (Kd.int .i64) _ _ _ a0_14 [.int .i64 a0_14] from rfl) (Reps.one (show Kd.M (Kd.int .i64) _ _ _ a0_15 [.int .i64 a0_15] from rfl) (Reps.one (show Kd.M (Kd.int .i64) _ _ _ a0_16 [.int .i64 a0_16] from rfl) (Reps.one (show Kd.M (Kd.int .i64) _ _ _ a0_17 [.int .i64 a0_17] from rfl) (Reps.one (show Kd.M (Kd.int .i64) _ _ _ a0_18 [.int .i64 a0_18] from rfl) (Reps.one (show Kd.M (Kd.int .i64) _ _ _ a0_19 [.int .i64 a0_19] from rfl) (Reps.one (show Kd.M (Kd.int .i64) _ _ _ a0_20 [.int .i64 a0_20] from rfl) (Reps.one (show Kd.M (Kd.int .i64) _ _ _ a0_21 [.int .i64 a0_21] from rfl) (Reps.one (show Kd.M (Kd.int .i64) _ _ _ a0_22 [.int .i64 a0_22] from rfl) (Reps.one (show Kd.M (Kd.int .i64) _ _ _ a0_23 [.int .i64 a0_23] from rfl) (Reps.none _ _))))))))))))))))))))))))));intro v203 w8 ho9 hb hg_ hnew_;clear hg_ hnew_;(first|rw [← Ny202.out] at ho9|(simp only [Int.reduceToNat] at ho9;rw [← Ny202.out] at ho9));have HO204:=mA (Kd.R_lower ho9 (bpS HB));replace BK200:=bF BK200 hb;replace BK201:=mA (blk_below (g:=gb201) (o:=.cells #[.int .i64 a0_6,.int .i64 a0_7,.int .i64 a0_8,.int .i64 a0_9,.int .i64 a0_10,.int .i64 a0_11,.int .i64 a0_12,.int .i64 a0_13,.int .i64 a0_14,.int .i64 a0_15] 44 (0,0)) (pP BK201) hb);replace HB:=spS HB hb;clear hb ho9))
 go_ret
 exact ⟨_,by first|rfl|(simp [errW_none,errW_some]<;>rfl)|(simp [*,errW_none,errW_some]<;>rfl),pR HO204.out,pS HB.out⟩

/-! ### spec_l11Place: function 99 -/
def spec_l11Place.f (a0 : Int) : Option (Bool) := (spec_l6In.f a0 0 4).bind fun t205 => (if t205 = true then (some true) else ((spec_l6In.f a0 100 103).bind fun t206 => (some t206)))
set_option maxHeartbeats 8000000 in
set_option maxRecDepth 100000 in
theorem spec_l11Place.calls {a0 : Int} {r : Bool} {w : World} (h : spec_l11Place.f a0 = some r) :
  Calls Try.prog 99 #[.int .i64 a0] w fun e w'=>e=.returned (.bool r)∧Drawn0 w w':=by
 have H:((spec_l6In.f a0 0 4).bind fun t205=>(if t205=true then (some true) else ((spec_l6In.f a0 100 103).bind fun t206=>(some t206))))=some r:=h;clear h;obtain ⟨t205,A2,H⟩:=bI H;(try dsimp only at H)
 by_cases c3:t205=true
 ·subst c3;rw [if_pos rfl] at H;obtain rfl:=Option.some.inj H
  go_enter Try.func99,Try.ntmps99
  go_wp2_with (first|((with_reducible refine gT 4 rfl ?_);refine gC (some 4) Try.func55 (spec_l6In.calls A2.out) ?_;rintro e w' ⟨rfl,⟨nd,rfl⟩⟩;refine ⟨_,rfl,?_⟩))
  go_ret
  exact ⟨by first|rfl|(simp;done)|(simp [*];done),by repeat (first|exact Drawn0.refl _|apply Drawn0.step)⟩
 ·replace c3:=Bool.eq_false_iff.mpr c3;subst c3
  rw [if_neg nFT] at H
  obtain ⟨t206,A4,H⟩:=bI H;(try dsimp only at H);obtain rfl:=Option.some.inj H
  go_enter Try.func99,Try.ntmps99
  go_wp2_with (first|((with_reducible refine gT 4 rfl ?_);refine gC (some 4) Try.func55 (spec_l6In.calls A2.out) ?_;rintro e w' ⟨rfl,⟨nd,rfl⟩⟩;refine ⟨_,rfl,?_⟩)|(go_at_call 55;(with_reducible refine (spec_l6In.calls A4.out).mono ?_);rintro e w' ⟨rfl,⟨nd,rfl⟩⟩))
  go_ret
  exact ⟨by first|rfl|(simp;done)|(simp [*];done),by repeat (first|exact Drawn0.refl _|apply Drawn0.step)⟩

/-! ### spec_l3Before: function 136 -/
def spec_l3Before.f (a0_0 a0_1 a0_2 a0_3 a1 a2 a3 : Int) : Option (Bool) := if a0_0 = a1 then (if a0_1 = a2 then (some (decide (a0_2 < a3))) else (some (decide (a0_1 < a2)))) else (some (decide (a0_0 < a1)))
set_option maxHeartbeats 8000000 in
set_option maxRecDepth 100000 in
theorem spec_l3Before.calls {a0_0 a0_1 a0_2 a0_3 a1 a2 a3 : Int} {r : Bool} {w : World} (h : spec_l3Before.f a0_0 a0_1 a0_2 a0_3 a1 a2 a3 = some r) :
  Calls Try.prog 136 #[.agg #[.int .i64 a0_0,.int .i64 a0_1,.int .i64 a0_2,.int .i64 a0_3],.int .i64 a1,.int .i64 a2,.int .i64 a3] w fun e w'=>e=.returned (.bool r)∧Below w.heap.size w w':=by
 have hu164:=Try.underlying164;have HB:=mA (Below.refl w.heap.size w);have H:(if a0_0=a1 then (if a0_1=a2 then (some (decide (a0_2<a3))) else (some (decide (a0_1<a2)))) else (some (decide (a0_0<a1))))=some r:=h;clear h
 by_cases c5:a0_0=a1
 ·rw [if_pos c5] at H;obtain ⟨c5b0,c5b1⟩:=eqB c5;clear c5
  by_cases c6:a0_1=a2
  ·rw [if_pos c6] at H;obtain ⟨c6b0,c6b1⟩:=eqB c6;clear c6;obtain rfl:=Option.some.inj H
   go_enter Try.func136,Try.ntmps136
   go_wp2_with (first|((with_reducible refine gT 4 rfl ?_);refine bX 4 ?_;intro gb207 hg w7 hbox hb;have BK207:=mA hbox;have GW207:=gbpB HB hg;have GE207:=gbpB HB hg;replace HB:=spB HB hb;clear hb hbox hg;obtain ⟨hcz8_0,hcz8_1,hcz8_2,hcz8_3,hfz8_0,hfz8_1,hfz8_2,hfz8_3⟩:=box4 BK207.out))
   go_ret
   exact rZ (pS HB.out)
  ·rw [if_neg c6] at H;have c6b0:(a0_1 == a2)=false:=beq_eq_false_iff_ne.mpr c6;have c6b1:(a0_1 != a2)=true:=bne_iff_ne.mpr c6;obtain rfl:=Option.some.inj H
   go_enter Try.func136,Try.ntmps136
   go_wp2_with (first|((with_reducible refine gT 4 rfl ?_);refine bX 4 ?_;intro gb207 hg w9 hbox hb;have BK207:=mA hbox;have GW207:=gbpB HB hg;have GE207:=gbpB HB hg;replace HB:=spB HB hb;clear hb hbox hg;obtain ⟨hcz10_0,hcz10_1,hcz10_2,hcz10_3,hfz10_0,hfz10_1,hfz10_2,hfz10_3⟩:=box4 BK207.out))
   go_ret
   exact rZ (pS HB.out)
 ·rw [if_neg c5] at H;have c5b0:(a0_0 == a1)=false:=beq_eq_false_iff_ne.mpr c5;have c5b1:(a0_0 != a1)=true:=bne_iff_ne.mpr c5;obtain rfl:=Option.some.inj H
  go_enter Try.func136,Try.ntmps136
  go_wp2_with (first|((with_reducible refine gT 4 rfl ?_);refine bX 4 ?_;intro gb207 hg w11 hbox hb;have BK207:=mA hbox;have GW207:=gbpB HB hg;have GE207:=gbpB HB hg;replace HB:=spB HB hb;clear hb hbox hg;obtain ⟨hcz12_0,hcz12_1,hcz12_2,hcz12_3,hfz12_0,hfz12_1,hfz12_2,hfz12_3⟩:=box4 BK207.out))
  go_ret
  exact rZ (pS HB.out)

end Go.Proofs.Ytncohokalilnbaa.P
