-- printed by pprint.py (this session's program over the kit's printer) out of the translation. Lean checks it.
import Derived.Test.YtoieojmfkkidnaaPx0
import Derived.Test.YtoieojmfkkidnaaPx10
import Derived.Test.YtoieojmfkkidnaaPx11
namespace Go.Proofs.Ytoieojmfkkidnaa.P
open Go.RowKit Go.Proofs.YtoieojmfkkidnaaX Go.Proofs.YtoieojmfkkidnaaW.PrintWords Go.Proofs.YtoieojmfkkidnaaW.PrintLast Go.Proofs.YtoieojmfkkidnaaW.PrintMore
attribute [local go_sem] max2_int min2_int max_two min_two max_three min_three max_four min_four   -- for this text's walks alone
set_option linter.unusedVariables false
set_option linter.unusedSimpArgs false
/-! ### spec_l3LastOk: function 71 -/
def spec_l3LastOk.l0 : Nat → List (S140) → Int → Option (Bool)
 | 0,_,_=>none
 | k+1,x0,x3=>if x3<(x0.length:Int) then (if 0≤x3 then ((spec_l6In.f ((rd_T140 x0 x3).f0) 0 3).bind fun t337=>(if t337=true then ((spec_l6In.f ((rd_T140 x0 x3).f1) 1 99999).bind fun t339=>(if t339=true then (if x3 > 0 then (if 0≤(wrap64 (x3 - 1)) then (if (wrap64 (x3 - 1))<(x0.length:Int) then (if ((rd_T140 x0 (wrap64 (x3 - 1))).f0) ≥ ((rd_T140 x0 x3).f0) then (some false) else (spec_l3LastOk.l0 k x0 (wrap64 (x3+1)))) else (none)) else (none)) else (spec_l3LastOk.l0 k x0 (wrap64 (x3+1)))) else (some false))) else (some false))) else (none)) else (some true)
def spec_l3LastOk.f (k : Nat) (l0 : List (S140)) : Option (Bool) := if (l0.length : Int) > 4 then (some false) else (spec_l3LastOk.l0 k l0 0)
def spec_l3LastOk.T6 : Bool × List (List Nat × List Nat) := (true, [([], []), ([], []), ([0, 1], [0, 1]), ([2], [2]), ([3], [3]), ([4], [4]), ([5], [5]), ([6, 5], [6]), ([7], [7]), ([7], [7]), ([8, 9, 7], [7, 8, 9]), ([10, 7], [7, 10]), ([11, 7], [7, 11]), ([12, 7, 7], [7, 12]), ([13, 7], [7, 13]), ([7, 14], [7, 14]), ([15, 13], [15]), ([16], [16]), ([17, 16], [16, 17]), ([18, 16, 16], [16, 18]), ([19], [19]), ([19], [19]), ([21, 19], [19, 21]), ([20, 22, 19], [19, 20, 22]), ([23, 19], [19, 23]), ([24, 19], [19, 24]), ([19], [19]), ([19], [19]), ([26, 27, 19], [19, 26, 27]), ([28, 19], [19, 28]), ([29, 19], [19, 29]), ([25, 30, 19], [19, 25, 30]), ([19, 31, 16], [16, 19, 31]), ([16, 32], [16, 32])])
def spec_l3LastOk.B6 : List Nat := [0, 0, 3, 7, 15, 31, 63, 127, 255, 255, 1023, 2047, 4095, 8191, 16383, 32767, 65535, 131071, 262143, 524287, 1048575, 1048575, 3145727, 8388607, 16777215, 33554431, 1048575, 1048575, 202375167, 470810623, 1007681535, 2147483647, 4294967295, 8589934591]
theorem spec_l3LastOk.tab6 : rtab .any (opsOf Try.f71 6) = spec_l3LastOk.T6 := by kernel_rfl
theorem spec_l3LastOk.bits6 : waitsOk spec_l3LastOk.T6.2 spec_l3LastOk.B6 = true := by kernel_rfl
set_option maxHeartbeats 8000000 in
set_option maxRecDepth 100000 in
theorem spec_l3LastOk.calls {k : Nat} {A0 : Option Addr} {c0 : Nat} {l0 : List (S140)} {r : Bool} {w : World} (hr0 : Kd.C k140 w A0 l0.length l0) (hc0 : l0.length ≤ c0) (h : spec_l3LastOk.f k l0 = some r) :
  Calls Try.prog 71 #[.slice A0 l0.length c0] w fun e w'=>e=.returned (.bool r)∧Below w.heap.size w w':=by
 have HR0:=mA hr0;have HC0:=mA hc0;clear hr0 hc0;have HB:=mA (Below.refl w.heap.size w);have H:(if (l0.length:Int) > 4 then (some false) else (spec_l3LastOk.l0 k l0 0))=some r:=h;clear h
 by_cases c2:(l0.length:Int) > 4
 ·rw [if_pos c2] at H;have c2b0:decide (4<(l0.length:Int))=true:=decide_eq_true c2
  have c2b1:decide (4<l0.length)=true:=decide_eq_true (by omega)
  clear c2;obtain rfl:=Option.some.inj H
  go_enter Try.func71,Try.ntmps71
  go_wp2
  go_ret
  exact rZ (pB HB.out)
 ·rw [if_neg c2] at H;have c2b0:decide (4<(l0.length:Int))=false:=decide_eq_false c2
  have c2b1:decide (4<l0.length)=false:=decide_eq_false (by omega)
  clear c2;have H':=mA H;clear H
  go_enter Try.func71,Try.ntmps71
  go_wp2
  go_loopg [3] k (fun kq v3 w'=>∃ (x3_1:Int),v3=.int .i64 x3_1∧Aside0 (spec_l3LastOk.l0 kq l0 x3_1=some r)∧Aside0 (kq≤k)∧Aside0 (Below w.heap.size w w'))
  case atStart=>exact ⟨(0),bZ,H',⟨Nat.le_refl _⟩,⟨pB HB.out⟩⟩
  case round =>
   clear H'
   (try clear c2);(try clear c2b0);(try clear c2b1)
   obtain ⟨x3_1,rfl,HA,HK1,HB⟩:=hrel
   cases gk with
   | zero=>exact absurd HA.out (by simp [spec_l3LastOk.l0])
   | succ k1 =>
    have H:=HA.out;clear HA;simp only [spec_l3LastOk.l0] at H
    by_cases c3:x3_1<(l0.length:Int)
    ·rw [if_pos c3] at H;have c3b0:decide (x3_1<(l0.length:Int))=true:=decide_eq_true c3;clear c3
     by_cases c4:0≤x3_1
     ·rw [if_pos c4] at H;have c4b0:decide (0≤x3_1)=true:=decide_eq_true c4;clear c4;obtain ⟨t337,A5,H⟩:=bI H;(try dsimp only at H)
      by_cases c6:t337=true
      ·subst c6;rw [if_pos rfl] at H;obtain ⟨t339,A7,H⟩:=bI H;(try dsimp only at H)
       by_cases c8:t339=true
       ·subst c8;rw [if_pos rfl] at H
        by_cases c9:x3_1 > 0
        ·rw [if_pos c9] at H;have c9b0:decide (0<x3_1)=true:=decide_eq_true c9;clear c9;obtain ⟨ji10,hji10⟩:∃ j_:Int,(wrap64 (x3_1 - 1))=j_:=⟨_,rfl⟩
         replace H:(if 0≤(ji10) then (if (ji10)<(l0.length:Int) then (if ((rd_T140 l0 (ji10)).f0) ≥ ((rd_T140 l0 x3_1).f0) then (some false) else (spec_l3LastOk.l0 k1 l0 (wrap64 (x3_1+1)))) else (none)) else (none))=some r:=by first|(rw [hji10] at H;exact H)|(simp only [hji10] at H ⊢;exact H)
         (try rw [hji10] at A5)
         (try rw [hji10] at A7)
         have hji10w:(IntKind.i64.wrap (x3_1 - 1))=ji10:=(i64_w _).trans hji10
         by_cases c11:0≤(ji10)
         ·rw [if_pos c11] at H;have c11b0:decide (0≤(ji10))=true:=decide_eq_true c11;clear c11
          by_cases c12:(ji10)<(l0.length:Int)
          ·rw [if_pos c12] at H;have c12b0:decide ((ji10)<(l0.length:Int))=true:=decide_eq_true c12;clear c12
           by_cases c13:((rd_T140 l0 (ji10)).f0) ≥ ((rd_T140 l0 x3_1).f0)
           ·rw [if_pos c13] at H;have c13b0:decide (((rd_T140 l0 x3_1).f0)≤((rd_T140 l0 (ji10)).f0))=true:=decide_eq_true c13;clear c13;obtain rfl:=Option.some.inj H
            try go_wp2
            replace HB:=mA (below_drew1 HB.out);have p336:0≤(x3_1:Int):=of_decide_eq_true bA;have q336:x3_1<(l0.length:Int):=of_decide_eq_true bA;obtain ⟨ad336,e336,hs336⟩:=at_R140 HR0.out x3_1 p336 q336;cases e336;replace p336:=eq_true p336;replace q336:=eq_true q336;have p338:0≤(x3_1:Int):=of_decide_eq_true bA;have q338:x3_1<(l0.length:Int):=of_decide_eq_true bA;obtain ⟨ad338,e338,hs338⟩:=at_R140 HR0.out x3_1 p338 q338
            obtain rfl:ad336=ad338:=(by injection e338)
            replace p338:=eq_true p338;replace q338:=eq_true q338;have p340:0≤((ji10):Int):=of_decide_eq_true bA;have q340:(ji10)<(l0.length:Int):=of_decide_eq_true bA;obtain ⟨ad340,e340,hs340⟩:=at_R140 HR0.out (ji10) p340 q340
            obtain rfl:ad336=ad340:=(by injection e340)
            replace p340:=eq_true p340;replace q340:=eq_true q340;have p341:0≤(x3_1:Int):=of_decide_eq_true bA;have q341:x3_1<(l0.length:Int):=of_decide_eq_true bA;obtain ⟨ad341,e341,hs341⟩:=at_R140 HR0.out x3_1 p341 q341
            obtain rfl:ad336=ad341:=(by injection e341)
            replace p341:=eq_true p341;replace q341:=eq_true q341
            refine start_ (n:=34) (S:=fun w'=>RS w' (ad336.add ((x3_1).toNat * 2)) (d140 (rd_T140 l0 x3_1))∧RS w' (ad336.add ((x3_1).toNat * 2)) (d140 (rd_T140 l0 x3_1))∧RS w' (ad336.add (((ji10)).toNat * 2)) (d140 (rd_T140 l0 (ji10)))∧RS w' (ad336.add ((x3_1).toNat * 2)) (d140 (rd_T140 l0 x3_1))) (ds:=[]) _ aK rfl rfl ⟨rS HB hs336,rS HB hs338,rS HB hs340,rS HB hs341⟩ (fun hHeld=>?_);refine with_tabW spec_l3LastOk.tab6 spec_l3LastOk.bits6 (fun HT_ HW_=>?_)
            generalize wr.drew=w14 at HB hHeld ⊢
            refine qu 0 ?_;refine qu 1 ?_;refine qu 2 ?_;refine qu 3 ?_;refine qt 4 ?_
            refine qo 5 ?_;intro K hK
            refine gD Try.func67 (spec_l6In.calls A5.out) ?_
            rintro e w' ⟨rfl,⟨nd,rfl⟩⟩;refine ⟨_,rfl,?_⟩;refine hK.out _ _ ⟨rS HB hs336,rS HB hs338,rS HB hs340,rS HB hs341⟩ (fun hHeld=>?_);clear hK K;refine no_ (some 18) ?_;refine qu 6 ?_;refine qu 7 ?_;refine qu 8 ?_;refine qu 9 ?_;refine qu 10 ?_;refine qu 11 ?_;refine qt 12 ?_
            refine qo 13 ?_;intro K hK
            refine gD Try.func67 (spec_l6In.calls A7.out) ?_
            rintro e w' ⟨rfl,⟨nd,rfl⟩⟩;refine ⟨_,rfl,?_⟩;refine hK.out _ _ ⟨rS HB hs336,rS HB hs338,rS HB hs340,rS HB hs341⟩ (fun hHeld=>?_);clear hK K;refine no_ (some 26) ?_;refine qu 14 ?_;refine qu 15 ?_;refine qu 16 ?_;refine qu 17 ?_;refine qu 18 ?_;refine qu 19 ?_;refine qu 20 ?_;refine qu 21 ?_;refine qu 22 ?_;refine qu 23 ?_;refine qu 24 ?_;refine qu 26 ?_;refine qu 27 ?_;refine qu 28 ?_;refine qu 29 ?_;refine qt 25 ?_;refine qt 30 ?_;refine qu 31 ?_;refine qu 32 ?_;refine qu 33 ?_;refine qe ?_
            try go_wp2
            go_ret
            exact ⟨by first|rfl|(simp [errW_none,errW_some]<;>rfl)|(simp only [← hji10];first|rfl|(simp [errW_none,errW_some]<;>rfl))|(simp [*,errW_none,errW_some]<;>rfl),pB HB.out⟩
           ·rw [if_neg c13] at H;have c13b0:decide (((rd_T140 l0 x3_1).f0)≤((rd_T140 l0 (ji10)).f0))=false:=decide_eq_false c13;clear c13;have H':=mA H;clear H
            try go_wp2
            replace HB:=mA (below_drew1 HB.out);have p336:0≤(x3_1:Int):=of_decide_eq_true bA;have q336:x3_1<(l0.length:Int):=of_decide_eq_true bA;obtain ⟨ad336,e336,hs336⟩:=at_R140 HR0.out x3_1 p336 q336;cases e336;replace p336:=eq_true p336;replace q336:=eq_true q336;have p338:0≤(x3_1:Int):=of_decide_eq_true bA;have q338:x3_1<(l0.length:Int):=of_decide_eq_true bA;obtain ⟨ad338,e338,hs338⟩:=at_R140 HR0.out x3_1 p338 q338
            obtain rfl:ad336=ad338:=(by injection e338)
            replace p338:=eq_true p338;replace q338:=eq_true q338;have p340:0≤((ji10):Int):=of_decide_eq_true bA;have q340:(ji10)<(l0.length:Int):=of_decide_eq_true bA;obtain ⟨ad340,e340,hs340⟩:=at_R140 HR0.out (ji10) p340 q340
            obtain rfl:ad336=ad340:=(by injection e340)
            replace p340:=eq_true p340;replace q340:=eq_true q340;have p341:0≤(x3_1:Int):=of_decide_eq_true bA;have q341:x3_1<(l0.length:Int):=of_decide_eq_true bA;obtain ⟨ad341,e341,hs341⟩:=at_R140 HR0.out x3_1 p341 q341
            obtain rfl:ad336=ad341:=(by injection e341)
            replace p341:=eq_true p341;replace q341:=eq_true q341
            refine start_ (n:=34) (S:=fun w'=>RS w' (ad336.add ((x3_1).toNat * 2)) (d140 (rd_T140 l0 x3_1))∧RS w' (ad336.add ((x3_1).toNat * 2)) (d140 (rd_T140 l0 x3_1))∧RS w' (ad336.add (((ji10)).toNat * 2)) (d140 (rd_T140 l0 (ji10)))∧RS w' (ad336.add ((x3_1).toNat * 2)) (d140 (rd_T140 l0 x3_1))) (ds:=[]) _ aK rfl rfl ⟨rS HB hs336,rS HB hs338,rS HB hs340,rS HB hs341⟩ (fun hHeld=>?_);refine with_tabW spec_l3LastOk.tab6 spec_l3LastOk.bits6 (fun HT_ HW_=>?_)
            generalize wr.drew=w15 at HB hHeld ⊢
            refine qu 0 ?_;refine qu 1 ?_;refine qu 2 ?_;refine qu 3 ?_;refine qt 4 ?_
            refine qo 5 ?_;intro K hK
            refine gD Try.func67 (spec_l6In.calls A5.out) ?_
            rintro e w' ⟨rfl,⟨nd,rfl⟩⟩;refine ⟨_,rfl,?_⟩;refine hK.out _ _ ⟨rS HB hs336,rS HB hs338,rS HB hs340,rS HB hs341⟩ (fun hHeld=>?_);clear hK K;refine no_ (some 18) ?_;refine qu 6 ?_;refine qu 7 ?_;refine qu 8 ?_;refine qu 9 ?_;refine qu 10 ?_;refine qu 11 ?_;refine qt 12 ?_
            refine qo 13 ?_;intro K hK
            refine gD Try.func67 (spec_l6In.calls A7.out) ?_
            rintro e w' ⟨rfl,⟨nd,rfl⟩⟩;refine ⟨_,rfl,?_⟩;refine hK.out _ _ ⟨rS HB hs336,rS HB hs338,rS HB hs340,rS HB hs341⟩ (fun hHeld=>?_);clear hK K;refine no_ (some 26) ?_;refine qu 14 ?_;refine qu 15 ?_;refine qu 16 ?_;refine qu 17 ?_;refine qu 18 ?_;refine qu 19 ?_;refine qu 20 ?_;refine qu 21 ?_;refine qu 22 ?_;refine qu 23 ?_;refine qu 24 ?_;refine qu 26 ?_;refine qu 27 ?_;refine qu 28 ?_;refine qu 29 ?_;refine qt 25 ?_;refine qt 30 ?_;refine qu 31 ?_;refine qu 32 ?_;refine qu 33 ?_;refine qe ?_
            try go_wp2
            go_roundg k1
            case measure=>have:=HK1.out;omega
            case rel=>exact ⟨(wrap64 (x3_1+1)),bZ,H',⟨by have:=HK1.out;omega⟩,⟨pB HB.out⟩⟩
          ·rw [if_neg c12] at H
           exact absurd H (by simp)
         ·rw [if_neg c11] at H
          exact absurd H (by simp)
        ·rw [if_neg c9] at H;have c9b0:decide (0<x3_1)=false:=decide_eq_false c9;clear c9;have H':=mA H;clear H
         try go_wp2
         replace HB:=mA (below_drew1 HB.out);have p336:0≤(x3_1:Int):=of_decide_eq_true bA;have q336:x3_1<(l0.length:Int):=of_decide_eq_true bA;obtain ⟨ad336,e336,hs336⟩:=at_R140 HR0.out x3_1 p336 q336;cases e336;replace p336:=eq_true p336;replace q336:=eq_true q336;have p338:0≤(x3_1:Int):=of_decide_eq_true bA;have q338:x3_1<(l0.length:Int):=of_decide_eq_true bA;obtain ⟨ad338,e338,hs338⟩:=at_R140 HR0.out x3_1 p338 q338
         obtain rfl:ad336=ad338:=(by injection e338)
         replace p338:=eq_true p338;replace q338:=eq_true q338
         refine start_ (n:=34) (S:=fun w'=>RS w' (ad336.add ((x3_1).toNat * 2)) (d140 (rd_T140 l0 x3_1))∧RS w' (ad336.add ((x3_1).toNat * 2)) (d140 (rd_T140 l0 x3_1))) (ds:=[]) _ aK rfl rfl ⟨rS HB hs336,rS HB hs338⟩ (fun hHeld=>?_);refine with_tabW spec_l3LastOk.tab6 spec_l3LastOk.bits6 (fun HT_ HW_=>?_)
         generalize wr.drew=w16 at HB hHeld ⊢
         refine qu 0 ?_;refine qu 1 ?_;refine qu 2 ?_;refine qu 3 ?_;refine qt 4 ?_
         refine qo 5 ?_;intro K hK
         refine gD Try.func67 (spec_l6In.calls A5.out) ?_
         rintro e w' ⟨rfl,⟨nd,rfl⟩⟩;refine ⟨_,rfl,?_⟩;refine hK.out _ _ ⟨rS HB hs336,rS HB hs338⟩ (fun hHeld=>?_);clear hK K;refine no_ (some 18) ?_;refine qu 6 ?_;refine qu 7 ?_;refine qu 8 ?_;refine qu 9 ?_;refine qu 10 ?_;refine qu 11 ?_;refine qt 12 ?_
         refine qo 13 ?_;intro K hK
         refine gD Try.func67 (spec_l6In.calls A7.out) ?_
         rintro e w' ⟨rfl,⟨nd,rfl⟩⟩;refine ⟨_,rfl,?_⟩;refine hK.out _ _ ⟨rS HB hs336,rS HB hs338⟩ (fun hHeld=>?_);clear hK K;refine no_ (some 26) ?_;refine qu 14 ?_;refine qu 15 ?_;refine qu 16 ?_;refine qu 17 ?_;refine qu 18 ?_;refine qu 19 ?_;refine qd 20 ?_;refine qd 21 ?_;refine qd 22 ?_;refine qd 23 ?_;refine qd 24 ?_;refine qd 25 ?_;refine qd 26 ?_;refine qd 27 ?_;refine qd 28 ?_;refine qd 29 ?_;refine qd 30 ?_;refine qd 31 ?_;refine qu 32 ?_;refine qu 33 ?_;refine qe ?_
         try go_wp2
         go_roundg k1
         case measure=>have:=HK1.out;omega
         case rel=>exact ⟨(wrap64 (x3_1+1)),bZ,H',⟨by have:=HK1.out;omega⟩,⟨pB HB.out⟩⟩
       ·replace c8:=Bool.eq_false_iff.mpr c8;subst c8
        rw [if_neg nFT] at H
        obtain rfl:=Option.some.inj H
        try go_wp2
        replace HB:=mA (below_drew1 HB.out);have p336:0≤(x3_1:Int):=of_decide_eq_true bA;have q336:x3_1<(l0.length:Int):=of_decide_eq_true bA;obtain ⟨ad336,e336,hs336⟩:=at_R140 HR0.out x3_1 p336 q336;cases e336;replace p336:=eq_true p336;replace q336:=eq_true q336;have p338:0≤(x3_1:Int):=of_decide_eq_true bA;have q338:x3_1<(l0.length:Int):=of_decide_eq_true bA;obtain ⟨ad338,e338,hs338⟩:=at_R140 HR0.out x3_1 p338 q338
        obtain rfl:ad336=ad338:=(by injection e338)
        replace p338:=eq_true p338;replace q338:=eq_true q338
        refine start_ (n:=34) (S:=fun w'=>RS w' (ad336.add ((x3_1).toNat * 2)) (d140 (rd_T140 l0 x3_1))∧RS w' (ad336.add ((x3_1).toNat * 2)) (d140 (rd_T140 l0 x3_1))) (ds:=[]) _ aK rfl rfl ⟨rS HB hs336,rS HB hs338⟩ (fun hHeld=>?_);refine with_tabW spec_l3LastOk.tab6 spec_l3LastOk.bits6 (fun HT_ HW_=>?_)
        generalize wr.drew=w17 at HB hHeld ⊢
        refine qu 0 ?_;refine qu 1 ?_;refine qu 2 ?_;refine qu 3 ?_;refine qt 4 ?_
        refine qo 5 ?_;intro K hK
        refine gD Try.func67 (spec_l6In.calls A5.out) ?_
        rintro e w' ⟨rfl,⟨nd,rfl⟩⟩;refine ⟨_,rfl,?_⟩;refine hK.out _ _ ⟨rS HB hs336,rS HB hs338⟩ (fun hHeld=>?_);clear hK K;refine no_ (some 18) ?_;refine qu 6 ?_;refine qu 7 ?_;refine qu 8 ?_;refine qu 9 ?_;refine qu 10 ?_;refine qu 11 ?_;refine qt 12 ?_
        refine qo 13 ?_;intro K hK
        refine gD Try.func67 (spec_l6In.calls A7.out) ?_
        rintro e w' ⟨rfl,⟨nd,rfl⟩⟩;refine ⟨_,rfl,?_⟩;refine hK.out _ _ ⟨rS HB hs336,rS HB hs338⟩ (fun hHeld=>?_);clear hK K;refine no_ (some 26) ?_;refine qu 14 ?_;refine qu 15 ?_;refine qu 16 ?_;refine qd 17 ?_;refine qd 18 ?_;refine qd 19 ?_;refine qd 20 ?_;refine qd 21 ?_;refine qd 22 ?_;refine qd 23 ?_;refine qd 24 ?_;refine qd 25 ?_;refine qd 26 ?_;refine qd 27 ?_;refine qd 28 ?_;refine qd 29 ?_;refine qd 30 ?_;refine qd 31 ?_;refine qd 32 ?_;refine qu 33 ?_;refine qe ?_
        try go_wp2
        go_ret
        exact rZ (pB HB.out)
      ·replace c6:=Bool.eq_false_iff.mpr c6;subst c6
       rw [if_neg nFT] at H
       obtain rfl:=Option.some.inj H
       try go_wp2
       replace HB:=mA (below_drew1 HB.out);have p336:0≤(x3_1:Int):=of_decide_eq_true bA;have q336:x3_1<(l0.length:Int):=of_decide_eq_true bA;obtain ⟨ad336,e336,hs336⟩:=at_R140 HR0.out x3_1 p336 q336;cases e336;replace p336:=eq_true p336;replace q336:=eq_true q336
       refine start_ (n:=34) (S:=fun w'=>RS w' (ad336.add ((x3_1).toNat * 2)) (d140 (rd_T140 l0 x3_1))) (ds:=[]) _ aK rfl rfl (rS HB hs336) (fun hHeld=>?_);refine with_tabW spec_l3LastOk.tab6 spec_l3LastOk.bits6 (fun HT_ HW_=>?_)
       generalize wr.drew=w18 at HB hHeld ⊢
       refine qu 0 ?_;refine qu 1 ?_;refine qu 2 ?_;refine qu 3 ?_;refine qt 4 ?_
       refine qo 5 ?_;intro K hK
       refine gD Try.func67 (spec_l6In.calls A5.out) ?_
       rintro e w' ⟨rfl,⟨nd,rfl⟩⟩;refine ⟨_,rfl,?_⟩;refine hK.out _ _ (rS HB hs336) (fun hHeld=>?_);clear hK K;refine no_ (some 18) ?_;refine qu 6 ?_;refine qu 7 ?_;refine qd 8 ?_;refine qd 9 ?_;refine qd 10 ?_;refine qd 11 ?_;refine qd 12 ?_;refine qd 13 ?_;refine qd 14 ?_;refine qu 15 ?_;refine qu 16 ?_;refine qd 17 ?_;refine qd 18 ?_;refine qd 19 ?_;refine qd 20 ?_;refine qd 21 ?_;refine qd 22 ?_;refine qd 23 ?_;refine qd 24 ?_;refine qd 25 ?_;refine qd 26 ?_;refine qd 27 ?_;refine qd 28 ?_;refine qd 29 ?_;refine qd 30 ?_;refine qd 31 ?_;refine qd 32 ?_;refine qu 33 ?_;refine qe ?_
       try go_wp2
       go_ret
       exact rZ (pB HB.out)
     ·rw [if_neg c4] at H
      exact absurd H (by simp)
    ·rw [if_neg c3] at H;have c3b0:decide (x3_1<(l0.length:Int))=false:=decide_eq_false c3;clear c3;obtain rfl:=Option.some.inj H
     go_wp2
     go_ret
     exact rZ (pB HB.out)
/-! ### spec_WordOk: function 17 -/
def spec_WordOk.l0 : Nat → List Int → Int → Int → Int → Int → Int → Int → Int → Int → Int → Int → Int → Int → Int → Int → Int → Int → Int → Int → Int → Int → Int → Int → Int → Int → Int → List (S138) → List (S140) → Option (Bool)
 | 0,_,_,_,_,_,_,_,_,_,_,_,_,_,_,_,_,_,_,_,_,_,_,_,_,_,_,_,_=>none
 | k+1,x3,x4,x343000,x343001,x343002,x343003,x343004,x343005,x343006,x343007,x343008,x343009,x343010,x343011,x343012,x343013,x343014,x343015,x343016,x343017,x343018,x343019,x343020,x343021,x343022,x343023,x343024,x343025=>if x4<(x3.length:Int) then (if 0≤x4 then ((spec_l11Num.f (rd x3 x4)).bind fun t347=>(if t347=true then (spec_WordOk.l0 k x3 (wrap64 (x4+1)) x343000 x343001 x343002 x343003 x343004 x343005 x343006 x343007 x343008 x343009 x343010 x343011 x343012 x343013 x343014 x343015 x343016 x343017 x343018 x343019 x343020 x343021 x343022 x343023 x343024 x343025) else (some false))) else (none)) else ((spec_l6In.f x343000 1 15).bind fun t348=>(if t348=true then ((spec_l11Place.f x343001).bind fun t349=>(if t349=true then ((spec_l11Place.f x343002).bind fun t350=>(if t350=true then ((spec_l11CmdOk.f x343006 x343007 x343008 x343009 x343010 x343011 x343012 x343013 x343014 x343015).bind fun t351=>(if t351=true then ((spec_BlkOk.f k x343024).bind fun t352=>(if t352=true then ((spec_l3LastOk.f k x343025).bind fun t353=>(some t353)) else (some false))) else (some false))) else (some false))) else (some false))) else (some false)))
def spec_WordOk.f (k : Nat) (a0_0 a0_1 a0_2 a0_3 a0_4 a0_5 a0_6 a0_7 a0_8 a0_9 a0_10 a0_11 a0_12 a0_13 a0_14 a0_15 a0_16 a0_17 a0_18 a0_19 a0_20 a0_21 a0_22 a0_23 : Int) (l0_24 : List (S138)) (l0_25 : List (S140)) : Option (Bool) := (spec_l11Nums.f a0_0 a0_1 a0_2 a0_3 a0_4 a0_5 a0_6 a0_7 a0_8 a0_9 a0_10 a0_11 a0_12 a0_13 a0_14 a0_15 a0_16 a0_17 a0_18 a0_19 a0_20 a0_21 a0_22 a0_23 l0_24 l0_25).bind fun t343 => (spec_WordOk.l0 k t343 0 a0_0 a0_1 a0_2 a0_3 a0_4 a0_5 a0_6 a0_7 a0_8 a0_9 a0_10 a0_11 a0_12 a0_13 a0_14 a0_15 a0_16 a0_17 a0_18 a0_19 a0_20 a0_21 a0_22 a0_23 l0_24 l0_25)
set_option maxHeartbeats 8000000 in
set_option maxRecDepth 100000 in
theorem spec_WordOk.calls {k : Nat} {a0_0 a0_1 a0_2 a0_3 a0_4 a0_5 a0_6 a0_7 a0_8 a0_9 a0_10 a0_11 a0_12 a0_13 a0_14 a0_15 a0_16 a0_17 a0_18 a0_19 a0_20 a0_21 a0_22 a0_23 : Int} {A0_24 : Option Addr} {c0_24 : Nat} {l0_24 : List (S138)} {A0_25 : Option Addr} {c0_25 : Nat} {l0_25 : List (S140)} {r : Bool} {w : World} (hr0_24 : Kd.C k138 w A0_24 l0_24.length l0_24) (hc0_24 : l0_24.length ≤ c0_24) (hr0_25 : Kd.C k140 w A0_25 l0_25.length l0_25) (hc0_25 : l0_25.length ≤ c0_25) (h : spec_WordOk.f k a0_0 a0_1 a0_2 a0_3 a0_4 a0_5 a0_6 a0_7 a0_8 a0_9 a0_10 a0_11 a0_12 a0_13 a0_14 a0_15 a0_16 a0_17 a0_18 a0_19 a0_20 a0_21 a0_22 a0_23 l0_24 l0_25 = some r) :
  Calls Try.prog 17 #[.agg #[.int .i64 a0_0,.int .i64 a0_1,.int .i64 a0_2,.int .i64 a0_3,.int .i64 a0_4,.int .i64 a0_5,.int .i64 a0_6,.int .i64 a0_7,.int .i64 a0_8,.int .i64 a0_9,.int .i64 a0_10,.int .i64 a0_11,.int .i64 a0_12,.int .i64 a0_13,.int .i64 a0_14,.int .i64 a0_15,.int .i64 a0_16,.int .i64 a0_17,.int .i64 a0_18,.int .i64 a0_19,.int .i64 a0_20,.int .i64 a0_21,.int .i64 a0_22,.int .i64 a0_23,.slice A0_24 l0_24.length c0_24,.slice A0_25 l0_25.length c0_25]] w fun e w'=>e=.returned (.bool r)∧Below w.heap.size w w':=by
 have hu28:=Try.underlying28;have hu24:=Try.underlying24;have HR0_24:=mA hr0_24;have HC0_24:=mA hc0_24;clear hr0_24 hc0_24;have HR0_25:=mA hr0_25;have HC0_25:=mA hc0_25;clear hr0_25 hc0_25;have HB:=mA (Below.refl w.heap.size w);have H:((spec_l11Nums.f a0_0 a0_1 a0_2 a0_3 a0_4 a0_5 a0_6 a0_7 a0_8 a0_9 a0_10 a0_11 a0_12 a0_13 a0_14 a0_15 a0_16 a0_17 a0_18 a0_19 a0_20 a0_21 a0_22 a0_23 l0_24 l0_25).bind fun t343=>(spec_WordOk.l0 k t343 0 a0_0 a0_1 a0_2 a0_3 a0_4 a0_5 a0_6 a0_7 a0_8 a0_9 a0_10 a0_11 a0_12 a0_13 a0_14 a0_15 a0_16 a0_17 a0_18 a0_19 a0_20 a0_21 a0_22 a0_23 l0_24 l0_25))=some r:=h;clear h;obtain ⟨t343,A2,H⟩:=bI H;(try dsimp only at H);have H':=mA H;clear H
 go_enter Try.func17,Try.ntmps17
 go_wp2_with (first|((with_reducible refine gLg rfl (by assumption) ?_);refine ldV ?_)|((with_reducible refine gSt rfl (by assumption) ?_);refine stV ?_)|((with_reducible refine gT 1 rfl ?_);refine bX 1 ?_;intro gb342 hg w3 hbox hb;have BK342:=mA hbox;have GW342:=gbpB HB hg;have GE342:=gbpB HB hg;replace HB:=spB HB hb;clear hb hbox hg;have hcz4_0:=fun i_=>blk_cell BK342.out i_;have hfz4_0:=fun i_=>blk_frozen BK342.out i_)|((with_reducible refine gT 6 rfl ?_);refine gC (some 6) Try.func65 (spec_l11Nums.calls (cB HR0_24 HB) HC0_24.out (cB HR0_25 HB) HC0_25.out A2.out) ?_;rintro e w5 ⟨v344,rfl,ho0,hb⟩;refine ⟨_,rfl,?_⟩;have HO345:=mA (Kd.R_lower ho0 (bpS HB));replace BK342:=bK BK342 hb;replace HB:=spS HB hb;(try clear hb);(try clear ho0)))
 go_loopg [4] k (fun kq v4 w'=>∃ (x4_1:Int),v4=.int .i64 x4_1∧Aside0 (spec_WordOk.l0 kq t343 x4_1 a0_0 a0_1 a0_2 a0_3 a0_4 a0_5 a0_6 a0_7 a0_8 a0_9 a0_10 a0_11 a0_12 a0_13 a0_14 a0_15 a0_16 a0_17 a0_18 a0_19 a0_20 a0_21 a0_22 a0_23 l0_24 l0_25=some r)∧Aside0 (kq≤k)∧Aside0 (Kd.R (Kd.int .i64) 3 w' w.heap.size (fun _=>True) v344 t343)∧Aside0 (w'.heap[gb342]?=some (.cells #[.int .i64 a0_0,.int .i64 a0_1,.int .i64 a0_2,.int .i64 a0_3,.int .i64 a0_4,.int .i64 a0_5,.int .i64 a0_6,.int .i64 a0_7,.int .i64 a0_8,.int .i64 a0_9,.int .i64 a0_10,.int .i64 a0_11,.int .i64 a0_12,.int .i64 a0_13,.int .i64 a0_14,.int .i64 a0_15,.int .i64 a0_16,.int .i64 a0_17,.int .i64 a0_18,.int .i64 a0_19,.int .i64 a0_20,.int .i64 a0_21,.int .i64 a0_22,.int .i64 a0_23,(.slice A0_24 l0_24.length c0_24),(.slice A0_25 l0_25.length c0_25)] 28 (0,0)))∧Aside0 (Below w.heap.size w w'))
 case atStart=>exact ⟨(0),bZ,H',⟨Nat.le_refl _⟩,⟨pR HO345.out⟩,⟨pK BK342.out⟩,⟨pS HB.out⟩⟩
 case round =>
  clear H'
  (try clear hcz4_0);(try clear hfz4_0)
  obtain ⟨x4_1,rfl,HA,HK1,HO_3,BK342,HB⟩:=hrel
  cases gk with
  | zero=>exact absurd HA.out (by simp [spec_WordOk.l0])
  | succ k1 =>
   have H:=HA.out;clear HA;simp only [spec_WordOk.l0] at H
   by_cases c6:x4_1<(t343.length:Int)
   ·rw [if_pos c6] at H;have c6b0:decide (x4_1<(t343.length:Int))=true:=decide_eq_true c6;clear c6
    by_cases c7:0≤x4_1
    ·rw [if_pos c7] at H;have c7b0:decide (0≤x4_1)=true:=decide_eq_true c7;clear c7;obtain ⟨t347,A8,H⟩:=bI H;(try dsimp only at H)
     by_cases c9:t347=true
     ·subst c9;rw [if_pos rfl] at H;have H':=mA H;clear H;obtain ⟨Ao10,co10,rfl⟩:=Kd.R_slice HO_3.out;have p346:0≤(x4_1:Int):=of_decide_eq_true bA;have q346:x4_1<(t343.length:Int):=of_decide_eq_true bA;obtain ⟨ad346,e346,hx346_0⟩:=Kd.at_int (Kd.R_reads' HO_3.out).2.2 x4_1 p346 q346;cases e346;replace p346:=eq_true p346;replace q346:=eq_true q346
      go_wp2_with (first|((with_reducible refine gLg rfl (by assumption) ?_);refine ldV ?_)|((with_reducible refine gSt rfl (by assumption) ?_);refine stV ?_)|((with_reducible refine gT 17 rfl ?_);refine gC (some 17) Try.func66 (spec_l11Num.calls A8.out) ?_;rintro e w' ⟨rfl,⟨nd,rfl⟩⟩;refine ⟨_,rfl,?_⟩))
      go_roundg k1
      case measure=>have:=HK1.out;omega
      case rel=>exact ⟨(wrap64 (x4_1+1)),bZ,H',⟨by have:=HK1.out;omega⟩,⟨pR HO_3.out⟩,⟨pK BK342.out⟩,⟨pS HB.out⟩⟩
     ·replace c9:=Bool.eq_false_iff.mpr c9;subst c9
      rw [if_neg nFT] at H
      obtain rfl:=Option.some.inj H;obtain ⟨Ao11,co11,rfl⟩:=Kd.R_slice HO_3.out;have p346:0≤(x4_1:Int):=of_decide_eq_true bA;have q346:x4_1<(t343.length:Int):=of_decide_eq_true bA;obtain ⟨ad346,e346,hx346_0⟩:=Kd.at_int (Kd.R_reads' HO_3.out).2.2 x4_1 p346 q346;cases e346;replace p346:=eq_true p346;replace q346:=eq_true q346
      go_wp2_with (first|((with_reducible refine gLg rfl (by assumption) ?_);refine ldV ?_)|((with_reducible refine gSt rfl (by assumption) ?_);refine stV ?_)|((with_reducible refine gT 17 rfl ?_);refine gC (some 17) Try.func66 (spec_l11Num.calls A8.out) ?_;rintro e w' ⟨rfl,⟨nd,rfl⟩⟩;refine ⟨_,rfl,?_⟩))
      go_ret
      exact rZ (pS HB.out)
    ·rw [if_neg c7] at H
     exact absurd H (by simp)
   ·rw [if_neg c6] at H;have c6b0:decide (x4_1<(t343.length:Int))=false:=decide_eq_false c6;clear c6;obtain ⟨t348,A12,H⟩:=bI H;(try dsimp only at H)
    by_cases c13:t348=true
    ·subst c13;rw [if_pos rfl] at H;obtain ⟨t349,A14,H⟩:=bI H;(try dsimp only at H)
     by_cases c15:t349=true
     ·subst c15;rw [if_pos rfl] at H;obtain ⟨t350,A16,H⟩:=bI H;(try dsimp only at H)
      by_cases c17:t350=true
      ·subst c17;rw [if_pos rfl] at H;obtain ⟨t351,A18,H⟩:=bI H;(try dsimp only at H)
       by_cases c19:t351=true
       ·subst c19;rw [if_pos rfl] at H;obtain ⟨t352,A20,H⟩:=bI H;(try dsimp only at H)
        by_cases c21:t352=true
        ·subst c21;rw [if_pos rfl] at H;obtain ⟨t353,A22,H⟩:=bI H;(try dsimp only at H);obtain rfl:=Option.some.inj H;obtain ⟨Ao23,co23,rfl⟩:=Kd.R_slice HO_3.out;have hcz24_0:=fun i_=>blk_cell BK342.out i_;have hfz24_0:=fun i_=>blk_frozen BK342.out i_
         go_wp2_with (first|((with_reducible refine gLg rfl (by assumption) ?_);refine ldV ?_)|((with_reducible refine gSt rfl (by assumption) ?_);refine stV ?_)|((with_reducible refine gT 21 rfl ?_);refine gC (some 21) Try.func67 (spec_l6In.calls A12.out) ?_;rintro e w' ⟨rfl,⟨nd,rfl⟩⟩;refine ⟨_,rfl,?_⟩)|(go_at_call 68;(with_reducible refine (spec_l11Place.calls A14.out).mono ?_);rintro e w' ⟨rfl,⟨nd,rfl⟩⟩)|(go_at_call 68;(with_reducible refine (spec_l11Place.calls A16.out).mono ?_);rintro e w' ⟨rfl,⟨nd,rfl⟩⟩)|(go_at_call 69;(with_reducible refine (spec_l11CmdOk.calls A18.out).mono ?_);rintro e w25 ⟨rfl,hb⟩;replace HO_3:=rB HO_3 hb;replace BK342:=bK BK342 hb;replace HB:=spS HB hb;(try clear hb);have hcz26_0:=fun i_=>blk_cell BK342.out i_;have hfz26_0:=fun i_=>blk_frozen BK342.out i_)|(go_at_call 70;(with_reducible refine (spec_BlkOk.calls ?s1 ?s2 A20.out).mono ?_);(case s1=>exact cB HR0_24 HB);(case s2=>exact HC0_24.out);rintro e w27 ⟨rfl,hb⟩;replace HO_3:=rB HO_3 hb;replace BK342:=bK BK342 hb;replace HB:=spS HB hb;(try clear hb);have hcz28_0:=fun i_=>blk_cell BK342.out i_;have hfz28_0:=fun i_=>blk_frozen BK342.out i_)|(go_at_call 71;(with_reducible refine (spec_l3LastOk.calls ?s1 ?s2 A22.out).mono ?_);(case s1=>exact cB HR0_25 HB);(case s2=>exact HC0_25.out);rintro e w29 ⟨rfl,hb⟩;replace HO_3:=rB HO_3 hb;replace BK342:=bK BK342 hb;replace HB:=spS HB hb;(try clear hb)))
         go_ret
         exact rZ (pS HB.out)
        ·replace c21:=Bool.eq_false_iff.mpr c21;subst c21
         rw [if_neg nFT] at H
         obtain rfl:=Option.some.inj H;obtain ⟨Ao30,co30,rfl⟩:=Kd.R_slice HO_3.out;have hcz31_0:=fun i_=>blk_cell BK342.out i_;have hfz31_0:=fun i_=>blk_frozen BK342.out i_
         go_wp2_with (first|((with_reducible refine gLg rfl (by assumption) ?_);refine ldV ?_)|((with_reducible refine gSt rfl (by assumption) ?_);refine stV ?_)|((with_reducible refine gT 21 rfl ?_);refine gC (some 21) Try.func67 (spec_l6In.calls A12.out) ?_;rintro e w' ⟨rfl,⟨nd,rfl⟩⟩;refine ⟨_,rfl,?_⟩)|(go_at_call 68;(with_reducible refine (spec_l11Place.calls A14.out).mono ?_);rintro e w' ⟨rfl,⟨nd,rfl⟩⟩)|(go_at_call 68;(with_reducible refine (spec_l11Place.calls A16.out).mono ?_);rintro e w' ⟨rfl,⟨nd,rfl⟩⟩)|(go_at_call 69;(with_reducible refine (spec_l11CmdOk.calls A18.out).mono ?_);rintro e w32 ⟨rfl,hb⟩;replace HO_3:=rB HO_3 hb;replace BK342:=bK BK342 hb;replace HB:=spS HB hb;(try clear hb);have hcz33_0:=fun i_=>blk_cell BK342.out i_;have hfz33_0:=fun i_=>blk_frozen BK342.out i_)|(go_at_call 70;(with_reducible refine (spec_BlkOk.calls ?s1 ?s2 A20.out).mono ?_);(case s1=>exact cB HR0_24 HB);(case s2=>exact HC0_24.out);rintro e w34 ⟨rfl,hb⟩;replace HO_3:=rB HO_3 hb;replace BK342:=bK BK342 hb;replace HB:=spS HB hb;(try clear hb)))
         go_ret
         exact rZ (pS HB.out)
       ·replace c19:=Bool.eq_false_iff.mpr c19;subst c19
        rw [if_neg nFT] at H
        obtain rfl:=Option.some.inj H;obtain ⟨Ao35,co35,rfl⟩:=Kd.R_slice HO_3.out;have hcz36_0:=fun i_=>blk_cell BK342.out i_;have hfz36_0:=fun i_=>blk_frozen BK342.out i_
        go_wp2_with (first|((with_reducible refine gLg rfl (by assumption) ?_);refine ldV ?_)|((with_reducible refine gSt rfl (by assumption) ?_);refine stV ?_)|((with_reducible refine gT 21 rfl ?_);refine gC (some 21) Try.func67 (spec_l6In.calls A12.out) ?_;rintro e w' ⟨rfl,⟨nd,rfl⟩⟩;refine ⟨_,rfl,?_⟩)|(go_at_call 68;(with_reducible refine (spec_l11Place.calls A14.out).mono ?_);rintro e w' ⟨rfl,⟨nd,rfl⟩⟩)|(go_at_call 68;(with_reducible refine (spec_l11Place.calls A16.out).mono ?_);rintro e w' ⟨rfl,⟨nd,rfl⟩⟩)|(go_at_call 69;(with_reducible refine (spec_l11CmdOk.calls A18.out).mono ?_);rintro e w37 ⟨rfl,hb⟩;replace HO_3:=rB HO_3 hb;replace BK342:=bK BK342 hb;replace HB:=spS HB hb;(try clear hb)))
        go_ret
        exact rZ (pS HB.out)
      ·replace c17:=Bool.eq_false_iff.mpr c17;subst c17
       rw [if_neg nFT] at H
       obtain rfl:=Option.some.inj H;obtain ⟨Ao38,co38,rfl⟩:=Kd.R_slice HO_3.out;have hcz39_0:=fun i_=>blk_cell BK342.out i_;have hfz39_0:=fun i_=>blk_frozen BK342.out i_
       go_wp2_with (first|((with_reducible refine gLg rfl (by assumption) ?_);refine ldV ?_)|((with_reducible refine gSt rfl (by assumption) ?_);refine stV ?_)|((with_reducible refine gT 21 rfl ?_);refine gC (some 21) Try.func67 (spec_l6In.calls A12.out) ?_;rintro e w' ⟨rfl,⟨nd,rfl⟩⟩;refine ⟨_,rfl,?_⟩)|(go_at_call 68;(with_reducible refine (spec_l11Place.calls A14.out).mono ?_);rintro e w' ⟨rfl,⟨nd,rfl⟩⟩)|(go_at_call 68;(with_reducible refine (spec_l11Place.calls A16.out).mono ?_);rintro e w' ⟨rfl,⟨nd,rfl⟩⟩))
       go_ret
       exact rZ (pS HB.out)
     ·replace c15:=Bool.eq_false_iff.mpr c15;subst c15
      rw [if_neg nFT] at H
      obtain rfl:=Option.some.inj H;obtain ⟨Ao40,co40,rfl⟩:=Kd.R_slice HO_3.out;have hcz41_0:=fun i_=>blk_cell BK342.out i_;have hfz41_0:=fun i_=>blk_frozen BK342.out i_
      go_wp2_with (first|((with_reducible refine gLg rfl (by assumption) ?_);refine ldV ?_)|((with_reducible refine gSt rfl (by assumption) ?_);refine stV ?_)|((with_reducible refine gT 21 rfl ?_);refine gC (some 21) Try.func67 (spec_l6In.calls A12.out) ?_;rintro e w' ⟨rfl,⟨nd,rfl⟩⟩;refine ⟨_,rfl,?_⟩)|(go_at_call 68;(with_reducible refine (spec_l11Place.calls A14.out).mono ?_);rintro e w' ⟨rfl,⟨nd,rfl⟩⟩))
      go_ret
      exact rZ (pS HB.out)
    ·replace c13:=Bool.eq_false_iff.mpr c13;subst c13
     rw [if_neg nFT] at H
     obtain rfl:=Option.some.inj H;obtain ⟨Ao42,co42,rfl⟩:=Kd.R_slice HO_3.out;have hcz43_0:=fun i_=>blk_cell BK342.out i_;have hfz43_0:=fun i_=>blk_frozen BK342.out i_
     go_wp2_with (first|((with_reducible refine gLg rfl (by assumption) ?_);refine ldV ?_)|((with_reducible refine gSt rfl (by assumption) ?_);refine stV ?_)|((with_reducible refine gT 21 rfl ?_);refine gC (some 21) Try.func67 (spec_l6In.calls A12.out) ?_;rintro e w' ⟨rfl,⟨nd,rfl⟩⟩;refine ⟨_,rfl,?_⟩))
     go_ret
     exact rZ (pS HB.out)
/-! ### spec_l21PaperOk: function 86 -/
def spec_l21PaperOk.f (a0_0 a0_1 a0_2 a0_3 a0_4 a0_5 a0_6 a0_7 a0_8 a0_9 a0_10 a0_11 : Int) : Option (Bool) := (spec_l6In.f a0_0 1 60).bind fun t355 => (if t355 = true then ((spec_l6In.f a0_1 1 99999).bind fun t356 => (if t356 = true then ((spec_l11CmdOk.f a0_2 a0_3 a0_4 a0_5 a0_6 a0_7 a0_8 a0_9 a0_10 a0_11).bind fun t357 => (some t357)) else (some false))) else (some false))
set_option maxHeartbeats 8000000 in
set_option maxRecDepth 100000 in
theorem spec_l21PaperOk.calls {a0_0 a0_1 a0_2 a0_3 a0_4 a0_5 a0_6 a0_7 a0_8 a0_9 a0_10 a0_11 : Int} {r : Bool} {w : World} (h : spec_l21PaperOk.f a0_0 a0_1 a0_2 a0_3 a0_4 a0_5 a0_6 a0_7 a0_8 a0_9 a0_10 a0_11 = some r) :
  Calls Try.prog 86 #[.agg #[.int .i64 a0_0,.int .i64 a0_1,.int .i64 a0_2,.int .i64 a0_3,.int .i64 a0_4,.int .i64 a0_5,.int .i64 a0_6,.int .i64 a0_7,.int .i64 a0_8,.int .i64 a0_9,.int .i64 a0_10,.int .i64 a0_11]] w fun e w'=>e=.returned (.bool r)∧Below w.heap.size w w':=by
 have hu64:=Try.underlying64;have hu24:=Try.underlying24;have HB:=mA (Below.refl w.heap.size w);have H:((spec_l6In.f a0_0 1 60).bind fun t355=>(if t355=true then ((spec_l6In.f a0_1 1 99999).bind fun t356=>(if t356=true then ((spec_l11CmdOk.f a0_2 a0_3 a0_4 a0_5 a0_6 a0_7 a0_8 a0_9 a0_10 a0_11).bind fun t357=>(some t357)) else (some false))) else (some false)))=some r:=h;clear h;obtain ⟨t355,A2,H⟩:=bI H;(try dsimp only at H)
 by_cases c3:t355=true
 ·subst c3;rw [if_pos rfl] at H;obtain ⟨t356,A4,H⟩:=bI H;(try dsimp only at H)
  by_cases c5:t356=true
  ·subst c5;rw [if_pos rfl] at H;obtain ⟨t357,A6,H⟩:=bI H;(try dsimp only at H);obtain rfl:=Option.some.inj H
   go_enter Try.func86,Try.ntmps86
   go_wp2_with (first|((with_reducible refine gLg rfl (by assumption) ?_);refine ldV ?_)|((with_reducible refine gSt rfl (by assumption) ?_);refine stV ?_)|((with_reducible refine gT 1 rfl ?_);refine bX 1 ?_;intro gb354 hg w7 hbox hb;have BK354:=mA hbox;have GW354:=gbpB HB hg;have GE354:=gbpB HB hg;replace HB:=spB HB hb;clear hb hbox hg;have hcz8_0:=fun i_=>blk_cell BK354.out i_;have hfz8_0:=fun i_=>blk_frozen BK354.out i_)|((with_reducible refine gT 5 rfl ?_);refine gC (some 5) Try.func67 (spec_l6In.calls A2.out) ?_;rintro e w' ⟨rfl,⟨nd,rfl⟩⟩;refine ⟨_,rfl,?_⟩)|(go_at_call 67;(with_reducible refine (spec_l6In.calls A4.out).mono ?_);rintro e w' ⟨rfl,⟨nd,rfl⟩⟩)|(go_at_call 69;(with_reducible refine (spec_l11CmdOk.calls A6.out).mono ?_);rintro e w9 ⟨rfl,hb⟩;replace BK354:=bK BK354 hb;replace HB:=spS HB hb;(try clear hb)))
   go_ret
   exact rZ (pS HB.out)
  ·replace c5:=Bool.eq_false_iff.mpr c5;subst c5
   rw [if_neg nFT] at H
   obtain rfl:=Option.some.inj H
   go_enter Try.func86,Try.ntmps86
   go_wp2_with (first|((with_reducible refine gLg rfl (by assumption) ?_);refine ldV ?_)|((with_reducible refine gSt rfl (by assumption) ?_);refine stV ?_)|((with_reducible refine gT 1 rfl ?_);refine bX 1 ?_;intro gb354 hg w10 hbox hb;have BK354:=mA hbox;have GW354:=gbpB HB hg;have GE354:=gbpB HB hg;replace HB:=spB HB hb;clear hb hbox hg;have hcz11_0:=fun i_=>blk_cell BK354.out i_;have hfz11_0:=fun i_=>blk_frozen BK354.out i_)|((with_reducible refine gT 5 rfl ?_);refine gC (some 5) Try.func67 (spec_l6In.calls A2.out) ?_;rintro e w' ⟨rfl,⟨nd,rfl⟩⟩;refine ⟨_,rfl,?_⟩)|(go_at_call 67;(with_reducible refine (spec_l6In.calls A4.out).mono ?_);rintro e w' ⟨rfl,⟨nd,rfl⟩⟩))
   go_ret
   exact rZ (pS HB.out)
 ·replace c3:=Bool.eq_false_iff.mpr c3;subst c3
  rw [if_neg nFT] at H
  obtain rfl:=Option.some.inj H
  go_enter Try.func86,Try.ntmps86
  go_wp2_with (first|((with_reducible refine gLg rfl (by assumption) ?_);refine ldV ?_)|((with_reducible refine gSt rfl (by assumption) ?_);refine stV ?_)|((with_reducible refine gT 1 rfl ?_);refine bX 1 ?_;intro gb354 hg w12 hbox hb;have BK354:=mA hbox;have GW354:=gbpB HB hg;have GE354:=gbpB HB hg;replace HB:=spB HB hb;clear hb hbox hg;have hcz13_0:=fun i_=>blk_cell BK354.out i_;have hfz13_0:=fun i_=>blk_frozen BK354.out i_)|((with_reducible refine gT 5 rfl ?_);refine gC (some 5) Try.func67 (spec_l6In.calls A2.out) ?_;rintro e w' ⟨rfl,⟨nd,rfl⟩⟩;refine ⟨_,rfl,?_⟩))
  go_ret
  exact rZ (pS HB.out)
end Go.Proofs.Ytoieojmfkkidnaa.P
