-- printed by pprint.py (this session's program over the kit's printer) out of the translation. Lean checks it.
import Derived.Test.YtoieojmfkkidnaaPx0
import Derived.Test.YtoieojmfkkidnaaPx3
namespace Go.Proofs.Ytoieojmfkkidnaa.P
open Go.RowKit Go.Proofs.YtoieojmfkkidnaaX Go.Proofs.YtoieojmfkkidnaaW.PrintWords Go.Proofs.YtoieojmfkkidnaaW.PrintLast Go.Proofs.YtoieojmfkkidnaaW.PrintMore
attribute [local go_sem] max2_int min2_int max_two min_two max_three min_three max_four min_four   -- for this text's walks alone
set_option linter.unusedVariables false
set_option linter.unusedSimpArgs false
/-! ### spec_SynVoterOk: function 26 -/
mutual
def spec_SynVoterOk.j0 : Nat → Bool → Int → List (S64) → Option (Bool)
 | 0,_,_,_=>none
 | k+1,x13,x274000,x274001=>if x13=true then (some false) else (spec_SynVoterOk.l0 k 0 x274000 x274001)
def spec_SynVoterOk.l0 : Nat → Int → Int → List (S64) → Option (Bool)
 | 0,_,_,_=>none
 | k+1,x3,x274000,x274001=>if x3<(x274001.length:Int) then (if 0≤x3 then ((spec_l21PaperOk.f ((rd_T64 x274001 x3).f0) ((rd_T64 x274001 x3).f1) ((rd_T64 x274001 x3).f2.f0) ((rd_T64 x274001 x3).f2.f1) ((rd_T64 x274001 x3).f2.f2) ((rd_T64 x274001 x3).f2.f3) ((rd_T64 x274001 x3).f2.f4) ((rd_T64 x274001 x3).f2.f5) ((rd_T64 x274001 x3).f2.f6) ((rd_T64 x274001 x3).f2.f7) ((rd_T64 x274001 x3).f2.f8) ((rd_T64 x274001 x3).f2.f9)).bind fun t276=>(if t276=true then (if ((rd_T64 x274001 x3).f1) > x274000 then (some false) else (if x3 > 0 then (if 0≤(wrap64 (x3 - 1)) then (if (wrap64 (x3 - 1))<(x274001.length:Int) then (if ((rd_T64 x274001 (wrap64 (x3 - 1))).f0) ≥ ((rd_T64 x274001 x3).f0) then (some false) else (spec_SynVoterOk.l0 k (wrap64 (x3+1)) x274000 x274001)) else (none)) else (none)) else (spec_SynVoterOk.l0 k (wrap64 (x3+1)) x274000 x274001))) else (some false))) else (none)) else (some true)
end
def spec_SynVoterOk.f (k : Nat) (a0_0 : Int) (l0_1 : List (S64)) : Option (Bool) := (spec_l6In.f a0_0 0 99999).bind fun t274 => (if t274 = true then (spec_SynVoterOk.j0 k (decide ((l0_1.length : Int) > 60)) a0_0 l0_1) else (spec_SynVoterOk.j0 k true a0_0 l0_1))
def spec_SynVoterOk.T6 : Bool × List (List Nat × List Nat) := (true, [([], []), ([0], [0]), ([], []), ([1, 2], [1, 2]), ([3], [3]), ([4], [4]), ([5], [5]), ([6, 5], [6]), ([7], [7]), ([8, 7], [7, 8]), ([7], [7]), ([9, 10, 7], [7, 9, 10]), ([11, 7], [7, 11]), ([12, 7], [7, 12]), ([7], [7]), ([14, 7], [7, 14]), ([13, 15, 7], [7, 13, 15]), ([7, 16], [7, 16]), ([17, 7], [17]), ([18], [18]), ([19, 18], [18, 19]), ([20, 18, 18], [18, 20]), ([21], [21]), ([22, 21], [21, 22]), ([21], [21]), ([24, 21], [21, 24]), ([23, 25, 21], [21, 23, 25]), ([26, 21], [21, 26]), ([27, 21], [21, 27]), ([21], [21]), ([29, 21], [21, 29]), ([21], [21]), ([30, 31, 21], [21, 30, 31]), ([32, 21], [21, 32]), ([33, 21], [21, 33]), ([28, 34, 21], [21, 28, 34]), ([21, 35, 18], [18, 21, 35]), ([18, 36], [18, 36])])
def spec_SynVoterOk.B6 : List Nat := [0, 1, 0, 7, 15, 31, 63, 127, 255, 511, 255, 2047, 4095, 8191, 255, 16639, 65535, 131071, 262143, 524287, 1048575, 2097151, 4194303, 8388607, 4194303, 20971519, 67108863, 134217727, 268435455, 4194303, 541065215, 4194303, 3762290687, 8057257983, 16647192575, 34359738367, 68719476735, 137438953471]
theorem spec_SynVoterOk.tab6 : rtab .any (opsOf Try.f26 6) = spec_SynVoterOk.T6 := by kernel_rfl
theorem spec_SynVoterOk.bits6 : waitsOk spec_SynVoterOk.T6.2 spec_SynVoterOk.B6 = true := by kernel_rfl
set_option maxHeartbeats 8000000 in
set_option maxRecDepth 100000 in
theorem spec_SynVoterOk.calls {k : Nat} {a0_0 : Int} {A0_1 : Option Addr} {c0_1 : Nat} {l0_1 : List (S64)} {r : Bool} {w : World} (hr0_1 : Kd.C k64 w A0_1 l0_1.length l0_1) (hc0_1 : l0_1.length ≤ c0_1) (h : spec_SynVoterOk.f k a0_0 l0_1 = some r) :
  Calls Try.prog 26 #[.agg #[.int .i64 a0_0,.slice A0_1 l0_1.length c0_1]] w fun e w'=>e=.returned (.bool r)∧Below w.heap.size w w':=by
 have hu52:=Try.underlying52;have hu64:=Try.underlying64;have HR0_1:=mA hr0_1;have HC0_1:=mA hc0_1;clear hr0_1 hc0_1;have HB:=mA (Below.refl w.heap.size w);have H:((spec_l6In.f a0_0 0 99999).bind fun t274=>(if t274=true then (spec_SynVoterOk.j0 k (decide ((l0_1.length:Int) > 60)) a0_0 l0_1) else (spec_SynVoterOk.j0 k true a0_0 l0_1)))=some r:=h;clear h;have HC2:=mA H;clear H
 go_enter Try.func26,Try.ntmps26
 go_upto_region 1 with (first|((with_reducible refine gT 1 rfl ?_);(try (refine gate_guard (by rfl) ?_;dsimp only));refine bE 1 #[.int .i64 a0_0,.slice A0_1 l0_1.length c0_1] 52 ?_;intro gb273 hg w3 hbox hb;have BK273:=mA hbox;have GW273:=gbpB HB hg;have GE273:=gbpB HB hg;replace HB:=spB HB hb;clear hb hbox hg))
 (try simp only [Act.put,List.setIfInBounds_toArray,List.set_cons_zero,List.set_cons_succ])
 go_cut [13] (fun v13 wc=>∃ (kq:Nat) (x13_1:Bool),v13=.bool x13_1∧Aside0 (spec_SynVoterOk.j0 kq x13_1 a0_0 l0_1=some r)∧Aside0 (kq≤k)∧Aside0 (wc.heap[gb273]?=some (.cells #[.int .i64 a0_0,(.slice A0_1 l0_1.length c0_1)] 52 (0,0)))∧Aside0 (Below w.heap.size w wc))
 case first =>
  have H:=HC2.out;clear HC2;obtain ⟨t274,A4,H⟩:=bI H;(try dsimp only at H)
  by_cases c5:t274=true
  ·subst c5;rw [if_pos rfl] at H;have H':=mA H;clear H;obtain ⟨hcz6_0,hcz6_1,hfz6_0,hfz6_1⟩:=box2 BK273.out
   go_wp2_with (first|((with_reducible refine gT 6 rfl ?_);refine gC (some 6) Try.func67 (spec_l6In.calls A4.out) ?_;rintro e w' ⟨rfl,⟨nd,rfl⟩⟩;refine ⟨_,rfl,?_⟩))
   go_meet
   case rel=>exact ⟨_,(decide ((l0_1.length:Int) > 60)),bZ,H',⟨by first|omega|exact Nat.le_refl _⟩,⟨pK BK273.out⟩,⟨pS HB.out⟩⟩
  ·replace c5:=Bool.eq_false_iff.mpr c5;subst c5
   rw [if_neg nFT] at H
   have H':=mA H;clear H;obtain ⟨hcz7_0,hcz7_1,hfz7_0,hfz7_1⟩:=box2 BK273.out
   go_wp2_with (first|((with_reducible refine gT 6 rfl ?_);refine gC (some 6) Try.func67 (spec_l6In.calls A4.out) ?_;rintro e w' ⟨rfl,⟨nd,rfl⟩⟩;refine ⟨_,rfl,?_⟩))
   go_meet
   case rel=>exact ⟨_,(true),bZ,H',⟨by first|omega|exact Nat.le_refl _⟩,⟨pK BK273.out⟩,⟨pS HB.out⟩⟩
 case rest =>
  clear HC2
  obtain ⟨kq,x13_1,rfl,HA,HJ1,BK273,HB⟩:=hcut
  cases kq with
  | zero=>exact absurd HA.out (by simp [spec_SynVoterOk.j0])
  | succ kj1 =>
   have H:=HA.out;clear HA;simp only [spec_SynVoterOk.j0] at H
   by_cases c8:x13_1=true
   ·subst c8;rw [if_pos rfl] at H;obtain rfl:=Option.some.inj H
    go_wp2
    go_ret
    exact rZ (pS HB.out)
   ·replace c8:=Bool.eq_false_iff.mpr c8;subst c8
    rw [if_neg nFT] at H
    have H':=mA H;clear H
    go_wp2
    go_loopg [3] kj1 (fun kq v3 w'=>∃ (x3_2:Int),v3=.int .i64 x3_2∧Aside0 (spec_SynVoterOk.l0 kq x3_2 a0_0 l0_1=some r)∧Aside0 (kq≤kj1)∧Aside0 (w'.heap[gb273]?=some (.cells #[.int .i64 a0_0,(.slice A0_1 l0_1.length c0_1)] 52 (0,0)))∧Aside0 (Below w.heap.size w w'))
    case atStart=>exact ⟨(0),bZ,H',⟨Nat.le_refl _⟩,⟨pK BK273.out⟩,⟨pS HB.out⟩⟩
    case round =>
     clear H'
     (try clear c8)
     obtain ⟨x3_2,rfl,HA,HK2,BK273,HB⟩:=hrel
     cases gk with
     | zero=>exact absurd HA.out (by simp [spec_SynVoterOk.l0])
     | succ k2 =>
      have H:=HA.out;clear HA;simp only [spec_SynVoterOk.l0] at H
      by_cases c9:x3_2<(l0_1.length:Int)
      ·rw [if_pos c9] at H;have c9b0:decide (x3_2<(l0_1.length:Int))=true:=decide_eq_true c9;clear c9
       by_cases c10:0≤x3_2
       ·rw [if_pos c10] at H;have c10b0:decide (0≤x3_2)=true:=decide_eq_true c10;clear c10;obtain ⟨t276,A11,H⟩:=bI H;(try dsimp only at H)
        by_cases c12:t276=true
        ·subst c12;rw [if_pos rfl] at H
         by_cases c13:((rd_T64 l0_1 x3_2).f1) > a0_0
         ·rw [if_pos c13] at H;have c13b0:decide (a0_0<((rd_T64 l0_1 x3_2).f1))=true:=decide_eq_true c13;clear c13;obtain rfl:=Option.some.inj H;obtain ⟨hcz14_0,hcz14_1,hfz14_0,hfz14_1⟩:=box2 BK273.out
          try go_wp2
          replace BK273:=mA (blk_drew BK273.out);replace HB:=mA (below_drew1 HB.out);have p275:0≤(x3_2:Int):=of_decide_eq_true bA;have q275:x3_2<(l0_1.length:Int):=of_decide_eq_true bA;obtain ⟨ad275,e275,hs275⟩:=at_R64 HR0_1.out x3_2 p275 q275;cases e275;replace p275:=eq_true p275;replace q275:=eq_true q275;have p277:0≤(x3_2:Int):=of_decide_eq_true bA;have q277:x3_2<(l0_1.length:Int):=of_decide_eq_true bA;obtain ⟨ad277,e277,hs277⟩:=at_R64 HR0_1.out x3_2 p277 q277
          obtain rfl:ad275=ad277:=(by injection e277)
          replace p277:=eq_true p277;replace q277:=eq_true q277
          refine start_ (n:=38) (S:=fun w'=>w'.cell? ⟨gb273,0,none⟩=some (.int .i64 a0_0)∧w'.cell? ⟨gb273,1,none⟩=some (.slice (some ad275) l0_1.length c0_1)∧RS w' (ad275.add ((x3_2).toNat * 12)) (d64 (rd_T64 l0_1 x3_2))∧RS w' (ad275.add ((x3_2).toNat * 12)) (d64 (rd_T64 l0_1 x3_2))) (ds:=[]) _ aK rfl rfl ⟨eC BK273 0,eC BK273 1,rS HB hs275,rS HB hs277⟩ (fun hHeld=>?_);refine with_tabW spec_SynVoterOk.tab6 spec_SynVoterOk.bits6 (fun HT_ HW_=>?_)
          generalize wr.drew=w15 at BK273 HB hHeld ⊢
          refine qu 0 ?_;refine qu 2 ?_;refine qt 1 ?_;refine qu 3 ?_;refine qt 4 ?_
          refine qo 5 ?_;intro K hK
          refine gD Try.func86 (spec_l21PaperOk.calls A11.out) ?_
          rintro e w16 ⟨rfl,hb⟩;refine ⟨_,rfl,?_⟩;replace BK273:=bK BK273 hb;replace HB:=spS HB hb
          (try clear hb)
          refine hK.out _ _ ⟨eC BK273 0,eC BK273 1,rS HB hs275,rS HB hs277⟩ (fun hHeld=>?_);clear hK K;refine no_ (some 26) ?_;refine qu 6 ?_;refine qu 7 ?_;refine qu 8 ?_;refine qu 10 ?_;refine qu 14 ?_;refine qt 9 ?_;refine qu 11 ?_;refine qu 12 ?_;refine qt 13 ?_;refine qt 15 ?_;refine qu 16 ?_;refine qu 17 ?_;refine qu 18 ?_;refine qd 19 ?_;refine qd 20 ?_;refine qd 21 ?_;refine qd 22 ?_;refine qd 23 ?_;refine qd 24 ?_;refine qd 25 ?_;refine qd 26 ?_;refine qd 27 ?_;refine qd 28 ?_;refine qd 29 ?_;refine qd 30 ?_;refine qd 31 ?_;refine qd 32 ?_;refine qd 33 ?_;refine qd 34 ?_;refine qd 35 ?_;refine qd 36 ?_;refine qu 37 ?_;refine qe ?_
          try go_wp2
          go_ret
          exact rZ (pS HB.out)
         ·rw [if_neg c13] at H;have c13b0:decide (a0_0<((rd_T64 l0_1 x3_2).f1))=false:=decide_eq_false c13;clear c13
          by_cases c17:x3_2 > 0
          ·rw [if_pos c17] at H;have c17b0:decide (0<x3_2)=true:=decide_eq_true c17;clear c17;obtain ⟨ji18,hji18⟩:∃ j_:Int,(wrap64 (x3_2 - 1))=j_:=⟨_,rfl⟩
           replace H:(if 0≤(ji18) then (if (ji18)<(l0_1.length:Int) then (if ((rd_T64 l0_1 (ji18)).f0) ≥ ((rd_T64 l0_1 x3_2).f0) then (some false) else (spec_SynVoterOk.l0 k2 (wrap64 (x3_2+1)) a0_0 l0_1)) else (none)) else (none))=some r:=by first|(rw [hji18] at H;exact H)|(simp only [hji18] at H ⊢;exact H)
           (try rw [hji18] at A11)
           have hji18w:(IntKind.i64.wrap (x3_2 - 1))=ji18:=(i64_w _).trans hji18
           by_cases c19:0≤(ji18)
           ·rw [if_pos c19] at H;have c19b0:decide (0≤(ji18))=true:=decide_eq_true c19;clear c19
            by_cases c20:(ji18)<(l0_1.length:Int)
            ·rw [if_pos c20] at H;have c20b0:decide ((ji18)<(l0_1.length:Int))=true:=decide_eq_true c20;clear c20
             by_cases c21:((rd_T64 l0_1 (ji18)).f0) ≥ ((rd_T64 l0_1 x3_2).f0)
             ·rw [if_pos c21] at H;have c21b0:decide (((rd_T64 l0_1 x3_2).f0)≤((rd_T64 l0_1 (ji18)).f0))=true:=decide_eq_true c21;clear c21;obtain rfl:=Option.some.inj H;obtain ⟨hcz22_0,hcz22_1,hfz22_0,hfz22_1⟩:=box2 BK273.out
              try go_wp2
              replace BK273:=mA (blk_drew BK273.out);replace HB:=mA (below_drew1 HB.out);have p275:0≤(x3_2:Int):=of_decide_eq_true bA;have q275:x3_2<(l0_1.length:Int):=of_decide_eq_true bA;obtain ⟨ad275,e275,hs275⟩:=at_R64 HR0_1.out x3_2 p275 q275;cases e275;replace p275:=eq_true p275;replace q275:=eq_true q275;have p277:0≤(x3_2:Int):=of_decide_eq_true bA;have q277:x3_2<(l0_1.length:Int):=of_decide_eq_true bA;obtain ⟨ad277,e277,hs277⟩:=at_R64 HR0_1.out x3_2 p277 q277
              obtain rfl:ad275=ad277:=(by injection e277)
              replace p277:=eq_true p277;replace q277:=eq_true q277;have p278:0≤((ji18):Int):=of_decide_eq_true bA;have q278:(ji18)<(l0_1.length:Int):=of_decide_eq_true bA;obtain ⟨ad278,e278,hs278⟩:=at_R64 HR0_1.out (ji18) p278 q278
              obtain rfl:ad275=ad278:=(by injection e278)
              replace p278:=eq_true p278;replace q278:=eq_true q278;have p279:0≤(x3_2:Int):=of_decide_eq_true bA;have q279:x3_2<(l0_1.length:Int):=of_decide_eq_true bA;obtain ⟨ad279,e279,hs279⟩:=at_R64 HR0_1.out x3_2 p279 q279
              obtain rfl:ad275=ad279:=(by injection e279)
              replace p279:=eq_true p279;replace q279:=eq_true q279
              refine start_ (n:=38) (S:=fun w'=>w'.cell? ⟨gb273,0,none⟩=some (.int .i64 a0_0)∧w'.cell? ⟨gb273,1,none⟩=some (.slice (some ad275) l0_1.length c0_1)∧RS w' (ad275.add ((x3_2).toNat * 12)) (d64 (rd_T64 l0_1 x3_2))∧RS w' (ad275.add ((x3_2).toNat * 12)) (d64 (rd_T64 l0_1 x3_2))∧RS w' (ad275.add (((ji18)).toNat * 12)) (d64 (rd_T64 l0_1 (ji18)))∧RS w' (ad275.add ((x3_2).toNat * 12)) (d64 (rd_T64 l0_1 x3_2))) (ds:=[]) _ aK rfl rfl ⟨eC BK273 0,eC BK273 1,rS HB hs275,rS HB hs277,rS HB hs278,rS HB hs279⟩ (fun hHeld=>?_);refine with_tabW spec_SynVoterOk.tab6 spec_SynVoterOk.bits6 (fun HT_ HW_=>?_)
              generalize wr.drew=w23 at BK273 HB hHeld ⊢
              refine qu 0 ?_;refine qu 2 ?_;refine qt 1 ?_;refine qu 3 ?_;refine qt 4 ?_
              refine qo 5 ?_;intro K hK
              refine gD Try.func86 (spec_l21PaperOk.calls A11.out) ?_
              rintro e w24 ⟨rfl,hb⟩;refine ⟨_,rfl,?_⟩;replace BK273:=bK BK273 hb;replace HB:=spS HB hb
              (try clear hb)
              refine hK.out _ _ ⟨eC BK273 0,eC BK273 1,rS HB hs275,rS HB hs277,rS HB hs278,rS HB hs279⟩ (fun hHeld=>?_);clear hK K;refine no_ (some 26) ?_;refine qu 6 ?_;refine qu 7 ?_;refine qu 8 ?_;refine qu 10 ?_;refine qu 14 ?_;refine qt 9 ?_;refine qu 11 ?_;refine qu 12 ?_;refine qt 13 ?_;refine qt 15 ?_;refine qu 16 ?_;refine qu 17 ?_;refine qu 18 ?_;refine qu 19 ?_;refine qu 20 ?_;refine qu 21 ?_;refine qu 22 ?_;refine qu 24 ?_;refine qu 25 ?_;refine qu 29 ?_;refine qu 31 ?_;refine qt 23 ?_;refine qu 26 ?_;refine qu 27 ?_;refine qt 28 ?_;refine qt 30 ?_;refine qu 32 ?_;refine qu 33 ?_;refine qt 34 ?_;refine qu 35 ?_;refine qu 36 ?_;refine qu 37 ?_;refine qe ?_
              try go_wp2
              go_ret
              exact ⟨by first|rfl|(simp [errW_none,errW_some]<;>rfl)|(simp only [← hji18];first|rfl|(simp [errW_none,errW_some]<;>rfl))|(simp [*,errW_none,errW_some]<;>rfl),pS HB.out⟩
             ·rw [if_neg c21] at H;have c21b0:decide (((rd_T64 l0_1 x3_2).f0)≤((rd_T64 l0_1 (ji18)).f0))=false:=decide_eq_false c21;clear c21;have H':=mA H;clear H;obtain ⟨hcz25_0,hcz25_1,hfz25_0,hfz25_1⟩:=box2 BK273.out
              try go_wp2
              replace BK273:=mA (blk_drew BK273.out);replace HB:=mA (below_drew1 HB.out);have p275:0≤(x3_2:Int):=of_decide_eq_true bA;have q275:x3_2<(l0_1.length:Int):=of_decide_eq_true bA;obtain ⟨ad275,e275,hs275⟩:=at_R64 HR0_1.out x3_2 p275 q275;cases e275;replace p275:=eq_true p275;replace q275:=eq_true q275;have p277:0≤(x3_2:Int):=of_decide_eq_true bA;have q277:x3_2<(l0_1.length:Int):=of_decide_eq_true bA;obtain ⟨ad277,e277,hs277⟩:=at_R64 HR0_1.out x3_2 p277 q277
              obtain rfl:ad275=ad277:=(by injection e277)
              replace p277:=eq_true p277;replace q277:=eq_true q277;have p278:0≤((ji18):Int):=of_decide_eq_true bA;have q278:(ji18)<(l0_1.length:Int):=of_decide_eq_true bA;obtain ⟨ad278,e278,hs278⟩:=at_R64 HR0_1.out (ji18) p278 q278
              obtain rfl:ad275=ad278:=(by injection e278)
              replace p278:=eq_true p278;replace q278:=eq_true q278;have p279:0≤(x3_2:Int):=of_decide_eq_true bA;have q279:x3_2<(l0_1.length:Int):=of_decide_eq_true bA;obtain ⟨ad279,e279,hs279⟩:=at_R64 HR0_1.out x3_2 p279 q279
              obtain rfl:ad275=ad279:=(by injection e279)
              replace p279:=eq_true p279;replace q279:=eq_true q279
              refine start_ (n:=38) (S:=fun w'=>w'.cell? ⟨gb273,0,none⟩=some (.int .i64 a0_0)∧w'.cell? ⟨gb273,1,none⟩=some (.slice (some ad275) l0_1.length c0_1)∧RS w' (ad275.add ((x3_2).toNat * 12)) (d64 (rd_T64 l0_1 x3_2))∧RS w' (ad275.add ((x3_2).toNat * 12)) (d64 (rd_T64 l0_1 x3_2))∧RS w' (ad275.add (((ji18)).toNat * 12)) (d64 (rd_T64 l0_1 (ji18)))∧RS w' (ad275.add ((x3_2).toNat * 12)) (d64 (rd_T64 l0_1 x3_2))) (ds:=[]) _ aK rfl rfl ⟨eC BK273 0,eC BK273 1,rS HB hs275,rS HB hs277,rS HB hs278,rS HB hs279⟩ (fun hHeld=>?_);refine with_tabW spec_SynVoterOk.tab6 spec_SynVoterOk.bits6 (fun HT_ HW_=>?_)
              generalize wr.drew=w26 at BK273 HB hHeld ⊢
              refine qu 0 ?_;refine qu 2 ?_;refine qt 1 ?_;refine qu 3 ?_;refine qt 4 ?_
              refine qo 5 ?_;intro K hK
              refine gD Try.func86 (spec_l21PaperOk.calls A11.out) ?_
              rintro e w27 ⟨rfl,hb⟩;refine ⟨_,rfl,?_⟩;replace BK273:=bK BK273 hb;replace HB:=spS HB hb
              (try clear hb)
              refine hK.out _ _ ⟨eC BK273 0,eC BK273 1,rS HB hs275,rS HB hs277,rS HB hs278,rS HB hs279⟩ (fun hHeld=>?_);clear hK K;refine no_ (some 26) ?_;refine qu 6 ?_;refine qu 7 ?_;refine qu 8 ?_;refine qu 10 ?_;refine qu 14 ?_;refine qt 9 ?_;refine qu 11 ?_;refine qu 12 ?_;refine qt 13 ?_;refine qt 15 ?_;refine qu 16 ?_;refine qu 17 ?_;refine qu 18 ?_;refine qu 19 ?_;refine qu 20 ?_;refine qu 21 ?_;refine qu 22 ?_;refine qu 24 ?_;refine qu 25 ?_;refine qu 29 ?_;refine qu 31 ?_;refine qt 23 ?_;refine qu 26 ?_;refine qu 27 ?_;refine qt 28 ?_;refine qt 30 ?_;refine qu 32 ?_;refine qu 33 ?_;refine qt 34 ?_;refine qu 35 ?_;refine qu 36 ?_;refine qu 37 ?_;refine qe ?_
              try go_wp2
              go_roundg k2
              case measure=>have:=HJ1.out;have:=HK2.out;omega
              case rel=>exact ⟨(wrap64 (x3_2+1)),bZ,H',⟨by have:=HJ1.out;have:=HK2.out;omega⟩,⟨pK BK273.out⟩,⟨pS HB.out⟩⟩
            ·rw [if_neg c20] at H
             exact absurd H (by simp)
           ·rw [if_neg c19] at H
            exact absurd H (by simp)
          ·rw [if_neg c17] at H;have c17b0:decide (0<x3_2)=false:=decide_eq_false c17;clear c17;have H':=mA H;clear H;obtain ⟨hcz28_0,hcz28_1,hfz28_0,hfz28_1⟩:=box2 BK273.out
           try go_wp2
           replace BK273:=mA (blk_drew BK273.out);replace HB:=mA (below_drew1 HB.out);have p275:0≤(x3_2:Int):=of_decide_eq_true bA;have q275:x3_2<(l0_1.length:Int):=of_decide_eq_true bA;obtain ⟨ad275,e275,hs275⟩:=at_R64 HR0_1.out x3_2 p275 q275;cases e275;replace p275:=eq_true p275;replace q275:=eq_true q275;have p277:0≤(x3_2:Int):=of_decide_eq_true bA;have q277:x3_2<(l0_1.length:Int):=of_decide_eq_true bA;obtain ⟨ad277,e277,hs277⟩:=at_R64 HR0_1.out x3_2 p277 q277
           obtain rfl:ad275=ad277:=(by injection e277)
           replace p277:=eq_true p277;replace q277:=eq_true q277
           refine start_ (n:=38) (S:=fun w'=>w'.cell? ⟨gb273,0,none⟩=some (.int .i64 a0_0)∧w'.cell? ⟨gb273,1,none⟩=some (.slice (some ad275) l0_1.length c0_1)∧RS w' (ad275.add ((x3_2).toNat * 12)) (d64 (rd_T64 l0_1 x3_2))∧RS w' (ad275.add ((x3_2).toNat * 12)) (d64 (rd_T64 l0_1 x3_2))) (ds:=[]) _ aK rfl rfl ⟨eC BK273 0,eC BK273 1,rS HB hs275,rS HB hs277⟩ (fun hHeld=>?_);refine with_tabW spec_SynVoterOk.tab6 spec_SynVoterOk.bits6 (fun HT_ HW_=>?_)
           generalize wr.drew=w29 at BK273 HB hHeld ⊢
           refine qu 0 ?_;refine qu 2 ?_;refine qt 1 ?_;refine qu 3 ?_;refine qt 4 ?_
           refine qo 5 ?_;intro K hK
           refine gD Try.func86 (spec_l21PaperOk.calls A11.out) ?_
           rintro e w30 ⟨rfl,hb⟩;refine ⟨_,rfl,?_⟩;replace BK273:=bK BK273 hb;replace HB:=spS HB hb
           (try clear hb)
           refine hK.out _ _ ⟨eC BK273 0,eC BK273 1,rS HB hs275,rS HB hs277⟩ (fun hHeld=>?_);clear hK K;refine no_ (some 26) ?_;refine qu 6 ?_;refine qu 7 ?_;refine qu 8 ?_;refine qu 10 ?_;refine qu 14 ?_;refine qt 9 ?_;refine qu 11 ?_;refine qu 12 ?_;refine qt 13 ?_;refine qt 15 ?_;refine qu 16 ?_;refine qu 17 ?_;refine qu 18 ?_;refine qu 19 ?_;refine qu 20 ?_;refine qu 21 ?_;refine qd 22 ?_;refine qd 23 ?_;refine qd 24 ?_;refine qd 25 ?_;refine qd 26 ?_;refine qd 27 ?_;refine qd 28 ?_;refine qd 29 ?_;refine qd 30 ?_;refine qd 31 ?_;refine qd 32 ?_;refine qd 33 ?_;refine qd 34 ?_;refine qd 35 ?_;refine qu 36 ?_;refine qu 37 ?_;refine qe ?_
           try go_wp2
           go_roundg k2
           case measure=>have:=HJ1.out;have:=HK2.out;omega
           case rel=>exact ⟨(wrap64 (x3_2+1)),bZ,H',⟨by have:=HJ1.out;have:=HK2.out;omega⟩,⟨pK BK273.out⟩,⟨pS HB.out⟩⟩
        ·replace c12:=Bool.eq_false_iff.mpr c12;subst c12
         rw [if_neg nFT] at H
         obtain rfl:=Option.some.inj H;obtain ⟨hcz31_0,hcz31_1,hfz31_0,hfz31_1⟩:=box2 BK273.out
         try go_wp2
         replace BK273:=mA (blk_drew BK273.out);replace HB:=mA (below_drew1 HB.out);have p275:0≤(x3_2:Int):=of_decide_eq_true bA;have q275:x3_2<(l0_1.length:Int):=of_decide_eq_true bA;obtain ⟨ad275,e275,hs275⟩:=at_R64 HR0_1.out x3_2 p275 q275;cases e275;replace p275:=eq_true p275;replace q275:=eq_true q275
         refine start_ (n:=38) (S:=fun w'=>w'.cell? ⟨gb273,0,none⟩=some (.int .i64 a0_0)∧w'.cell? ⟨gb273,1,none⟩=some (.slice (some ad275) l0_1.length c0_1)∧RS w' (ad275.add ((x3_2).toNat * 12)) (d64 (rd_T64 l0_1 x3_2))) (ds:=[]) _ aK rfl rfl ⟨eC BK273 0,eC BK273 1,rS HB hs275⟩ (fun hHeld=>?_);refine with_tabW spec_SynVoterOk.tab6 spec_SynVoterOk.bits6 (fun HT_ HW_=>?_)
         generalize wr.drew=w32 at BK273 HB hHeld ⊢
         refine qu 0 ?_;refine qu 2 ?_;refine qt 1 ?_;refine qu 3 ?_;refine qt 4 ?_
         refine qo 5 ?_;intro K hK
         refine gD Try.func86 (spec_l21PaperOk.calls A11.out) ?_
         rintro e w33 ⟨rfl,hb⟩;refine ⟨_,rfl,?_⟩;replace BK273:=bK BK273 hb;replace HB:=spS HB hb
         (try clear hb)
         refine hK.out _ _ ⟨eC BK273 0,eC BK273 1,rS HB hs275⟩ (fun hHeld=>?_);clear hK K;refine no_ (some 26) ?_;refine qu 6 ?_;refine qu 7 ?_;refine qd 8 ?_;refine qd 9 ?_;refine qd 10 ?_;refine qd 11 ?_;refine qd 12 ?_;refine qd 13 ?_;refine qd 14 ?_;refine qd 15 ?_;refine qd 16 ?_;refine qu 17 ?_;refine qu 18 ?_;refine qd 19 ?_;refine qd 20 ?_;refine qd 21 ?_;refine qd 22 ?_;refine qd 23 ?_;refine qd 24 ?_;refine qd 25 ?_;refine qd 26 ?_;refine qd 27 ?_;refine qd 28 ?_;refine qd 29 ?_;refine qd 30 ?_;refine qd 31 ?_;refine qd 32 ?_;refine qd 33 ?_;refine qd 34 ?_;refine qd 35 ?_;refine qd 36 ?_;refine qu 37 ?_;refine qe ?_
         try go_wp2
         go_ret
         exact rZ (pS HB.out)
       ·rw [if_neg c10] at H
        exact absurd H (by simp)
      ·rw [if_neg c9] at H;have c9b0:decide (x3_2<(l0_1.length:Int))=false:=decide_eq_false c9;clear c9;obtain rfl:=Option.some.inj H;obtain ⟨hcz34_0,hcz34_1,hfz34_0,hfz34_1⟩:=box2 BK273.out
       go_wp2
       go_ret
       exact rZ (pS HB.out)
/-! ### spec_l21Paper: function 104 -/
def spec_l21Paper.l0 : Nat → List (S64) → Int → Int → Option (Int)
 | 0,_,_,_=>none
 | k+1,x0,x1,x5=>if x5<(x0.length:Int) then (if 0≤x5 then (if ((rd_T64 x0 x5).f0)=x1 then (some x5) else (spec_l21Paper.l0 k x0 x1 (wrap64 (x5+1)))) else (none)) else (some (-1))
def spec_l21Paper.f (k : Nat) (l0 : List (S64)) (a1 : Int) : Option (Int) := spec_l21Paper.l0 k l0 a1 0
set_option maxHeartbeats 8000000 in
set_option maxRecDepth 100000 in
theorem spec_l21Paper.calls {k : Nat} {A0 : Option Addr} {c0 : Nat} {l0 : List (S64)} {a1 r : Int} {w : World} (hr0 : Kd.C k64 w A0 l0.length l0) (hc0 : l0.length ≤ c0) (h : spec_l21Paper.f k l0 a1 = some r) :
  Calls Try.prog 104 #[.slice A0 l0.length c0,.int .i64 a1] w fun e w'=>e=.returned (.int .i64 r)∧Drawn0 w w':=by
 have HR0:=mA hr0;have HC0:=mA hc0;clear hr0 hc0;have H:(spec_l21Paper.l0 k l0 a1 0)=some r:=h;clear h;have H':=mA H;clear H
 go_enter Try.func104,Try.ntmps104
 go_wp2_with (first|((with_reducible refine gLg rfl (by assumption) ?_);first|refine ldW ?_|refine ldX ?_))
 go_loopg [5] k (fun kq v5 w'=>∃ (x5_1:Int),v5=.int .i64 x5_1∧Aside0 (spec_l21Paper.l0 kq l0 a1 x5_1=some r)∧Aside0 (kq≤k)∧Drawn0 w w')
 case atStart=>exact ⟨(0),bZ,H',⟨Nat.le_refl _⟩,by repeat (first|exact Drawn0.refl _|apply Drawn0.step)⟩
 case round =>
  clear H'
  obtain ⟨x5_1,rfl,HA,HK1,⟨m1,rfl⟩⟩:=hrel
  cases gk with
  | zero=>exact absurd HA.out (by simp [spec_l21Paper.l0])
  | succ k1 =>
   have H:=HA.out;clear HA;simp only [spec_l21Paper.l0] at H
   by_cases c3:x5_1<(l0.length:Int)
   ·rw [if_pos c3] at H;have c3b0:decide (x5_1<(l0.length:Int))=true:=decide_eq_true c3;clear c3
    by_cases c4:0≤x5_1
    ·rw [if_pos c4] at H;have c4b0:decide (0≤x5_1)=true:=decide_eq_true c4;clear c4
     by_cases c5:((rd_T64 l0 x5_1).f0)=a1
     ·rw [if_pos c5] at H;obtain ⟨c5b0,c5b1⟩:=eqB c5;clear c5;obtain rfl:=Option.some.inj H;have p280:0≤(x5_1:Int):=of_decide_eq_true bA;have q280:x5_1<(l0.length:Int):=of_decide_eq_true bA;obtain ⟨ad280,e280,hs280⟩:=at_R64 HR0.out x5_1 p280 q280;have hx280_0:=RS.hd hs280 rfl;cases e280;replace p280:=eq_true p280;replace q280:=eq_true q280
      go_wp2_with (first|((with_reducible refine gLg rfl (by assumption) ?_);first|refine ldW ?_|refine ldX ?_))
      go_ret
      exact ⟨by first|rfl|(simp;done)|(simp [*];done),by repeat (first|exact Drawn0.refl _|apply Drawn0.step)⟩
     ·rw [if_neg c5] at H;have c5b0:(((rd_T64 l0 x5_1).f0) == a1)=false:=beq_eq_false_iff_ne.mpr c5;have c5b1:(((rd_T64 l0 x5_1).f0) != a1)=true:=bne_iff_ne.mpr c5;have H':=mA H;clear H;have p280:0≤(x5_1:Int):=of_decide_eq_true bA;have q280:x5_1<(l0.length:Int):=of_decide_eq_true bA;obtain ⟨ad280,e280,hs280⟩:=at_R64 HR0.out x5_1 p280 q280;have hx280_0:=RS.hd hs280 rfl;cases e280;replace p280:=eq_true p280;replace q280:=eq_true q280
      go_wp2_with (first|((with_reducible refine gLg rfl (by assumption) ?_);first|refine ldW ?_|refine ldX ?_))
      go_roundg k1
      case measure=>have:=HK1.out;omega
      case rel=>exact ⟨(wrap64 (x5_1+1)),bZ,H',⟨by have:=HK1.out;omega⟩,by repeat (first|exact Drawn0.refl _|apply Drawn0.step)⟩
    ·rw [if_neg c4] at H
     exact absurd H (by simp)
   ·rw [if_neg c3] at H;have c3b0:decide (x5_1<(l0.length:Int))=false:=decide_eq_false c3;clear c3;obtain rfl:=Option.some.inj H
    go_wp2_with (first|((with_reducible refine gLg rfl (by assumption) ?_);first|refine ldW ?_|refine ldX ?_))
    go_ret
    exact ⟨by first|rfl|(simp;done)|(simp [*];done),by repeat (first|exact Drawn0.refl _|apply Drawn0.step)⟩
/-! ### spec_l21Put: function 105 -/
mutual
def spec_l21Put.j4 : Nat → List (S64) → Bool → Int → Int → Int → Int → Int → Int → Int → Int → Int → Int → Int → Int → Option ((List (S64)))
 | 0,_,_,_,_,_,_,_,_,_,_,_,_,_,_=>none
 | k+1,x5,x6,x282000,x282001,x282002,x282003,x282004,x282005,x282006,x282007,x282008,x282009,x282010,x282011=>if x6=true then (some x5) else (if x5.length<1466015503701 then (some (x5 ++ [(⟨x282000,x282001,(⟨x282002,x282003,x282004,x282005,x282006,x282007,x282008,x282009,x282010,x282011⟩:S24)⟩:S64)])) else (none))
def spec_l21Put.l0 : Nat → List (S64) → List (S64) → Bool → Int → Int → Int → Int → Int → Int → Int → Int → Int → Int → Int → Int → Int → Option ((List (S64)))
 | 0,_,_,_,_,_,_,_,_,_,_,_,_,_,_,_,_=>none
 | k+1,x0,x5,x6,x7,x282000,x282001,x282002,x282003,x282004,x282005,x282006,x282007,x282008,x282009,x282010,x282011=>if x7<(x0.length:Int) then (spec_l21Put.j1 k x0 x5 x6 x7 x282000 x282001 x282002 x282003 x282004 x282005 x282006 x282007 x282008 x282009 x282010 x282011) else (spec_l21Put.j4 k x5 x6 x282000 x282001 x282002 x282003 x282004 x282005 x282006 x282007 x282008 x282009 x282010 x282011)
def spec_l21Put.j1 : Nat → List (S64) → List (S64) → Bool → Int → Int → Int → Int → Int → Int → Int → Int → Int → Int → Int → Int → Int → Option ((List (S64)))
 | 0,_,_,_,_,_,_,_,_,_,_,_,_,_,_,_,_=>none
 | k+1,x0,x5,x6,x7,x282000,x282001,x282002,x282003,x282004,x282005,x282006,x282007,x282008,x282009,x282010,x282011=>if x6=true then (spec_l21Put.j2 k x0 x5 x6 x7 false x282000 x282001 x282002 x282003 x282004 x282005 x282006 x282007 x282008 x282009 x282010 x282011) else (if 0≤x7 then (if x7<(x0.length:Int) then (spec_l21Put.j2 k x0 x5 x6 x7 (decide (((rd_T64 x0 x7).f0) ≥ x282000)) x282000 x282001 x282002 x282003 x282004 x282005 x282006 x282007 x282008 x282009 x282010 x282011) else (none)) else (none))
def spec_l21Put.j2 : Nat → List (S64) → List (S64) → Bool → Int → Bool → Int → Int → Int → Int → Int → Int → Int → Int → Int → Int → Int → Int → Option ((List (S64)))
 | 0,_,_,_,_,_,_,_,_,_,_,_,_,_,_,_,_,_=>none
 | k+1,x0,x5,x6,x7,x26,x282000,x282001,x282002,x282003,x282004,x282005,x282006,x282007,x282008,x282009,x282010,x282011=>if x26=true then (if x5.length<1466015503701 then (spec_l21Put.j3 k x0 (x5 ++ [(⟨x282000,x282001,(⟨x282002,x282003,x282004,x282005,x282006,x282007,x282008,x282009,x282010,x282011⟩:S24)⟩:S64)]) true x7 x282000 x282001 x282002 x282003 x282004 x282005 x282006 x282007 x282008 x282009 x282010 x282011) else (none)) else (spec_l21Put.j3 k x0 x5 x6 x7 x282000 x282001 x282002 x282003 x282004 x282005 x282006 x282007 x282008 x282009 x282010 x282011)
def spec_l21Put.j3 : Nat → List (S64) → List (S64) → Bool → Int → Int → Int → Int → Int → Int → Int → Int → Int → Int → Int → Int → Int → Option ((List (S64)))
 | 0,_,_,_,_,_,_,_,_,_,_,_,_,_,_,_,_=>none
 | k+1,x0,x5,x6,x7,x282000,x282001,x282002,x282003,x282004,x282005,x282006,x282007,x282008,x282009,x282010,x282011=>if 0≤x7 then (if x7<(x0.length:Int) then (if ((rd_T64 x0 x7).f0)=x282000 then (spec_l21Put.l0 k x0 x5 x6 (wrap64 (x7+1)) x282000 x282001 x282002 x282003 x282004 x282005 x282006 x282007 x282008 x282009 x282010 x282011) else (if x5.length<1466015503701 then (spec_l21Put.l0 k x0 (x5 ++ [(⟨(rd_T64 x0 x7).f0,(rd_T64 x0 x7).f1,(⟨(rd_T64 x0 x7).f2.f0,(rd_T64 x0 x7).f2.f1,(rd_T64 x0 x7).f2.f2,(rd_T64 x0 x7).f2.f3,(rd_T64 x0 x7).f2.f4,(rd_T64 x0 x7).f2.f5,(rd_T64 x0 x7).f2.f6,(rd_T64 x0 x7).f2.f7,(rd_T64 x0 x7).f2.f8,(rd_T64 x0 x7).f2.f9⟩:S24)⟩:S64)]) x6 (wrap64 (x7+1)) x282000 x282001 x282002 x282003 x282004 x282005 x282006 x282007 x282008 x282009 x282010 x282011) else (none))) else (none)) else (none)
end
def spec_l21Put.f (k : Nat) (l0 : List (S64)) (a1_0 a1_1 a1_2 a1_3 a1_4 a1_5 a1_6 a1_7 a1_8 a1_9 a1_10 a1_11 : Int) : Option ((List (S64))) := spec_l21Put.l0 k l0 (([] : List (S64))) false 0 a1_0 a1_1 a1_2 a1_3 a1_4 a1_5 a1_6 a1_7 a1_8 a1_9 a1_10 a1_11
set_option maxHeartbeats 8000000 in
set_option maxRecDepth 100000 in
theorem spec_l21Put.calls {k : Nat} {A0 : Option Addr} {c0 : Nat} {l0 : List (S64)} {a1_0 a1_1 a1_2 a1_3 a1_4 a1_5 a1_6 a1_7 a1_8 a1_9 a1_10 a1_11 : Int} {r : List (S64)} {w : World} (hr0 : Kd.C k64 w A0 l0.length l0) (hc0 : l0.length ≤ c0) (h : spec_l21Put.f k l0 a1_0 a1_1 a1_2 a1_3 a1_4 a1_5 a1_6 a1_7 a1_8 a1_9 a1_10 a1_11 = some r) :
  Calls Try.prog 105 #[.slice A0 l0.length c0,.agg #[.int .i64 a1_0,.int .i64 a1_1,.int .i64 a1_2,.int .i64 a1_3,.int .i64 a1_4,.int .i64 a1_5,.int .i64 a1_6,.int .i64 a1_7,.int .i64 a1_8,.int .i64 a1_9,.int .i64 a1_10,.int .i64 a1_11]] w fun e w'=>∃ v0_:Value,e=.returned (v0_)∧Kd.R k64 64 w' w.heap.size (fun _=>True) v0_ r∧Below w.heap.size w w':=by
 have hu64:=Try.underlying64;have HR0:=mA hr0;have HC0:=mA hc0;clear hr0 hc0;have HB:=mA (Below.refl w.heap.size w);have H:(spec_l21Put.l0 k l0 (([]:List (S64))) false 0 a1_0 a1_1 a1_2 a1_3 a1_4 a1_5 a1_6 a1_7 a1_8 a1_9 a1_10 a1_11)=some r:=h;clear h;obtain ⟨y282,hy282⟩:∃ y_:List (S64),y_=(([]:List (S64))):=⟨_,rfl⟩
 replace H:(spec_l21Put.l0 k l0 y282 false 0 a1_0 a1_1 a1_2 a1_3 a1_4 a1_5 a1_6 a1_7 a1_8 a1_9 a1_10 a1_11)=some r:=qH hy282 H
 have Ny282:=mA hy282;clear hy282;have HC3:=mA H;clear H
 go_enter Try.func105,Try.ntmps105
 go_upto_block 0 with (first|((with_reducible refine gLg rfl (by assumption) ?_);first|refine ldW ?_|refine ldX ?_)|((with_reducible refine gLg rfl (by assumption) ?_);refine ldV ?_)|((with_reducible refine gSt rfl (by assumption) ?_);refine stV ?_)|((with_reducible refine gT 3 rfl ?_);refine bX 3 ?_;intro gb281 hg w4 hbox hb;have BK281:=mA hbox;have GW281:=gbpB HB hg;have GE281:=gbpB HB hg;replace HB:=spB HB hb;clear hb hbox hg)|((with_reducible refine gT 8 rfl ?_);refine Kd.R_lit k64 _ 64 ?hg (N:=8) ?hd (xs:=([]:List (S64))) (inner:=[]) (ok:=fun _=>True) (okp:=fun _=>True) ?hr ?hp (fun _ hk=>hk) trivial (Below.refl _ _) (Nat.le_refl _) (by simp) ?_;(case hd=>rfl);(case hg=>rfl);(case hr=>first|(go_simp;done)|(go_simp;rfl));(case hp=>exact (Reps.none _ _));intro v283 w5 ho6 hb hg_ hnew_;clear hg_ hnew_;(first|rw [← Ny282.out] at ho6|(simp only [Int.reduceToNat] at ho6;rw [← Ny282.out] at ho6));have HO284:=mA (Kd.R_lower (Kd.R_newB ho6 (g:=gb281) (o:=.cells #[.int .i64 a1_0,.int .i64 a1_1,.int .i64 a1_2,.int .i64 a1_3,.int .i64 a1_4,.int .i64 a1_5,.int .i64 a1_6,.int .i64 a1_7,.int .i64 a1_8,.int .i64 a1_9,.int .i64 a1_10,.int .i64 a1_11] 64 (0,0)) (pK BK281.out)) (bpS HB));replace BK281:=bK BK281 hb;replace HB:=spS HB hb;clear hb ho6))
 repeat (go_quiet (first|((with_reducible refine gT 3 rfl ?_);refine bX 3 ?_;intro gb281 hg w4 hbox hb;have BK281:=mA hbox;have GW281:=gbpB HB hg;have GE281:=gbpB HB hg;replace HB:=spB HB hb;clear hb hbox hg)|((with_reducible refine gT 8 rfl ?_);refine Kd.R_lit k64 _ 64 ?hg (N:=8) ?hd (xs:=([]:List (S64))) (inner:=[]) (ok:=fun _=>True) (okp:=fun _=>True) ?hr ?hp (fun _ hk=>hk) trivial (Below.refl _ _) (Nat.le_refl _) (by simp) ?_;(case hd=>rfl);(case hg=>rfl);(case hr=>first|(go_simp;done)|(go_simp;rfl));(case hp=>exact (Reps.none _ _));intro v283 w5 ho6 hb hg_ hnew_;clear hg_ hnew_;(first|rw [← Ny282.out] at ho6|(simp only [Int.reduceToNat] at ho6;rw [← Ny282.out] at ho6));have HO284:=mA (Kd.R_lower (Kd.R_newB ho6 (g:=gb281) (o:=.cells #[.int .i64 a1_0,.int .i64 a1_1,.int .i64 a1_2,.int .i64 a1_3,.int .i64 a1_4,.int .i64 a1_5,.int .i64 a1_6,.int .i64 a1_7,.int .i64 a1_8,.int .i64 a1_9,.int .i64 a1_10,.int .i64 a1_11] 64 (0,0)) (pK BK281.out)) (bpS HB));replace BK281:=bK BK281 hb;replace HB:=spS HB hb;clear hb ho6));go_upto_block 0 with (first|((with_reducible refine gLg rfl (by assumption) ?_);first|refine ldW ?_|refine ldX ?_)|((with_reducible refine gLg rfl (by assumption) ?_);refine ldV ?_)|((with_reducible refine gSt rfl (by assumption) ?_);refine stV ?_)|((with_reducible refine gT 3 rfl ?_);refine bX 3 ?_;intro gb281 hg w4 hbox hb;have BK281:=mA hbox;have GW281:=gbpB HB hg;have GE281:=gbpB HB hg;replace HB:=spB HB hb;clear hb hbox hg)|((with_reducible refine gT 8 rfl ?_);refine Kd.R_lit k64 _ 64 ?hg (N:=8) ?hd (xs:=([]:List (S64))) (inner:=[]) (ok:=fun _=>True) (okp:=fun _=>True) ?hr ?hp (fun _ hk=>hk) trivial (Below.refl _ _) (Nat.le_refl _) (by simp) ?_;(case hd=>rfl);(case hg=>rfl);(case hr=>first|(go_simp;done)|(go_simp;rfl));(case hp=>exact (Reps.none _ _));intro v283 w5 ho6 hb hg_ hnew_;clear hg_ hnew_;(first|rw [← Ny282.out] at ho6|(simp only [Int.reduceToNat] at ho6;rw [← Ny282.out] at ho6));have HO284:=mA (Kd.R_lower (Kd.R_newB ho6 (g:=gb281) (o:=.cells #[.int .i64 a1_0,.int .i64 a1_1,.int .i64 a1_2,.int .i64 a1_3,.int .i64 a1_4,.int .i64 a1_5,.int .i64 a1_6,.int .i64 a1_7,.int .i64 a1_8,.int .i64 a1_9,.int .i64 a1_10,.int .i64 a1_11] 64 (0,0)) (pK BK281.out)) (bpS HB));replace BK281:=bK BK281 hb;replace HB:=spS HB hb;clear hb ho6)))
 (try simp only [Act.put,List.setIfInBounds_toArray,List.set_cons_zero,List.set_cons_succ])
 go_cut [5,6] (fun v5 v6 wc=>∃ (kq:Nat) (x5_2:List (S64)) (x6_2:Bool),v6=.bool x6_2∧Aside0 (spec_l21Put.j4 kq x5_2 x6_2 a1_0 a1_1 a1_2 a1_3 a1_4 a1_5 a1_6 a1_7 a1_8 a1_9 a1_10 a1_11=some r)∧Aside0 (kq≤k)∧Aside0 (Kd.R k64 64 wc w.heap.size (fun k_=>k_≠gb281) v5 x5_2)∧Aside0 (wc.heap[gb281]?=some (.cells #[.int .i64 a1_0,.int .i64 a1_1,.int .i64 a1_2,.int .i64 a1_3,.int .i64 a1_4,.int .i64 a1_5,.int .i64 a1_6,.int .i64 a1_7,.int .i64 a1_8,.int .i64 a1_9,.int .i64 a1_10,.int .i64 a1_11] 64 (0,0)))∧Aside0 (Below w.heap.size w wc))
 case first =>
  have H:=HC3.out;clear HC3;have H':=mA H;clear H
  go_wp2_with (first|((with_reducible refine gLg rfl (by assumption) ?_);first|refine ldW ?_|refine ldX ?_)|((with_reducible refine gLg rfl (by assumption) ?_);refine ldV ?_)|((with_reducible refine gSt rfl (by assumption) ?_);refine stV ?_))
  repeat (go_quiet (fail);try go_wp2)
  go_loopg [5,6,7] k (fun kq v5 v6 v7 w'=>∃ (x5_1:List (S64)) (x6_1:Bool) (x7_1:Int),v6=.bool x6_1∧v7=.int .i64 x7_1∧Aside0 (spec_l21Put.l0 kq l0 x5_1 x6_1 x7_1 a1_0 a1_1 a1_2 a1_3 a1_4 a1_5 a1_6 a1_7 a1_8 a1_9 a1_10 a1_11=some r)∧Aside0 (kq≤k)∧Aside0 (Kd.R k64 64 w' w.heap.size (fun k_=>k_≠gb281) v5 x5_1)∧Aside0 (w'.heap[gb281]?=some (.cells #[.int .i64 a1_0,.int .i64 a1_1,.int .i64 a1_2,.int .i64 a1_3,.int .i64 a1_4,.int .i64 a1_5,.int .i64 a1_6,.int .i64 a1_7,.int .i64 a1_8,.int .i64 a1_9,.int .i64 a1_10,.int .i64 a1_11] 64 (0,0)))∧Aside0 (Below w.heap.size w w'))
  case atStart=>exact ⟨(y282),(false),(0),bZ,bZ,H',⟨Nat.le_refl _⟩,⟨pR (Kd.R_mono HO284.out (fun _ hk=>hk.2))⟩,⟨pK BK281.out⟩,⟨pS HB.out⟩⟩
  case round =>
   clear H'
   obtain ⟨x5_1,x6_1,x7_1,rfl,rfl,HA,HK1,HO_5,BK281,HB⟩:=hrel
   cases gk with
   | zero=>exact absurd HA.out (by simp [spec_l21Put.l0])
   | succ k1 =>
    have H:=HA.out;clear HA;simp only [spec_l21Put.l0] at H;have HC7:=mA H;clear H
    go_upto_if 12 with (fail)
    repeat (go_quiet (fail);go_upto_if 12 with (fail))
    go_cut [] (fun wc=>∃ (kq:Nat),Aside0 (spec_l21Put.j1 kq l0 x5_1 x6_1 x7_1 a1_0 a1_1 a1_2 a1_3 a1_4 a1_5 a1_6 a1_7 a1_8 a1_9 a1_10 a1_11=some r)∧Aside0 (kq≤k1)∧Aside0 (Kd.R k64 64 wc w.heap.size (fun k_=>k_≠gb281) u5 x5_1)∧Aside0 (wc.heap[gb281]?=some (.cells #[.int .i64 a1_0,.int .i64 a1_1,.int .i64 a1_2,.int .i64 a1_3,.int .i64 a1_4,.int .i64 a1_5,.int .i64 a1_6,.int .i64 a1_7,.int .i64 a1_8,.int .i64 a1_9,.int .i64 a1_10,.int .i64 a1_11] 64 (0,0)))∧Aside0 (Below w.heap.size w wc))
    case first =>
     have H:=HC7.out;clear HC7
     by_cases c8:x7_1<(l0.length:Int)
     ·rw [if_pos c8] at H;have c8b0:decide (x7_1<(l0.length:Int))=true:=decide_eq_true c8;clear c8
      (first|rw [c8b0]|(simp only [i64_w,i32_w];rw [c8b0])|skip)
      have H':=mA H;clear H
      go_wp2_with (first|((with_reducible refine gLg rfl (by assumption) ?_);first|refine ldW ?_|refine ldX ?_)|((with_reducible refine gLg rfl (by assumption) ?_);refine ldV ?_)|((with_reducible refine gSt rfl (by assumption) ?_);refine stV ?_))
      repeat (go_quiet (fail);try go_wp2)
      go_meet
      case rel=>exact ⟨_,H',⟨by have:=HK1.out;first|omega|exact Nat.le_refl _⟩,⟨pR HO_5.out⟩,⟨pK BK281.out⟩,⟨pS HB.out⟩⟩
     ·rw [if_neg c8] at H;have c8b0:decide (x7_1<(l0.length:Int))=false:=decide_eq_false c8;clear c8
      (first|rw [c8b0]|(simp only [i64_w,i32_w];rw [c8b0])|skip)
      have H':=mA H;clear H
      go_wp2_with (first|((with_reducible refine gLg rfl (by assumption) ?_);first|refine ldW ?_|refine ldX ?_)|((with_reducible refine gLg rfl (by assumption) ?_);refine ldV ?_)|((with_reducible refine gSt rfl (by assumption) ?_);refine stV ?_))
      repeat (go_quiet (fail);try go_wp2)
      go_meet
      case rel=>exact ⟨_,(x5_1),(x6_1),bZ,H',⟨by have:=HK1.out;first|omega|exact Nat.le_refl _⟩,⟨pR HO_5.out⟩,⟨pK BK281.out⟩,⟨pS HB.out⟩⟩
    case rest =>
     clear HC7
     obtain ⟨kq,HA,HJ6,HO_5,BK281,HB⟩:=hcut
     cases kq with
     | zero=>exact absurd HA.out (by simp [spec_l21Put.j1])
     | succ kj6 =>
      have H:=HA.out;clear HA;simp only [spec_l21Put.j1] at H;have HC9:=mA H;clear H
      go_upto_region 6 with (fail)
      repeat (go_quiet (fail);go_upto_region 6 with (fail))
      go_cut [26] (fun v26 wc=>∃ (kq:Nat) (x26_8:Bool),v26=.bool x26_8∧Aside0 (spec_l21Put.j2 kq l0 x5_1 x6_1 x7_1 x26_8 a1_0 a1_1 a1_2 a1_3 a1_4 a1_5 a1_6 a1_7 a1_8 a1_9 a1_10 a1_11=some r)∧Aside0 (kq≤kj6)∧Aside0 (Kd.R k64 64 wc w.heap.size (fun k_=>k_≠gb281) u5 x5_1)∧Aside0 (wc.heap[gb281]?=some (.cells #[.int .i64 a1_0,.int .i64 a1_1,.int .i64 a1_2,.int .i64 a1_3,.int .i64 a1_4,.int .i64 a1_5,.int .i64 a1_6,.int .i64 a1_7,.int .i64 a1_8,.int .i64 a1_9,.int .i64 a1_10,.int .i64 a1_11] 64 (0,0)))∧Aside0 (Below w.heap.size w wc))
      case first =>
       have H:=HC9.out;clear HC9
       by_cases c10:x6_1=true
       ·subst c10;rw [if_pos rfl] at H;have H':=mA H;clear H
        go_wp2_with (first|((with_reducible refine gLg rfl (by assumption) ?_);first|refine ldW ?_|refine ldX ?_)|((with_reducible refine gLg rfl (by assumption) ?_);refine ldV ?_)|((with_reducible refine gSt rfl (by assumption) ?_);refine stV ?_))
        repeat (go_quiet (fail);try go_wp2)
        go_meet
        case rel=>exact ⟨_,(false),bZ,H',⟨by have:=HK1.out;have:=HJ6.out;first|omega|exact Nat.le_refl _⟩,⟨pR HO_5.out⟩,⟨pK BK281.out⟩,⟨pS HB.out⟩⟩
       ·replace c10:=Bool.eq_false_iff.mpr c10;subst c10
        rw [if_neg nFT] at H
        by_cases c11:0≤x7_1
        ·rw [if_pos c11] at H;have c11b0:decide (0≤x7_1)=true:=decide_eq_true c11;clear c11
         (first|rw [c11b0]|(simp only [i64_w,i32_w];rw [c11b0])|skip)
         by_cases c12:x7_1<(l0.length:Int)
         ·rw [if_pos c12] at H;have c12b0:decide (x7_1<(l0.length:Int))=true:=decide_eq_true c12;clear c12;have H':=mA H;clear H;have p285:0≤(x7_1:Int):=of_decide_eq_true bA;have q285:x7_1<(l0.length:Int):=of_decide_eq_true bA;obtain ⟨ad285,e285,hs285⟩:=at_R64 HR0.out x7_1 p285 q285;have hx285_0:=RS.hd hs285 rfl;cases e285;replace hx285_0:=hC HB hx285_0;replace hs285:=rS HB hs285;replace p285:=eq_true p285;replace q285:=eq_true q285;have hcz13_0:=fun i_=>blk_cell BK281.out i_;have hfz13_0:=fun i_=>blk_frozen BK281.out i_
          go_wp2_with (first|((with_reducible refine gLg rfl (by assumption) ?_);first|refine ldW ?_|refine ldX ?_)|((with_reducible refine gLg rfl (by assumption) ?_);refine ldV ?_)|((with_reducible refine gSt rfl (by assumption) ?_);refine stV ?_))
          repeat (go_quiet (fail);try go_wp2)
          go_meet
          case rel=>exact ⟨_,(decide (((rd_T64 l0 x7_1).f0) ≥ a1_0)),bZ,H',⟨by have:=HK1.out;have:=HJ6.out;first|omega|exact Nat.le_refl _⟩,⟨pR HO_5.out⟩,⟨pK BK281.out⟩,⟨pS HB.out⟩⟩
         ·rw [if_neg c12] at H
          exact absurd H (by simp)
        ·rw [if_neg c11] at H
         exact absurd H (by simp)
      case rest =>
       clear HC9
       obtain ⟨kq,x26_8,rfl,HA,HJ8,HO_5,BK281,HB⟩:=hcut
       cases kq with
       | zero=>exact absurd HA.out (by simp [spec_l21Put.j2])
       | succ kj8 =>
        have H:=HA.out;clear HA;simp only [spec_l21Put.j2] at H;have HC14:=mA H;clear H
        go_upto_if 26 with (fail)
        repeat (go_quiet (fail);go_upto_if 26 with (fail))
        go_cut [5,6] (fun v5 v6 wc=>∃ (kq:Nat) (x5_13:List (S64)) (x6_13:Bool),v6=.bool x6_13∧Aside0 (spec_l21Put.j3 kq l0 x5_13 x6_13 x7_1 a1_0 a1_1 a1_2 a1_3 a1_4 a1_5 a1_6 a1_7 a1_8 a1_9 a1_10 a1_11=some r)∧Aside0 (kq≤kj8)∧Aside0 (Kd.R k64 64 wc w.heap.size (fun k_=>k_≠gb281) v5 x5_13)∧Aside0 (wc.heap[gb281]?=some (.cells #[.int .i64 a1_0,.int .i64 a1_1,.int .i64 a1_2,.int .i64 a1_3,.int .i64 a1_4,.int .i64 a1_5,.int .i64 a1_6,.int .i64 a1_7,.int .i64 a1_8,.int .i64 a1_9,.int .i64 a1_10,.int .i64 a1_11] 64 (0,0)))∧Aside0 (Below w.heap.size w wc))
        case first =>
         have H:=HC14.out;clear HC14
         by_cases c15:x26_8=true
         ·subst c15;rw [if_pos rfl] at H
          by_cases c16:x5_1.length<1466015503701
          ·rw [if_pos c16] at H;have LMc16:=mA c16;clear c16;obtain ⟨y286,hy286⟩:∃ y_:List (S64),y_=(x5_1 ++ [(⟨a1_0,a1_1,(⟨a1_2,a1_3,a1_4,a1_5,a1_6,a1_7,a1_8,a1_9,a1_10,a1_11⟩:S24)⟩:S64)]):=⟨_,rfl⟩
           replace H:(spec_l21Put.j3 kj8 l0 y286 true x7_1 a1_0 a1_1 a1_2 a1_3 a1_4 a1_5 a1_6 a1_7 a1_8 a1_9 a1_10 a1_11)=some r:=qH hy286 H
           have Ny286:=mA hy286;clear hy286;have H':=mA H;clear H;have hcz17_0:=fun i_=>blk_cell BK281.out i_;have hfz17_0:=fun i_=>blk_frozen BK281.out i_
           go_wp2_with (first|((with_reducible refine gLg rfl (by assumption) ?_);first|refine ldW ?_|refine ldX ?_)|((with_reducible refine gLg rfl (by assumption) ?_);refine ldV ?_)|((with_reducible refine gSt rfl (by assumption) ?_);refine stV ?_)|((with_reducible refine gate_builtin (b:=.append) (xs:=#[.tmp 27,.tmp 29]) rfl ?_);at_builtin;refine Kd.R_append k64 (w0:=w) w.heap.size rfl (.tmp 27) (.tmp 29) 50 64 (.agg #[(.int .i64 0),(.int .i64 0),(.int .i64 0),(.int .i64 0),(.int .i64 0),(.int .i64 0),(.int .i64 0),(.int .i64 0),(.int .i64 0),(.int .i64 0),(.int .i64 0),(.int .i64 0)]) 96 rfl Try.underlying50 info64 rfl aD (by omega) u5 x5_1 (⟨a1_0,a1_1,(⟨a1_2,a1_3,a1_4,a1_5,a1_6,a1_7,a1_8,a1_9,a1_10,a1_11⟩:S24)⟩:S64) [.int .i64 a1_0,.int .i64 a1_1,.int .i64 a1_2,.int .i64 a1_3,.int .i64 a1_4,.int .i64 a1_5,.int .i64 a1_6,.int .i64 a1_7,.int .i64 a1_8,.int .i64 a1_9,.int .i64 a1_10,.int .i64 a1_11] (fun k_=>k_≠gb281) (fun _=>False) rfl rfl ?aP (fun _ hk=>hk.elim) ?aF ?aO ?aB ?aS ?aL ?_;(case aP=>exact k64_mkM _ _ _ (⟨a1_0,a1_1,(⟨a1_2,a1_3,a1_4,a1_5,a1_6,a1_7,a1_8,a1_9,a1_10,a1_11⟩:S24)⟩:S64));(case aB=>exact (pS HB.out));(case aF=>exact (fun k_ hk=>Kd.freshB (g:=gb281) (o:=.cells #[.int .i64 a1_0,.int .i64 a1_1,.int .i64 a1_2,.int .i64 a1_3,.int .i64 a1_4,.int .i64 a1_5,.int .i64 a1_6,.int .i64 a1_7,.int .i64 a1_8,.int .i64 a1_9,.int .i64 a1_10,.int .i64 a1_11] 64 (0,0)) (pK BK281.out) k_ hk));(case aO=>exact (pR HO_5.out));(case aS=>exact (bpS HB));(case aL=>have:=LMc16.out;omega);intro v287 w18 ho hb hg hat;rw [← Ny286.out] at ho;have HO288:=mA ho;replace BK281:=mA (blk_grown (pK BK281.out) hg (Kd.R_away HO_5.out (fun _ hk=>hk)));replace HB:=mA hb;clear HO_5;clear ho hb hg hat))
           repeat (go_quiet (first|((with_reducible refine gate_builtin (b:=.append) (xs:=#[.tmp 27,.tmp 29]) rfl ?_);at_builtin;refine Kd.R_append k64 (w0:=w) w.heap.size rfl (.tmp 27) (.tmp 29) 50 64 (.agg #[(.int .i64 0),(.int .i64 0),(.int .i64 0),(.int .i64 0),(.int .i64 0),(.int .i64 0),(.int .i64 0),(.int .i64 0),(.int .i64 0),(.int .i64 0),(.int .i64 0),(.int .i64 0)]) 96 rfl Try.underlying50 info64 rfl aD (by omega) u5 x5_1 (⟨a1_0,a1_1,(⟨a1_2,a1_3,a1_4,a1_5,a1_6,a1_7,a1_8,a1_9,a1_10,a1_11⟩:S24)⟩:S64) [.int .i64 a1_0,.int .i64 a1_1,.int .i64 a1_2,.int .i64 a1_3,.int .i64 a1_4,.int .i64 a1_5,.int .i64 a1_6,.int .i64 a1_7,.int .i64 a1_8,.int .i64 a1_9,.int .i64 a1_10,.int .i64 a1_11] (fun k_=>k_≠gb281) (fun _=>False) rfl rfl ?aP (fun _ hk=>hk.elim) ?aF ?aO ?aB ?aS ?aL ?_;(case aP=>exact k64_mkM _ _ _ (⟨a1_0,a1_1,(⟨a1_2,a1_3,a1_4,a1_5,a1_6,a1_7,a1_8,a1_9,a1_10,a1_11⟩:S24)⟩:S64));(case aB=>exact (pS HB.out));(case aF=>exact (fun k_ hk=>Kd.freshB (g:=gb281) (o:=.cells #[.int .i64 a1_0,.int .i64 a1_1,.int .i64 a1_2,.int .i64 a1_3,.int .i64 a1_4,.int .i64 a1_5,.int .i64 a1_6,.int .i64 a1_7,.int .i64 a1_8,.int .i64 a1_9,.int .i64 a1_10,.int .i64 a1_11] 64 (0,0)) (pK BK281.out) k_ hk));(case aO=>exact (pR HO_5.out));(case aS=>exact (bpS HB));(case aL=>have:=LMc16.out;omega);intro v287 w18 ho hb hg hat;rw [← Ny286.out] at ho;have HO288:=mA ho;replace BK281:=mA (blk_grown (pK BK281.out) hg (Kd.R_away HO_5.out (fun _ hk=>hk)));replace HB:=mA hb;clear HO_5;clear ho hb hg hat));try go_wp2_with (first|((with_reducible refine gLg rfl (by assumption) ?_);first|refine ldW ?_|refine ldX ?_)|((with_reducible refine gLg rfl (by assumption) ?_);refine ldV ?_)|((with_reducible refine gSt rfl (by assumption) ?_);refine stV ?_)|((with_reducible refine gate_builtin (b:=.append) (xs:=#[.tmp 27,.tmp 29]) rfl ?_);at_builtin;refine Kd.R_append k64 (w0:=w) w.heap.size rfl (.tmp 27) (.tmp 29) 50 64 (.agg #[(.int .i64 0),(.int .i64 0),(.int .i64 0),(.int .i64 0),(.int .i64 0),(.int .i64 0),(.int .i64 0),(.int .i64 0),(.int .i64 0),(.int .i64 0),(.int .i64 0),(.int .i64 0)]) 96 rfl Try.underlying50 info64 rfl aD (by omega) u5 x5_1 (⟨a1_0,a1_1,(⟨a1_2,a1_3,a1_4,a1_5,a1_6,a1_7,a1_8,a1_9,a1_10,a1_11⟩:S24)⟩:S64) [.int .i64 a1_0,.int .i64 a1_1,.int .i64 a1_2,.int .i64 a1_3,.int .i64 a1_4,.int .i64 a1_5,.int .i64 a1_6,.int .i64 a1_7,.int .i64 a1_8,.int .i64 a1_9,.int .i64 a1_10,.int .i64 a1_11] (fun k_=>k_≠gb281) (fun _=>False) rfl rfl ?aP (fun _ hk=>hk.elim) ?aF ?aO ?aB ?aS ?aL ?_;(case aP=>exact k64_mkM _ _ _ (⟨a1_0,a1_1,(⟨a1_2,a1_3,a1_4,a1_5,a1_6,a1_7,a1_8,a1_9,a1_10,a1_11⟩:S24)⟩:S64));(case aB=>exact (pS HB.out));(case aF=>exact (fun k_ hk=>Kd.freshB (g:=gb281) (o:=.cells #[.int .i64 a1_0,.int .i64 a1_1,.int .i64 a1_2,.int .i64 a1_3,.int .i64 a1_4,.int .i64 a1_5,.int .i64 a1_6,.int .i64 a1_7,.int .i64 a1_8,.int .i64 a1_9,.int .i64 a1_10,.int .i64 a1_11] 64 (0,0)) (pK BK281.out) k_ hk));(case aO=>exact (pR HO_5.out));(case aS=>exact (bpS HB));(case aL=>have:=LMc16.out;omega);intro v287 w18 ho hb hg hat;rw [← Ny286.out] at ho;have HO288:=mA ho;replace BK281:=mA (blk_grown (pK BK281.out) hg (Kd.R_away HO_5.out (fun _ hk=>hk)));replace HB:=mA hb;clear HO_5;clear ho hb hg hat)))
           go_meet
           case rel=>exact ⟨_,(y286),(true),bZ,H',⟨by have:=HK1.out;have:=HJ6.out;have:=HJ8.out;first|omega|exact Nat.le_refl _⟩,⟨pR HO288.out⟩,⟨pK BK281.out⟩,⟨pS HB.out⟩⟩
          ·rw [if_neg c16] at H
           exact absurd H (by simp)
         ·replace c15:=Bool.eq_false_iff.mpr c15;subst c15
          rw [if_neg nFT] at H
          have H':=mA H;clear H
          go_wp2_with (first|((with_reducible refine gLg rfl (by assumption) ?_);first|refine ldW ?_|refine ldX ?_)|((with_reducible refine gLg rfl (by assumption) ?_);refine ldV ?_)|((with_reducible refine gSt rfl (by assumption) ?_);refine stV ?_))
          repeat (go_quiet (fail);try go_wp2)
          go_meet
          case rel=>exact ⟨_,(x5_1),(x6_1),bZ,H',⟨by have:=HK1.out;have:=HJ6.out;have:=HJ8.out;first|omega|exact Nat.le_refl _⟩,⟨pR HO_5.out⟩,⟨pK BK281.out⟩,⟨pS HB.out⟩⟩
        case rest =>
         clear HC14
         obtain ⟨kq,x5_13,x6_13,rfl,HA,HJ13,HO_5,BK281,HB⟩:=hcut
         cases kq with
         | zero=>exact absurd HA.out (by simp [spec_l21Put.j3])
         | succ kj13 =>
          have H:=HA.out;clear HA;simp only [spec_l21Put.j3] at H
          by_cases c19:0≤x7_1
          ·rw [if_pos c19] at H;have c19b0:decide (0≤x7_1)=true:=decide_eq_true c19;clear c19
           by_cases c20:x7_1<(l0.length:Int)
           ·rw [if_pos c20] at H;have c20b0:decide (x7_1<(l0.length:Int))=true:=decide_eq_true c20;clear c20
            by_cases c21:((rd_T64 l0 x7_1).f0)=a1_0
            ·rw [if_pos c21] at H;obtain ⟨c21b0,c21b1⟩:=eqB c21;clear c21;have H':=mA H;clear H;have p289:0≤(x7_1:Int):=of_decide_eq_true bA;have q289:x7_1<(l0.length:Int):=of_decide_eq_true bA;obtain ⟨ad289,e289,hs289⟩:=at_R64 HR0.out x7_1 p289 q289;have hx289_0:=RS.hd hs289 rfl;cases e289;replace hx289_0:=hC HB hx289_0;replace hs289:=rS HB hs289;replace p289:=eq_true p289;replace q289:=eq_true q289;have hcz22_0:=fun i_=>blk_cell BK281.out i_;have hfz22_0:=fun i_=>blk_frozen BK281.out i_
             go_wp2_with (first|((with_reducible refine gLg rfl (by assumption) ?_);first|refine ldW ?_|refine ldX ?_)|((with_reducible refine gLg rfl (by assumption) ?_);refine ldV ?_)|((with_reducible refine gSt rfl (by assumption) ?_);refine stV ?_))
             repeat (go_quiet (fail);try go_wp2)
             go_roundg kj13
             case measure=>have:=HK1.out;have:=HJ6.out;have:=HJ8.out;have:=HJ13.out;omega
             case rel=>exact ⟨(x5_13),(x6_13),(wrap64 (x7_1+1)),bZ,bZ,H',⟨by have:=HK1.out;have:=HJ6.out;have:=HJ8.out;have:=HJ13.out;omega⟩,⟨pR HO_5.out⟩,⟨pK BK281.out⟩,⟨pS HB.out⟩⟩
            ·rw [if_neg c21] at H;have c21b0:(((rd_T64 l0 x7_1).f0) == a1_0)=false:=beq_eq_false_iff_ne.mpr c21;have c21b1:(((rd_T64 l0 x7_1).f0) != a1_0)=true:=bne_iff_ne.mpr c21
             by_cases c23:x5_13.length<1466015503701
             ·rw [if_pos c23] at H;have LMc23:=mA c23;clear c23;obtain ⟨y291,hy291⟩:∃ y_:List (S64),y_=(x5_13 ++ [(⟨(rd_T64 l0 x7_1).f0,(rd_T64 l0 x7_1).f1,(⟨(rd_T64 l0 x7_1).f2.f0,(rd_T64 l0 x7_1).f2.f1,(rd_T64 l0 x7_1).f2.f2,(rd_T64 l0 x7_1).f2.f3,(rd_T64 l0 x7_1).f2.f4,(rd_T64 l0 x7_1).f2.f5,(rd_T64 l0 x7_1).f2.f6,(rd_T64 l0 x7_1).f2.f7,(rd_T64 l0 x7_1).f2.f8,(rd_T64 l0 x7_1).f2.f9⟩:S24)⟩:S64)]):=⟨_,rfl⟩
              replace H:(spec_l21Put.l0 kj13 l0 y291 x6_13 (wrap64 (x7_1+1)) a1_0 a1_1 a1_2 a1_3 a1_4 a1_5 a1_6 a1_7 a1_8 a1_9 a1_10 a1_11)=some r:=qH hy291 H
              have Ny291:=mA hy291;clear hy291;have H':=mA H;clear H;have p289:0≤(x7_1:Int):=of_decide_eq_true bA;have q289:x7_1<(l0.length:Int):=of_decide_eq_true bA;obtain ⟨ad289,e289,hs289⟩:=at_R64 HR0.out x7_1 p289 q289;have hx289_0:=RS.hd hs289 rfl;cases e289;replace hx289_0:=hC HB hx289_0;replace hs289:=rS HB hs289;replace p289:=eq_true p289;replace q289:=eq_true q289;have hcz24_0:=fun i_=>blk_cell BK281.out i_;have hfz24_0:=fun i_=>blk_frozen BK281.out i_;have p290:0≤(x7_1:Int):=of_decide_eq_true bA;have q290:x7_1<(l0.length:Int):=of_decide_eq_true bA;obtain ⟨ad290,e290,hs290⟩:=at_R64 HR0.out x7_1 p290 q290;have hx290_0:=RS.hd hs290 rfl
              obtain rfl:ad289=ad290:=(by injection e290)
              replace hx290_0:=hC HB hx290_0;replace hs290:=rS HB hs290;replace p290:=eq_true p290;replace q290:=eq_true q290
              go_wp2_with (first|((with_reducible refine gLg rfl (by assumption) ?_);first|refine ldW ?_|refine ldX ?_)|((with_reducible refine gLg rfl (by assumption) ?_);refine ldV ?_)|((with_reducible refine gSt rfl (by assumption) ?_);refine stV ?_)|((with_reducible refine gate_builtin (b:=.append) (xs:=#[.tmp 39,.tmp 44]) rfl ?_);at_builtin;refine Kd.R_append k64 (w0:=w) w.heap.size rfl (.tmp 39) (.tmp 44) 50 64 (.agg #[(.int .i64 0),(.int .i64 0),(.int .i64 0),(.int .i64 0),(.int .i64 0),(.int .i64 0),(.int .i64 0),(.int .i64 0),(.int .i64 0),(.int .i64 0),(.int .i64 0),(.int .i64 0)]) 96 rfl Try.underlying50 info64 rfl aD (by omega) u5 x5_13 (⟨(rd_T64 l0 x7_1).f0,(rd_T64 l0 x7_1).f1,(⟨(rd_T64 l0 x7_1).f2.f0,(rd_T64 l0 x7_1).f2.f1,(rd_T64 l0 x7_1).f2.f2,(rd_T64 l0 x7_1).f2.f3,(rd_T64 l0 x7_1).f2.f4,(rd_T64 l0 x7_1).f2.f5,(rd_T64 l0 x7_1).f2.f6,(rd_T64 l0 x7_1).f2.f7,(rd_T64 l0 x7_1).f2.f8,(rd_T64 l0 x7_1).f2.f9⟩:S24)⟩:S64) [.int .i64 ((rd_T64 l0 x7_1).f0),.int .i64 ((rd_T64 l0 x7_1).f1),.int .i64 ((rd_T64 l0 x7_1).f2.f0),.int .i64 ((rd_T64 l0 x7_1).f2.f1),.int .i64 ((rd_T64 l0 x7_1).f2.f2),.int .i64 ((rd_T64 l0 x7_1).f2.f3),.int .i64 ((rd_T64 l0 x7_1).f2.f4),.int .i64 ((rd_T64 l0 x7_1).f2.f5),.int .i64 ((rd_T64 l0 x7_1).f2.f6),.int .i64 ((rd_T64 l0 x7_1).f2.f7),.int .i64 ((rd_T64 l0 x7_1).f2.f8),.int .i64 ((rd_T64 l0 x7_1).f2.f9)] (fun k_=>k_≠gb281) (fun _=>False) rfl rfl ?aP (fun _ hk=>hk.elim) ?aF ?aO ?aB ?aS ?aL ?_;(case aP=>exact k64_mkM _ _ _ (⟨(rd_T64 l0 x7_1).f0,(rd_T64 l0 x7_1).f1,(⟨(rd_T64 l0 x7_1).f2.f0,(rd_T64 l0 x7_1).f2.f1,(rd_T64 l0 x7_1).f2.f2,(rd_T64 l0 x7_1).f2.f3,(rd_T64 l0 x7_1).f2.f4,(rd_T64 l0 x7_1).f2.f5,(rd_T64 l0 x7_1).f2.f6,(rd_T64 l0 x7_1).f2.f7,(rd_T64 l0 x7_1).f2.f8,(rd_T64 l0 x7_1).f2.f9⟩:S24)⟩:S64));(case aB=>exact (pS HB.out));(case aF=>exact (fun k_ hk=>Kd.freshB (g:=gb281) (o:=.cells #[.int .i64 a1_0,.int .i64 a1_1,.int .i64 a1_2,.int .i64 a1_3,.int .i64 a1_4,.int .i64 a1_5,.int .i64 a1_6,.int .i64 a1_7,.int .i64 a1_8,.int .i64 a1_9,.int .i64 a1_10,.int .i64 a1_11] 64 (0,0)) (pK BK281.out) k_ hk));(case aO=>exact (pR HO_5.out));(case aS=>exact (bpS HB));(case aL=>have:=LMc23.out;omega);intro v292 w25 ho hb hg hat;rw [← Ny291.out] at ho;have HO293:=mA ho;replace BK281:=mA (blk_grown (pK BK281.out) hg (Kd.R_away HO_5.out (fun _ hk=>hk)));replace HB:=mA hb;clear HO_5;clear ho hb hg hat))
              repeat (go_quiet (first|((with_reducible refine gate_builtin (b:=.append) (xs:=#[.tmp 39,.tmp 44]) rfl ?_);at_builtin;refine Kd.R_append k64 (w0:=w) w.heap.size rfl (.tmp 39) (.tmp 44) 50 64 (.agg #[(.int .i64 0),(.int .i64 0),(.int .i64 0),(.int .i64 0),(.int .i64 0),(.int .i64 0),(.int .i64 0),(.int .i64 0),(.int .i64 0),(.int .i64 0),(.int .i64 0),(.int .i64 0)]) 96 rfl Try.underlying50 info64 rfl aD (by omega) u5 x5_13 (⟨(rd_T64 l0 x7_1).f0,(rd_T64 l0 x7_1).f1,(⟨(rd_T64 l0 x7_1).f2.f0,(rd_T64 l0 x7_1).f2.f1,(rd_T64 l0 x7_1).f2.f2,(rd_T64 l0 x7_1).f2.f3,(rd_T64 l0 x7_1).f2.f4,(rd_T64 l0 x7_1).f2.f5,(rd_T64 l0 x7_1).f2.f6,(rd_T64 l0 x7_1).f2.f7,(rd_T64 l0 x7_1).f2.f8,(rd_T64 l0 x7_1).f2.f9⟩:S24)⟩:S64) [.int .i64 ((rd_T64 l0 x7_1).f0),.int .i64 ((rd_T64 l0 x7_1).f1),.int .i64 ((rd_T64 l0 x7_1).f2.f0),.int .i64 ((rd_T64 l0 x7_1).f2.f1),.int .i64 ((rd_T64 l0 x7_1).f2.f2),.int .i64 ((rd_T64 l0 x7_1).f2.f3),.int .i64 ((rd_T64 l0 x7_1).f2.f4),.int .i64 ((rd_T64 l0 x7_1).f2.f5),.int .i64 ((rd_T64 l0 x7_1).f2.f6),.int .i64 ((rd_T64 l0 x7_1).f2.f7),.int .i64 ((rd_T64 l0 x7_1).f2.f8),.int .i64 ((rd_T64 l0 x7_1).f2.f9)] (fun k_=>k_≠gb281) (fun _=>False) rfl rfl ?aP (fun _ hk=>hk.elim) ?aF ?aO ?aB ?aS ?aL ?_;(case aP=>exact k64_mkM _ _ _ (⟨(rd_T64 l0 x7_1).f0,(rd_T64 l0 x7_1).f1,(⟨(rd_T64 l0 x7_1).f2.f0,(rd_T64 l0 x7_1).f2.f1,(rd_T64 l0 x7_1).f2.f2,(rd_T64 l0 x7_1).f2.f3,(rd_T64 l0 x7_1).f2.f4,(rd_T64 l0 x7_1).f2.f5,(rd_T64 l0 x7_1).f2.f6,(rd_T64 l0 x7_1).f2.f7,(rd_T64 l0 x7_1).f2.f8,(rd_T64 l0 x7_1).f2.f9⟩:S24)⟩:S64));(case aB=>exact (pS HB.out));(case aF=>exact (fun k_ hk=>Kd.freshB (g:=gb281) (o:=.cells #[.int .i64 a1_0,.int .i64 a1_1,.int .i64 a1_2,.int .i64 a1_3,.int .i64 a1_4,.int .i64 a1_5,.int .i64 a1_6,.int .i64 a1_7,.int .i64 a1_8,.int .i64 a1_9,.int .i64 a1_10,.int .i64 a1_11] 64 (0,0)) (pK BK281.out) k_ hk));(case aO=>exact (pR HO_5.out));(case aS=>exact (bpS HB));(case aL=>have:=LMc23.out;omega);intro v292 w25 ho hb hg hat;rw [← Ny291.out] at ho;have HO293:=mA ho;replace BK281:=mA (blk_grown (pK BK281.out) hg (Kd.R_away HO_5.out (fun _ hk=>hk)));replace HB:=mA hb;clear HO_5;clear ho hb hg hat));try go_wp2_with (first|((with_reducible refine gLg rfl (by assumption) ?_);first|refine ldW ?_|refine ldX ?_)|((with_reducible refine gLg rfl (by assumption) ?_);refine ldV ?_)|((with_reducible refine gSt rfl (by assumption) ?_);refine stV ?_)|((with_reducible refine gate_builtin (b:=.append) (xs:=#[.tmp 39,.tmp 44]) rfl ?_);at_builtin;refine Kd.R_append k64 (w0:=w) w.heap.size rfl (.tmp 39) (.tmp 44) 50 64 (.agg #[(.int .i64 0),(.int .i64 0),(.int .i64 0),(.int .i64 0),(.int .i64 0),(.int .i64 0),(.int .i64 0),(.int .i64 0),(.int .i64 0),(.int .i64 0),(.int .i64 0),(.int .i64 0)]) 96 rfl Try.underlying50 info64 rfl aD (by omega) u5 x5_13 (⟨(rd_T64 l0 x7_1).f0,(rd_T64 l0 x7_1).f1,(⟨(rd_T64 l0 x7_1).f2.f0,(rd_T64 l0 x7_1).f2.f1,(rd_T64 l0 x7_1).f2.f2,(rd_T64 l0 x7_1).f2.f3,(rd_T64 l0 x7_1).f2.f4,(rd_T64 l0 x7_1).f2.f5,(rd_T64 l0 x7_1).f2.f6,(rd_T64 l0 x7_1).f2.f7,(rd_T64 l0 x7_1).f2.f8,(rd_T64 l0 x7_1).f2.f9⟩:S24)⟩:S64) [.int .i64 ((rd_T64 l0 x7_1).f0),.int .i64 ((rd_T64 l0 x7_1).f1),.int .i64 ((rd_T64 l0 x7_1).f2.f0),.int .i64 ((rd_T64 l0 x7_1).f2.f1),.int .i64 ((rd_T64 l0 x7_1).f2.f2),.int .i64 ((rd_T64 l0 x7_1).f2.f3),.int .i64 ((rd_T64 l0 x7_1).f2.f4),.int .i64 ((rd_T64 l0 x7_1).f2.f5),.int .i64 ((rd_T64 l0 x7_1).f2.f6),.int .i64 ((rd_T64 l0 x7_1).f2.f7),.int .i64 ((rd_T64 l0 x7_1).f2.f8),.int .i64 ((rd_T64 l0 x7_1).f2.f9)] (fun k_=>k_≠gb281) (fun _=>False) rfl rfl ?aP (fun _ hk=>hk.elim) ?aF ?aO ?aB ?aS ?aL ?_;(case aP=>exact k64_mkM _ _ _ (⟨(rd_T64 l0 x7_1).f0,(rd_T64 l0 x7_1).f1,(⟨(rd_T64 l0 x7_1).f2.f0,(rd_T64 l0 x7_1).f2.f1,(rd_T64 l0 x7_1).f2.f2,(rd_T64 l0 x7_1).f2.f3,(rd_T64 l0 x7_1).f2.f4,(rd_T64 l0 x7_1).f2.f5,(rd_T64 l0 x7_1).f2.f6,(rd_T64 l0 x7_1).f2.f7,(rd_T64 l0 x7_1).f2.f8,(rd_T64 l0 x7_1).f2.f9⟩:S24)⟩:S64));(case aB=>exact (pS HB.out));(case aF=>exact (fun k_ hk=>Kd.freshB (g:=gb281) (o:=.cells #[.int .i64 a1_0,.int .i64 a1_1,.int .i64 a1_2,.int .i64 a1_3,.int .i64 a1_4,.int .i64 a1_5,.int .i64 a1_6,.int .i64 a1_7,.int .i64 a1_8,.int .i64 a1_9,.int .i64 a1_10,.int .i64 a1_11] 64 (0,0)) (pK BK281.out) k_ hk));(case aO=>exact (pR HO_5.out));(case aS=>exact (bpS HB));(case aL=>have:=LMc23.out;omega);intro v292 w25 ho hb hg hat;rw [← Ny291.out] at ho;have HO293:=mA ho;replace BK281:=mA (blk_grown (pK BK281.out) hg (Kd.R_away HO_5.out (fun _ hk=>hk)));replace HB:=mA hb;clear HO_5;clear ho hb hg hat)))
              go_roundg kj13
              case measure=>have:=HK1.out;have:=HJ6.out;have:=HJ8.out;have:=HJ13.out;omega
              case rel=>exact ⟨(y291),(x6_13),(wrap64 (x7_1+1)),bZ,bZ,H',⟨by have:=HK1.out;have:=HJ6.out;have:=HJ8.out;have:=HJ13.out;omega⟩,⟨pR HO293.out⟩,⟨pK BK281.out⟩,⟨pS HB.out⟩⟩
             ·rw [if_neg c23] at H
              exact absurd H (by simp)
           ·rw [if_neg c20] at H
            exact absurd H (by simp)
          ·rw [if_neg c19] at H
           exact absurd H (by simp)
 case rest =>
  clear HC3
  obtain ⟨kq,x5_2,x6_2,rfl,HA,HJ2,HO_5,BK281,HB⟩:=hcut
  cases kq with
  | zero=>exact absurd HA.out (by simp [spec_l21Put.j4])
  | succ kj2 =>
   have H:=HA.out;clear HA;simp only [spec_l21Put.j4] at H
   by_cases c26:x6_2=true
   ·subst c26;rw [if_pos rfl] at H;obtain rfl:=Option.some.inj H
    go_wp2_with (first|((with_reducible refine gLg rfl (by assumption) ?_);first|refine ldW ?_|refine ldX ?_)|((with_reducible refine gLg rfl (by assumption) ?_);refine ldV ?_)|((with_reducible refine gSt rfl (by assumption) ?_);refine stV ?_))
    repeat (go_quiet (fail);try go_wp2)
    go_ret
    exact ⟨_,by first|rfl|(simp [errW_none,errW_some]<;>rfl)|(simp [*,errW_none,errW_some]<;>rfl),pR (Kd.R_mono HO_5.out (fun _ hk=>trivial)),pS HB.out⟩
   ·replace c26:=Bool.eq_false_iff.mpr c26;subst c26
    rw [if_neg nFT] at H
    by_cases c27:x5_2.length<1466015503701
    ·rw [if_pos c27] at H;have LMc27:=mA c27;clear c27;obtain ⟨y294,hy294⟩:∃ y_:List (S64),y_=(x5_2 ++ [(⟨a1_0,a1_1,(⟨a1_2,a1_3,a1_4,a1_5,a1_6,a1_7,a1_8,a1_9,a1_10,a1_11⟩:S24)⟩:S64)]):=⟨_,rfl⟩
     replace H:(some y294)=some r:=qH hy294 H
     have Ny294:=mA hy294;clear hy294;obtain rfl:=Option.some.inj H;have hcz28_0:=fun i_=>blk_cell BK281.out i_;have hfz28_0:=fun i_=>blk_frozen BK281.out i_
     go_wp2_with (first|((with_reducible refine gLg rfl (by assumption) ?_);first|refine ldW ?_|refine ldX ?_)|((with_reducible refine gLg rfl (by assumption) ?_);refine ldV ?_)|((with_reducible refine gSt rfl (by assumption) ?_);refine stV ?_)|((with_reducible refine gate_builtin (b:=.append) (xs:=#[.tmp 48,.tmp 50]) rfl ?_);at_builtin;refine Kd.R_append k64 (w0:=w) w.heap.size rfl (.tmp 48) (.tmp 50) 50 64 (.agg #[(.int .i64 0),(.int .i64 0),(.int .i64 0),(.int .i64 0),(.int .i64 0),(.int .i64 0),(.int .i64 0),(.int .i64 0),(.int .i64 0),(.int .i64 0),(.int .i64 0),(.int .i64 0)]) 96 rfl Try.underlying50 info64 rfl aD (by omega) u5 x5_2 (⟨a1_0,a1_1,(⟨a1_2,a1_3,a1_4,a1_5,a1_6,a1_7,a1_8,a1_9,a1_10,a1_11⟩:S24)⟩:S64) [.int .i64 a1_0,.int .i64 a1_1,.int .i64 a1_2,.int .i64 a1_3,.int .i64 a1_4,.int .i64 a1_5,.int .i64 a1_6,.int .i64 a1_7,.int .i64 a1_8,.int .i64 a1_9,.int .i64 a1_10,.int .i64 a1_11] (fun k_=>k_≠gb281) (fun _=>False) rfl rfl ?aP (fun _ hk=>hk.elim) ?aF ?aO ?aB ?aS ?aL ?_;(case aP=>exact k64_mkM _ _ _ (⟨a1_0,a1_1,(⟨a1_2,a1_3,a1_4,a1_5,a1_6,a1_7,a1_8,a1_9,a1_10,a1_11⟩:S24)⟩:S64));(case aB=>exact (pS HB.out));(case aF=>exact (fun k_ hk=>Kd.freshB (g:=gb281) (o:=.cells #[.int .i64 a1_0,.int .i64 a1_1,.int .i64 a1_2,.int .i64 a1_3,.int .i64 a1_4,.int .i64 a1_5,.int .i64 a1_6,.int .i64 a1_7,.int .i64 a1_8,.int .i64 a1_9,.int .i64 a1_10,.int .i64 a1_11] 64 (0,0)) (pK BK281.out) k_ hk));(case aO=>exact (pR HO_5.out));(case aS=>exact (bpS HB));(case aL=>have:=LMc27.out;omega);intro v295 w29 ho hb hg hat;rw [← Ny294.out] at ho;have HO296:=mA ho;replace BK281:=mA (blk_grown (pK BK281.out) hg (Kd.R_away HO_5.out (fun _ hk=>hk)));replace HB:=mA hb;clear HO_5;clear ho hb hg hat))
     repeat (go_quiet (first|((with_reducible refine gate_builtin (b:=.append) (xs:=#[.tmp 48,.tmp 50]) rfl ?_);at_builtin;refine Kd.R_append k64 (w0:=w) w.heap.size rfl (.tmp 48) (.tmp 50) 50 64 (.agg #[(.int .i64 0),(.int .i64 0),(.int .i64 0),(.int .i64 0),(.int .i64 0),(.int .i64 0),(.int .i64 0),(.int .i64 0),(.int .i64 0),(.int .i64 0),(.int .i64 0),(.int .i64 0)]) 96 rfl Try.underlying50 info64 rfl aD (by omega) u5 x5_2 (⟨a1_0,a1_1,(⟨a1_2,a1_3,a1_4,a1_5,a1_6,a1_7,a1_8,a1_9,a1_10,a1_11⟩:S24)⟩:S64) [.int .i64 a1_0,.int .i64 a1_1,.int .i64 a1_2,.int .i64 a1_3,.int .i64 a1_4,.int .i64 a1_5,.int .i64 a1_6,.int .i64 a1_7,.int .i64 a1_8,.int .i64 a1_9,.int .i64 a1_10,.int .i64 a1_11] (fun k_=>k_≠gb281) (fun _=>False) rfl rfl ?aP (fun _ hk=>hk.elim) ?aF ?aO ?aB ?aS ?aL ?_;(case aP=>exact k64_mkM _ _ _ (⟨a1_0,a1_1,(⟨a1_2,a1_3,a1_4,a1_5,a1_6,a1_7,a1_8,a1_9,a1_10,a1_11⟩:S24)⟩:S64));(case aB=>exact (pS HB.out));(case aF=>exact (fun k_ hk=>Kd.freshB (g:=gb281) (o:=.cells #[.int .i64 a1_0,.int .i64 a1_1,.int .i64 a1_2,.int .i64 a1_3,.int .i64 a1_4,.int .i64 a1_5,.int .i64 a1_6,.int .i64 a1_7,.int .i64 a1_8,.int .i64 a1_9,.int .i64 a1_10,.int .i64 a1_11] 64 (0,0)) (pK BK281.out) k_ hk));(case aO=>exact (pR HO_5.out));(case aS=>exact (bpS HB));(case aL=>have:=LMc27.out;omega);intro v295 w29 ho hb hg hat;rw [← Ny294.out] at ho;have HO296:=mA ho;replace BK281:=mA (blk_grown (pK BK281.out) hg (Kd.R_away HO_5.out (fun _ hk=>hk)));replace HB:=mA hb;clear HO_5;clear ho hb hg hat));try go_wp2_with (first|((with_reducible refine gLg rfl (by assumption) ?_);first|refine ldW ?_|refine ldX ?_)|((with_reducible refine gLg rfl (by assumption) ?_);refine ldV ?_)|((with_reducible refine gSt rfl (by assumption) ?_);refine stV ?_)|((with_reducible refine gate_builtin (b:=.append) (xs:=#[.tmp 48,.tmp 50]) rfl ?_);at_builtin;refine Kd.R_append k64 (w0:=w) w.heap.size rfl (.tmp 48) (.tmp 50) 50 64 (.agg #[(.int .i64 0),(.int .i64 0),(.int .i64 0),(.int .i64 0),(.int .i64 0),(.int .i64 0),(.int .i64 0),(.int .i64 0),(.int .i64 0),(.int .i64 0),(.int .i64 0),(.int .i64 0)]) 96 rfl Try.underlying50 info64 rfl aD (by omega) u5 x5_2 (⟨a1_0,a1_1,(⟨a1_2,a1_3,a1_4,a1_5,a1_6,a1_7,a1_8,a1_9,a1_10,a1_11⟩:S24)⟩:S64) [.int .i64 a1_0,.int .i64 a1_1,.int .i64 a1_2,.int .i64 a1_3,.int .i64 a1_4,.int .i64 a1_5,.int .i64 a1_6,.int .i64 a1_7,.int .i64 a1_8,.int .i64 a1_9,.int .i64 a1_10,.int .i64 a1_11] (fun k_=>k_≠gb281) (fun _=>False) rfl rfl ?aP (fun _ hk=>hk.elim) ?aF ?aO ?aB ?aS ?aL ?_;(case aP=>exact k64_mkM _ _ _ (⟨a1_0,a1_1,(⟨a1_2,a1_3,a1_4,a1_5,a1_6,a1_7,a1_8,a1_9,a1_10,a1_11⟩:S24)⟩:S64));(case aB=>exact (pS HB.out));(case aF=>exact (fun k_ hk=>Kd.freshB (g:=gb281) (o:=.cells #[.int .i64 a1_0,.int .i64 a1_1,.int .i64 a1_2,.int .i64 a1_3,.int .i64 a1_4,.int .i64 a1_5,.int .i64 a1_6,.int .i64 a1_7,.int .i64 a1_8,.int .i64 a1_9,.int .i64 a1_10,.int .i64 a1_11] 64 (0,0)) (pK BK281.out) k_ hk));(case aO=>exact (pR HO_5.out));(case aS=>exact (bpS HB));(case aL=>have:=LMc27.out;omega);intro v295 w29 ho hb hg hat;rw [← Ny294.out] at ho;have HO296:=mA ho;replace BK281:=mA (blk_grown (pK BK281.out) hg (Kd.R_away HO_5.out (fun _ hk=>hk)));replace HB:=mA hb;clear HO_5;clear ho hb hg hat)))
     go_ret
     exact ⟨_,by first|rfl|(simp [errW_none,errW_some]<;>rfl)|(simp [*,errW_none,errW_some]<;>rfl),pR (Kd.R_mono HO296.out (fun _ hk=>trivial)),pS HB.out⟩
    ·rw [if_neg c27] at H
     exact absurd H (by simp)
end Go.Proofs.Ytoieojmfkkidnaa.P
