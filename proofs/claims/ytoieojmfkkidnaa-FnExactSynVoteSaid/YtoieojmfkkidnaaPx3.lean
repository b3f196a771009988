-- printed by pprint.py (this session's program over the kit's printer) out of the translation. Lean checks it.
import Derived.Test.YtoieojmfkkidnaaPx0
namespace Go.Proofs.Ytoieojmfkkidnaa.P
open Go.RowKit Go.Proofs.YtoieojmfkkidnaaX Go.Proofs.YtoieojmfkkidnaaW.PrintWords Go.Proofs.YtoieojmfkkidnaaW.PrintLast Go.Proofs.YtoieojmfkkidnaaW.PrintMore
attribute [local go_sem] max2_int min2_int max_two min_two max_three min_three max_four min_four   -- for this text's walks alone
set_option linter.unusedVariables false
set_option linter.unusedSimpArgs false
/-! ### spec_l11Nums: function 65 -/
def spec_l11Nums.f (a0_0 a0_1 a0_2 a0_3 a0_4 a0_5 a0_6 a0_7 a0_8 a0_9 a0_10 a0_11 a0_12 a0_13 a0_14 a0_15 a0_16 a0_17 a0_18 a0_19 a0_20 a0_21 a0_22 a0_23 : Int) (l0_24 : List (S138)) (l0_25 : List (S140)) : Option (List Int) := some (([a0_0, a0_1, a0_2, a0_3, a0_4, a0_5, a0_6, a0_7, a0_8, a0_9, a0_10, a0_11, a0_12, a0_13, a0_14, a0_15, a0_16, a0_17, a0_18, a0_19, a0_20, a0_21, a0_22, a0_23] : List Int))
set_option maxHeartbeats 8000000 in
set_option maxRecDepth 100000 in
theorem spec_l11Nums.calls {a0_0 a0_1 a0_2 a0_3 a0_4 a0_5 a0_6 a0_7 a0_8 a0_9 a0_10 a0_11 a0_12 a0_13 a0_14 a0_15 a0_16 a0_17 a0_18 a0_19 a0_20 a0_21 a0_22 a0_23 : Int} {A0_24 : Option Addr} {c0_24 : Nat} {l0_24 : List (S138)} {A0_25 : Option Addr} {c0_25 : Nat} {l0_25 : List (S140)} {r : List Int} {w : World} (hr0_24 : Kd.C k138 w A0_24 l0_24.length l0_24) (hc0_24 : l0_24.length ≤ c0_24) (hr0_25 : Kd.C k140 w A0_25 l0_25.length l0_25) (hc0_25 : l0_25.length ≤ c0_25) (h : spec_l11Nums.f a0_0 a0_1 a0_2 a0_3 a0_4 a0_5 a0_6 a0_7 a0_8 a0_9 a0_10 a0_11 a0_12 a0_13 a0_14 a0_15 a0_16 a0_17 a0_18 a0_19 a0_20 a0_21 a0_22 a0_23 l0_24 l0_25 = some r) :
  Calls Try.prog 65 #[.agg #[.int .i64 a0_0,.int .i64 a0_1,.int .i64 a0_2,.int .i64 a0_3,.int .i64 a0_4,.int .i64 a0_5,.int .i64 a0_6,.int .i64 a0_7,.int .i64 a0_8,.int .i64 a0_9,.int .i64 a0_10,.int .i64 a0_11,.int .i64 a0_12,.int .i64 a0_13,.int .i64 a0_14,.int .i64 a0_15,.int .i64 a0_16,.int .i64 a0_17,.int .i64 a0_18,.int .i64 a0_19,.int .i64 a0_20,.int .i64 a0_21,.int .i64 a0_22,.int .i64 a0_23,.slice A0_24 l0_24.length c0_24,.slice A0_25 l0_25.length c0_25]] w fun e w'=>∃ v0_:Value,e=.returned (v0_)∧Kd.R (Kd.int .i64) 3 w' w.heap.size (fun _=>True) v0_ r∧Below w.heap.size w w':=by
 have hu28:=Try.underlying28;have hu24:=Try.underlying24;have HR0_24:=mA hr0_24;have HC0_24:=mA hc0_24;clear hr0_24 hc0_24;have HR0_25:=mA hr0_25;have HC0_25:=mA hc0_25;clear hr0_25 hc0_25;have HB:=mA (Below.refl w.heap.size w);have H:(some (([a0_0,a0_1,a0_2,a0_3,a0_4,a0_5,a0_6,a0_7,a0_8,a0_9,a0_10,a0_11,a0_12,a0_13,a0_14,a0_15,a0_16,a0_17,a0_18,a0_19,a0_20,a0_21,a0_22,a0_23]:List Int)))=some r:=h;clear h;obtain ⟨y225,hy225⟩:∃ y_:List Int,y_=(([a0_0,a0_1,a0_2,a0_3,a0_4,a0_5,a0_6,a0_7,a0_8,a0_9,a0_10,a0_11,a0_12,a0_13,a0_14,a0_15,a0_16,a0_17,a0_18,a0_19,a0_20,a0_21,a0_22,a0_23]:List Int)):=⟨_,rfl⟩
 replace H:(some y225)=some r:=qH hy225 H
 have Ny225:=mA hy225;clear hy225;obtain rfl:=Option.some.inj H
 go_enter Try.func65,Try.ntmps65
 go_wp2_with (first|((with_reducible refine gLg rfl (by assumption) ?_);refine ldV ?_)|((with_reducible refine gSt rfl (by assumption) ?_);refine stV ?_)|((with_reducible refine gT 1 rfl ?_);refine bX 1 ?_;intro gb223 hg w2 hbox hb;have BK223:=mA hbox;have GW223:=gbpB HB hg;have GE223:=gbpB HB hg;replace HB:=spB HB hb;clear hb hbox hg;have hcz3_0:=fun i_=>blk_cell BK223.out i_;have hfz3_0:=fun i_=>blk_frozen BK223.out i_)|((with_reducible refine gT 3 rfl ?_);refine bJ 3 y24 ?_;intro gb224 hg w4 hbox hb;have BK224:=mA hbox;have GW224:=gbpS HB hg;have GE224:=gbpS HB hg;replace HB:=spS HB hb;have NB223_224:=mA (lN (blk_lt (pK BK223.out)) hg);have hN223_224:=NB223_224.out;have NB224_223:=nS NB223_224;have hN224_223:=NB224_223.out;replace BK223:=bK BK223 hb;clear hb hbox hg;have hcz6_0:=fun i_=>blk_cell BK224.out i_;have hfz6_0:=fun i_=>blk_frozen BK224.out i_;have hcz7_0:=fun i_=>blk_cell BK223.out i_;have hfz7_0:=fun i_=>blk_frozen BK223.out i_)|((with_reducible refine gT 54 rfl ?_);refine Kd.R_lit (Kd.int .i64) _ 3 ?hg (N:=54) ?hd (xs:=([a0_0,a0_1,a0_2,a0_3,a0_4,a0_5,a0_6,a0_7,a0_8,a0_9,a0_10,a0_11,a0_12,a0_13,a0_14,a0_15,a0_16,a0_17,a0_18,a0_19,a0_20,a0_21,a0_22,a0_23]:List Int)) (inner:=[.int .i64 a0_0,.int .i64 a0_1,.int .i64 a0_2,.int .i64 a0_3,.int .i64 a0_4,.int .i64 a0_5,.int .i64 a0_6,.int .i64 a0_7,.int .i64 a0_8,.int .i64 a0_9,.int .i64 a0_10,.int .i64 a0_11,.int .i64 a0_12,.int .i64 a0_13,.int .i64 a0_14,.int .i64 a0_15,.int .i64 a0_16,.int .i64 a0_17,.int .i64 a0_18,.int .i64 a0_19,.int .i64 a0_20,.int .i64 a0_21,.int .i64 a0_22,.int .i64 a0_23]) (ok:=fun _=>True) (okp:=fun _=>True) ?hr ?hp (fun _ hk=>hk) trivial (Below.refl _ _) (Nat.le_refl _) (by simp) ?_;(case hd=>rfl);(case hg=>rfl);(case hr=>first|(go_simp;done)|(go_simp;rfl));(case hp=>repeat (first|exact Reps.none _ _|refine Reps.one (show Kd.M (Kd.int .i64) _ _ _ _ [_] from rfl) ?_));intro v226 w8 ho9 hb hg_ hnew_;clear hg_ hnew_;(first|rw [← Ny225.out] at ho9|(simp only [Int.reduceToNat] at ho9;rw [← Ny225.out] at ho9));have HO227:=mA (Kd.R_lower ho9 (bpS HB));replace BK223:=bF BK223 hb;replace BK224:=mA (blk_below (g:=gb224) (o:=.cells #[.int .i64 a0_6,.int .i64 a0_7,.int .i64 a0_8,.int .i64 a0_9,.int .i64 a0_10,.int .i64 a0_11,.int .i64 a0_12,.int .i64 a0_13,.int .i64 a0_14,.int .i64 a0_15] 24 (0,0)) (pP BK224) hb);replace HB:=spS HB hb;clear hb ho9))
 go_ret
 exact ⟨_,by first|rfl|(simp [errW_none,errW_some]<;>rfl)|(simp [*,errW_none,errW_some]<;>rfl),pR HO227.out,pS HB.out⟩
/-! ### spec_l6In: function 67 -/
def spec_l6In.f (a0 a1 a2 : Int) : Option (Bool) := if a0 ≥ a1 then (some (decide (a0 ≤ a2))) else (some false)
set_option maxHeartbeats 8000000 in
set_option maxRecDepth 100000 in
theorem spec_l6In.calls {a0 a1 a2 : Int} {r : Bool} {w : World} (h : spec_l6In.f a0 a1 a2 = some r) :
  Calls Try.prog 67 #[.int .i64 a0,.int .i64 a1,.int .i64 a2] w fun e w'=>e=.returned (.bool r)∧Drawn0 w w':=by
 have H:(if a0 ≥ a1 then (some (decide (a0≤a2))) else (some false))=some r:=h;clear h
 by_cases c4:a0 ≥ a1
 ·rw [if_pos c4] at H;have c4b0:decide (a1≤a0)=true:=decide_eq_true c4;clear c4;obtain rfl:=Option.some.inj H
  go_enter Try.func67,Try.ntmps67
  go_wp2
  go_ret
  exact ⟨by first|rfl|(simp;done)|(simp [*];done),by repeat (first|exact Drawn0.refl _|apply Drawn0.step)⟩
 ·rw [if_neg c4] at H;have c4b0:decide (a1≤a0)=false:=decide_eq_false c4;clear c4;obtain rfl:=Option.some.inj H
  go_enter Try.func67,Try.ntmps67
  go_wp2
  go_ret
  exact ⟨by first|rfl|(simp;done)|(simp [*];done),by repeat (first|exact Drawn0.refl _|apply Drawn0.step)⟩
/-! ### spec_l11Num: function 66 -/
def spec_l11Num.f (a0 : Int) : Option (Bool) := (spec_l6In.f a0 (-1) 99999).bind fun t228 => (some t228)
set_option maxHeartbeats 8000000 in
set_option maxRecDepth 100000 in
theorem spec_l11Num.calls {a0 : Int} {r : Bool} {w : World} (h : spec_l11Num.f a0 = some r) :
  Calls Try.prog 66 #[.int .i64 a0] w fun e w'=>e=.returned (.bool r)∧Drawn0 w w':=by
 have H:((spec_l6In.f a0 (-1) 99999).bind fun t228=>(some t228))=some r:=h;clear h;obtain ⟨t228,A2,H⟩:=bI H;(try dsimp only at H);obtain rfl:=Option.some.inj H
 go_enter Try.func66,Try.ntmps66
 go_wp2_with (first|((with_reducible refine gT 4 rfl ?_);refine gC (some 4) Try.func67 (spec_l6In.calls A2.out) ?_;rintro e w' ⟨rfl,⟨nd,rfl⟩⟩;refine ⟨_,rfl,?_⟩))
 go_ret
 exact ⟨by first|rfl|(simp;done)|(simp [*];done),by repeat (first|exact Drawn0.refl _|apply Drawn0.step)⟩
/-! ### spec_l11Place: function 68 -/
def spec_l11Place.f (a0 : Int) : Option (Bool) := (spec_l6In.f a0 0 4).bind fun t229 => (if t229 = true then (some true) else ((spec_l6In.f a0 100 103).bind fun t230 => (some t230)))
set_option maxHeartbeats 8000000 in
set_option maxRecDepth 100000 in
theorem spec_l11Place.calls {a0 : Int} {r : Bool} {w : World} (h : spec_l11Place.f a0 = some r) :
  Calls Try.prog 68 #[.int .i64 a0] w fun e w'=>e=.returned (.bool r)∧Drawn0 w w':=by
 have H:((spec_l6In.f a0 0 4).bind fun t229=>(if t229=true then (some true) else ((spec_l6In.f a0 100 103).bind fun t230=>(some t230))))=some r:=h;clear h;obtain ⟨t229,A2,H⟩:=bI H;(try dsimp only at H)
 by_cases c3:t229=true
 ·subst c3;rw [if_pos rfl] at H;obtain rfl:=Option.some.inj H
  go_enter Try.func68,Try.ntmps68
  go_wp2_with (first|((with_reducible refine gT 4 rfl ?_);refine gC (some 4) Try.func67 (spec_l6In.calls A2.out) ?_;rintro e w' ⟨rfl,⟨nd,rfl⟩⟩;refine ⟨_,rfl,?_⟩))
  go_ret
  exact ⟨by first|rfl|(simp;done)|(simp [*];done),by repeat (first|exact Drawn0.refl _|apply Drawn0.step)⟩
 ·replace c3:=Bool.eq_false_iff.mpr c3;subst c3
  rw [if_neg nFT] at H
  obtain ⟨t230,A4,H⟩:=bI H;(try dsimp only at H);obtain rfl:=Option.some.inj H
  go_enter Try.func68,Try.ntmps68
  go_wp2_with (first|((with_reducible refine gT 4 rfl ?_);refine gC (some 4) Try.func67 (spec_l6In.calls A2.out) ?_;rintro e w' ⟨rfl,⟨nd,rfl⟩⟩;refine ⟨_,rfl,?_⟩)|(go_at_call 67;(with_reducible refine (spec_l6In.calls A4.out).mono ?_);rintro e w' ⟨rfl,⟨nd,rfl⟩⟩))
  go_ret
  exact ⟨by first|rfl|(simp;done)|(simp [*];done),by repeat (first|exact Drawn0.refl _|apply Drawn0.step)⟩
/-! ### spec_l11CmdOk: function 69 -/
def spec_l11CmdOk.f (a0_0 a0_1 a0_2 a0_3 a0_4 a0_5 a0_6 a0_7 a0_8 a0_9 : Int) : Option (Bool) := (spec_l6In.f a0_0 0 7).bind fun t232 => (if t232 = true then ((spec_l11Num.f a0_1).bind fun t233 => (if t233 = true then ((spec_l11Num.f a0_2).bind fun t234 => (if t234 = true then ((spec_l11Num.f a0_3).bind fun t235 => (if t235 = true then ((spec_l11Num.f a0_4).bind fun t236 => (if t236 = true then ((spec_l11Num.f a0_5).bind fun t237 => (if t237 = true then ((spec_l11Num.f a0_6).bind fun t238 => (if t238 = true then ((spec_l11Num.f a0_7).bind fun t239 => (if t239 = true then ((spec_l11Num.f a0_8).bind fun t240 => (if t240 = true then ((spec_l11Num.f a0_9).bind fun t241 => (some t241)) else (some false))) else (some false))) else (some false))) else (some false))) else (some false))) else (some false))) else (some false))) else (some false))) else (some false))
set_option maxHeartbeats 8000000 in
set_option maxRecDepth 100000 in
theorem spec_l11CmdOk.calls {a0_0 a0_1 a0_2 a0_3 a0_4 a0_5 a0_6 a0_7 a0_8 a0_9 : Int} {r : Bool} {w : World} (h : spec_l11CmdOk.f a0_0 a0_1 a0_2 a0_3 a0_4 a0_5 a0_6 a0_7 a0_8 a0_9 = some r) :
  Calls Try.prog 69 #[.agg #[.int .i64 a0_0,.int .i64 a0_1,.int .i64 a0_2,.int .i64 a0_3,.int .i64 a0_4,.int .i64 a0_5,.int .i64 a0_6,.int .i64 a0_7,.int .i64 a0_8,.int .i64 a0_9]] w fun e w'=>e=.returned (.bool r)∧Below w.heap.size w w':=by
 have hu24:=Try.underlying24;have HB:=mA (Below.refl w.heap.size w);have H:((spec_l6In.f a0_0 0 7).bind fun t232=>(if t232=true then ((spec_l11Num.f a0_1).bind fun t233=>(if t233=true then ((spec_l11Num.f a0_2).bind fun t234=>(if t234=true then ((spec_l11Num.f a0_3).bind fun t235=>(if t235=true then ((spec_l11Num.f a0_4).bind fun t236=>(if t236=true then ((spec_l11Num.f a0_5).bind fun t237=>(if t237=true then ((spec_l11Num.f a0_6).bind fun t238=>(if t238=true then ((spec_l11Num.f a0_7).bind fun t239=>(if t239=true then ((spec_l11Num.f a0_8).bind fun t240=>(if t240=true then ((spec_l11Num.f a0_9).bind fun t241=>(some t241)) else (some false))) else (some false))) else (some false))) else (some false))) else (some false))) else (some false))) else (some false))) else (some false))) else (some false)))=some r:=h;clear h;obtain ⟨t232,A2,H⟩:=bI H;(try dsimp only at H)
 by_cases c3:t232=true
 ·subst c3;rw [if_pos rfl] at H;obtain ⟨t233,A4,H⟩:=bI H;(try dsimp only at H)
  by_cases c5:t233=true
  ·subst c5;rw [if_pos rfl] at H;obtain ⟨t234,A6,H⟩:=bI H;(try dsimp only at H)
   by_cases c7:t234=true
   ·subst c7;rw [if_pos rfl] at H;obtain ⟨t235,A8,H⟩:=bI H;(try dsimp only at H)
    by_cases c9:t235=true
    ·subst c9;rw [if_pos rfl] at H;obtain ⟨t236,A10,H⟩:=bI H;(try dsimp only at H)
     by_cases c11:t236=true
     ·subst c11;rw [if_pos rfl] at H;obtain ⟨t237,A12,H⟩:=bI H;(try dsimp only at H)
      by_cases c13:t237=true
      ·subst c13;rw [if_pos rfl] at H;obtain ⟨t238,A14,H⟩:=bI H;(try dsimp only at H)
       by_cases c15:t238=true
       ·subst c15;rw [if_pos rfl] at H;obtain ⟨t239,A16,H⟩:=bI H;(try dsimp only at H)
        by_cases c17:t239=true
        ·subst c17;rw [if_pos rfl] at H;obtain ⟨t240,A18,H⟩:=bI H;(try dsimp only at H)
         by_cases c19:t240=true
         ·subst c19;rw [if_pos rfl] at H;obtain ⟨t241,A20,H⟩:=bI H;(try dsimp only at H);obtain rfl:=Option.some.inj H
          go_enter Try.func69,Try.ntmps69
          go_wp2_with (first|((with_reducible refine gLg rfl (by assumption) ?_);refine ldV ?_)|((with_reducible refine gSt rfl (by assumption) ?_);refine stV ?_)|((with_reducible refine gT 1 rfl ?_);refine bX 1 ?_;intro gb231 hg w21 hbox hb;have BK231:=mA hbox;have GW231:=gbpB HB hg;have GE231:=gbpB HB hg;replace HB:=spB HB hb;clear hb hbox hg;have hcz22_0:=fun i_=>blk_cell BK231.out i_;have hfz22_0:=fun i_=>blk_frozen BK231.out i_)|((with_reducible refine gT 5 rfl ?_);refine gC (some 5) Try.func67 (spec_l6In.calls A2.out) ?_;rintro e w' ⟨rfl,⟨nd,rfl⟩⟩;refine ⟨_,rfl,?_⟩)|(go_at_call 66;(with_reducible refine (spec_l11Num.calls A4.out).mono ?_);rintro e w' ⟨rfl,⟨nd,rfl⟩⟩)|(go_at_call 66;(with_reducible refine (spec_l11Num.calls A6.out).mono ?_);rintro e w' ⟨rfl,⟨nd,rfl⟩⟩)|(go_at_call 66;(with_reducible refine (spec_l11Num.calls A8.out).mono ?_);rintro e w' ⟨rfl,⟨nd,rfl⟩⟩)|(go_at_call 66;(with_reducible refine (spec_l11Num.calls A10.out).mono ?_);rintro e w' ⟨rfl,⟨nd,rfl⟩⟩)|(go_at_call 66;(with_reducible refine (spec_l11Num.calls A12.out).mono ?_);rintro e w' ⟨rfl,⟨nd,rfl⟩⟩)|(go_at_call 66;(with_reducible refine (spec_l11Num.calls A14.out).mono ?_);rintro e w' ⟨rfl,⟨nd,rfl⟩⟩)|(go_at_call 66;(with_reducible refine (spec_l11Num.calls A16.out).mono ?_);rintro e w' ⟨rfl,⟨nd,rfl⟩⟩)|(go_at_call 66;(with_reducible refine (spec_l11Num.calls A18.out).mono ?_);rintro e w' ⟨rfl,⟨nd,rfl⟩⟩)|(go_at_call 66;(with_reducible refine (spec_l11Num.calls A20.out).mono ?_);rintro e w' ⟨rfl,⟨nd,rfl⟩⟩))
          go_ret
          exact rZ (pS HB.out)
         ·replace c19:=Bool.eq_false_iff.mpr c19;subst c19
          rw [if_neg nFT] at H
          obtain rfl:=Option.some.inj H
          go_enter Try.func69,Try.ntmps69
          go_wp2_with (first|((with_reducible refine gLg rfl (by assumption) ?_);refine ldV ?_)|((with_reducible refine gSt rfl (by assumption) ?_);refine stV ?_)|((with_reducible refine gT 1 rfl ?_);refine bX 1 ?_;intro gb231 hg w23 hbox hb;have BK231:=mA hbox;have GW231:=gbpB HB hg;have GE231:=gbpB HB hg;replace HB:=spB HB hb;clear hb hbox hg;have hcz24_0:=fun i_=>blk_cell BK231.out i_;have hfz24_0:=fun i_=>blk_frozen BK231.out i_)|((with_reducible refine gT 5 rfl ?_);refine gC (some 5) Try.func67 (spec_l6In.calls A2.out) ?_;rintro e w' ⟨rfl,⟨nd,rfl⟩⟩;refine ⟨_,rfl,?_⟩)|(go_at_call 66;(with_reducible refine (spec_l11Num.calls A4.out).mono ?_);rintro e w' ⟨rfl,⟨nd,rfl⟩⟩)|(go_at_call 66;(with_reducible refine (spec_l11Num.calls A6.out).mono ?_);rintro e w' ⟨rfl,⟨nd,rfl⟩⟩)|(go_at_call 66;(with_reducible refine (spec_l11Num.calls A8.out).mono ?_);rintro e w' ⟨rfl,⟨nd,rfl⟩⟩)|(go_at_call 66;(with_reducible refine (spec_l11Num.calls A10.out).mono ?_);rintro e w' ⟨rfl,⟨nd,rfl⟩⟩)|(go_at_call 66;(with_reducible refine (spec_l11Num.calls A12.out).mono ?_);rintro e w' ⟨rfl,⟨nd,rfl⟩⟩)|(go_at_call 66;(with_reducible refine (spec_l11Num.calls A14.out).mono ?_);rintro e w' ⟨rfl,⟨nd,rfl⟩⟩)|(go_at_call 66;(with_reducible refine (spec_l11Num.calls A16.out).mono ?_);rintro e w' ⟨rfl,⟨nd,rfl⟩⟩)|(go_at_call 66;(with_reducible refine (spec_l11Num.calls A18.out).mono ?_);rintro e w' ⟨rfl,⟨nd,rfl⟩⟩))
          go_ret
          exact rZ (pS HB.out)
        ·replace c17:=Bool.eq_false_iff.mpr c17;subst c17
         rw [if_neg nFT] at H
         obtain rfl:=Option.some.inj H
         go_enter Try.func69,Try.ntmps69
         go_wp2_with (first|((with_reducible refine gLg rfl (by assumption) ?_);refine ldV ?_)|((with_reducible refine gSt rfl (by assumption) ?_);refine stV ?_)|((with_reducible refine gT 1 rfl ?_);refine bX 1 ?_;intro gb231 hg w25 hbox hb;have BK231:=mA hbox;have GW231:=gbpB HB hg;have GE231:=gbpB HB hg;replace HB:=spB HB hb;clear hb hbox hg;have hcz26_0:=fun i_=>blk_cell BK231.out i_;have hfz26_0:=fun i_=>blk_frozen BK231.out i_)|((with_reducible refine gT 5 rfl ?_);refine gC (some 5) Try.func67 (spec_l6In.calls A2.out) ?_;rintro e w' ⟨rfl,⟨nd,rfl⟩⟩;refine ⟨_,rfl,?_⟩)|(go_at_call 66;(with_reducible refine (spec_l11Num.calls A4.out).mono ?_);rintro e w' ⟨rfl,⟨nd,rfl⟩⟩)|(go_at_call 66;(with_reducible refine (spec_l11Num.calls A6.out).mono ?_);rintro e w' ⟨rfl,⟨nd,rfl⟩⟩)|(go_at_call 66;(with_reducible refine (spec_l11Num.calls A8.out).mono ?_);rintro e w' ⟨rfl,⟨nd,rfl⟩⟩)|(go_at_call 66;(with_reducible refine (spec_l11Num.calls A10.out).mono ?_);rintro e w' ⟨rfl,⟨nd,rfl⟩⟩)|(go_at_call 66;(with_reducible refine (spec_l11Num.calls A12.out).mono ?_);rintro e w' ⟨rfl,⟨nd,rfl⟩⟩)|(go_at_call 66;(with_reducible refine (spec_l11Num.calls A14.out).mono ?_);rintro e w' ⟨rfl,⟨nd,rfl⟩⟩)|(go_at_call 66;(with_reducible refine (spec_l11Num.calls A16.out).mono ?_);rintro e w' ⟨rfl,⟨nd,rfl⟩⟩))
         go_ret
         exact rZ (pS HB.out)
       ·replace c15:=Bool.eq_false_iff.mpr c15;subst c15
        rw [if_neg nFT] at H
        obtain rfl:=Option.some.inj H
        go_enter Try.func69,Try.ntmps69
        go_wp2_with (first|((with_reducible refine gLg rfl (by assumption) ?_);refine ldV ?_)|((with_reducible refine gSt rfl (by assumption) ?_);refine stV ?_)|((with_reducible refine gT 1 rfl ?_);refine bX 1 ?_;intro gb231 hg w27 hbox hb;have BK231:=mA hbox;have GW231:=gbpB HB hg;have GE231:=gbpB HB hg;replace HB:=spB HB hb;clear hb hbox hg;have hcz28_0:=fun i_=>blk_cell BK231.out i_;have hfz28_0:=fun i_=>blk_frozen BK231.out i_)|((with_reducible refine gT 5 rfl ?_);refine gC (some 5) Try.func67 (spec_l6In.calls A2.out) ?_;rintro e w' ⟨rfl,⟨nd,rfl⟩⟩;refine ⟨_,rfl,?_⟩)|(go_at_call 66;(with_reducible refine (spec_l11Num.calls A4.out).mono ?_);rintro e w' ⟨rfl,⟨nd,rfl⟩⟩)|(go_at_call 66;(with_reducible refine (spec_l11Num.calls A6.out).mono ?_);rintro e w' ⟨rfl,⟨nd,rfl⟩⟩)|(go_at_call 66;(with_reducible refine (spec_l11Num.calls A8.out).mono ?_);rintro e w' ⟨rfl,⟨nd,rfl⟩⟩)|(go_at_call 66;(with_reducible refine (spec_l11Num.calls A10.out).mono ?_);rintro e w' ⟨rfl,⟨nd,rfl⟩⟩)|(go_at_call 66;(with_reducible refine (spec_l11Num.calls A12.out).mono ?_);rintro e w' ⟨rfl,⟨nd,rfl⟩⟩)|(go_at_call 66;(with_reducible refine (spec_l11Num.calls A14.out).mono ?_);rintro e w' ⟨rfl,⟨nd,rfl⟩⟩))
        go_ret
        exact rZ (pS HB.out)
      ·replace c13:=Bool.eq_false_iff.mpr c13;subst c13
       rw [if_neg nFT] at H
       obtain rfl:=Option.some.inj H
       go_enter Try.func69,Try.ntmps69
       go_wp2_with (first|((with_reducible refine gLg rfl (by assumption) ?_);refine ldV ?_)|((with_reducible refine gSt rfl (by assumption) ?_);refine stV ?_)|((with_reducible refine gT 1 rfl ?_);refine bX 1 ?_;intro gb231 hg w29 hbox hb;have BK231:=mA hbox;have GW231:=gbpB HB hg;have GE231:=gbpB HB hg;replace HB:=spB HB hb;clear hb hbox hg;have hcz30_0:=fun i_=>blk_cell BK231.out i_;have hfz30_0:=fun i_=>blk_frozen BK231.out i_)|((with_reducible refine gT 5 rfl ?_);refine gC (some 5) Try.func67 (spec_l6In.calls A2.out) ?_;rintro e w' ⟨rfl,⟨nd,rfl⟩⟩;refine ⟨_,rfl,?_⟩)|(go_at_call 66;(with_reducible refine (spec_l11Num.calls A4.out).mono ?_);rintro e w' ⟨rfl,⟨nd,rfl⟩⟩)|(go_at_call 66;(with_reducible refine (spec_l11Num.calls A6.out).mono ?_);rintro e w' ⟨rfl,⟨nd,rfl⟩⟩)|(go_at_call 66;(with_reducible refine (spec_l11Num.calls A8.out).mono ?_);rintro e w' ⟨rfl,⟨nd,rfl⟩⟩)|(go_at_call 66;(with_reducible refine (spec_l11Num.calls A10.out).mono ?_);rintro e w' ⟨rfl,⟨nd,rfl⟩⟩)|(go_at_call 66;(with_reducible refine (spec_l11Num.calls A12.out).mono ?_);rintro e w' ⟨rfl,⟨nd,rfl⟩⟩))
       go_ret
       exact rZ (pS HB.out)
     ·replace c11:=Bool.eq_false_iff.mpr c11;subst c11
      rw [if_neg nFT] at H
      obtain rfl:=Option.some.inj H
      go_enter Try.func69,Try.ntmps69
      go_wp2_with (first|((with_reducible refine gLg rfl (by assumption) ?_);refine ldV ?_)|((with_reducible refine gSt rfl (by assumption) ?_);refine stV ?_)|((with_reducible refine gT 1 rfl ?_);refine bX 1 ?_;intro gb231 hg w31 hbox hb;have BK231:=mA hbox;have GW231:=gbpB HB hg;have GE231:=gbpB HB hg;replace HB:=spB HB hb;clear hb hbox hg;have hcz32_0:=fun i_=>blk_cell BK231.out i_;have hfz32_0:=fun i_=>blk_frozen BK231.out i_)|((with_reducible refine gT 5 rfl ?_);refine gC (some 5) Try.func67 (spec_l6In.calls A2.out) ?_;rintro e w' ⟨rfl,⟨nd,rfl⟩⟩;refine ⟨_,rfl,?_⟩)|(go_at_call 66;(with_reducible refine (spec_l11Num.calls A4.out).mono ?_);rintro e w' ⟨rfl,⟨nd,rfl⟩⟩)|(go_at_call 66;(with_reducible refine (spec_l11Num.calls A6.out).mono ?_);rintro e w' ⟨rfl,⟨nd,rfl⟩⟩)|(go_at_call 66;(with_reducible refine (spec_l11Num.calls A8.out).mono ?_);rintro e w' ⟨rfl,⟨nd,rfl⟩⟩)|(go_at_call 66;(with_reducible refine (spec_l11Num.calls A10.out).mono ?_);rintro e w' ⟨rfl,⟨nd,rfl⟩⟩))
      go_ret
      exact rZ (pS HB.out)
    ·replace c9:=Bool.eq_false_iff.mpr c9;subst c9
     rw [if_neg nFT] at H
     obtain rfl:=Option.some.inj H
     go_enter Try.func69,Try.ntmps69
     go_wp2_with (first|((with_reducible refine gLg rfl (by assumption) ?_);refine ldV ?_)|((with_reducible refine gSt rfl (by assumption) ?_);refine stV ?_)|((with_reducible refine gT 1 rfl ?_);refine bX 1 ?_;intro gb231 hg w33 hbox hb;have BK231:=mA hbox;have GW231:=gbpB HB hg;have GE231:=gbpB HB hg;replace HB:=spB HB hb;clear hb hbox hg;have hcz34_0:=fun i_=>blk_cell BK231.out i_;have hfz34_0:=fun i_=>blk_frozen BK231.out i_)|((with_reducible refine gT 5 rfl ?_);refine gC (some 5) Try.func67 (spec_l6In.calls A2.out) ?_;rintro e w' ⟨rfl,⟨nd,rfl⟩⟩;refine ⟨_,rfl,?_⟩)|(go_at_call 66;(with_reducible refine (spec_l11Num.calls A4.out).mono ?_);rintro e w' ⟨rfl,⟨nd,rfl⟩⟩)|(go_at_call 66;(with_reducible refine (spec_l11Num.calls A6.out).mono ?_);rintro e w' ⟨rfl,⟨nd,rfl⟩⟩)|(go_at_call 66;(with_reducible refine (spec_l11Num.calls A8.out).mono ?_);rintro e w' ⟨rfl,⟨nd,rfl⟩⟩))
     go_ret
     exact rZ (pS HB.out)
   ·replace c7:=Bool.eq_false_iff.mpr c7;subst c7
    rw [if_neg nFT] at H
    obtain rfl:=Option.some.inj H
    go_enter Try.func69,Try.ntmps69
    go_wp2_with (first|((with_reducible refine gLg rfl (by assumption) ?_);refine ldV ?_)|((with_reducible refine gSt rfl (by assumption) ?_);refine stV ?_)|((with_reducible refine gT 1 rfl ?_);refine bX 1 ?_;intro gb231 hg w35 hbox hb;have BK231:=mA hbox;have GW231:=gbpB HB hg;have GE231:=gbpB HB hg;replace HB:=spB HB hb;clear hb hbox hg;have hcz36_0:=fun i_=>blk_cell BK231.out i_;have hfz36_0:=fun i_=>blk_frozen BK231.out i_)|((with_reducible refine gT 5 rfl ?_);refine gC (some 5) Try.func67 (spec_l6In.calls A2.out) ?_;rintro e w' ⟨rfl,⟨nd,rfl⟩⟩;refine ⟨_,rfl,?_⟩)|(go_at_call 66;(with_reducible refine (spec_l11Num.calls A4.out).mono ?_);rintro e w' ⟨rfl,⟨nd,rfl⟩⟩)|(go_at_call 66;(with_reducible refine (spec_l11Num.calls A6.out).mono ?_);rintro e w' ⟨rfl,⟨nd,rfl⟩⟩))
    go_ret
    exact rZ (pS HB.out)
  ·replace c5:=Bool.eq_false_iff.mpr c5;subst c5
   rw [if_neg nFT] at H
   obtain rfl:=Option.some.inj H
   go_enter Try.func69,Try.ntmps69
   go_wp2_with (first|((with_reducible refine gLg rfl (by assumption) ?_);refine ldV ?_)|((with_reducible refine gSt rfl (by assumption) ?_);refine stV ?_)|((with_reducible refine gT 1 rfl ?_);refine bX 1 ?_;intro gb231 hg w37 hbox hb;have BK231:=mA hbox;have GW231:=gbpB HB hg;have GE231:=gbpB HB hg;replace HB:=spB HB hb;clear hb hbox hg;have hcz38_0:=fun i_=>blk_cell BK231.out i_;have hfz38_0:=fun i_=>blk_frozen BK231.out i_)|((with_reducible refine gT 5 rfl ?_);refine gC (some 5) Try.func67 (spec_l6In.calls A2.out) ?_;rintro e w' ⟨rfl,⟨nd,rfl⟩⟩;refine ⟨_,rfl,?_⟩)|(go_at_call 66;(with_reducible refine (spec_l11Num.calls A4.out).mono ?_);rintro e w' ⟨rfl,⟨nd,rfl⟩⟩))
   go_ret
   exact rZ (pS HB.out)
 ·replace c3:=Bool.eq_false_iff.mpr c3;subst c3
  rw [if_neg nFT] at H
  obtain rfl:=Option.some.inj H
  go_enter Try.func69,Try.ntmps69
  go_wp2_with (first|((with_reducible refine gLg rfl (by assumption) ?_);refine ldV ?_)|((with_reducible refine gSt rfl (by assumption) ?_);refine stV ?_)|((with_reducible refine gT 1 rfl ?_);refine bX 1 ?_;intro gb231 hg w39 hbox hb;have BK231:=mA hbox;have GW231:=gbpB HB hg;have GE231:=gbpB HB hg;replace HB:=spB HB hb;clear hb hbox hg;have hcz40_0:=fun i_=>blk_cell BK231.out i_;have hfz40_0:=fun i_=>blk_frozen BK231.out i_)|((with_reducible refine gT 5 rfl ?_);refine gC (some 5) Try.func67 (spec_l6In.calls A2.out) ?_;rintro e w' ⟨rfl,⟨nd,rfl⟩⟩;refine ⟨_,rfl,?_⟩))
  go_ret
  exact rZ (pS HB.out)
/-! ### spec_l3Before: function 129 -/
def spec_l3Before.f (a0_0 a0_1 a0_2 a0_3 a1 a2 a3 : Int) : Option (Bool) := if a0_0 = a1 then (if a0_1 = a2 then (some (decide (a0_2 < a3))) else (some (decide (a0_1 < a2)))) else (some (decide (a0_0 < a1)))
set_option maxHeartbeats 8000000 in
set_option maxRecDepth 100000 in
theorem spec_l3Before.calls {a0_0 a0_1 a0_2 a0_3 a1 a2 a3 : Int} {r : Bool} {w : World} (h : spec_l3Before.f a0_0 a0_1 a0_2 a0_3 a1 a2 a3 = some r) :
  Calls Try.prog 129 #[.agg #[.int .i64 a0_0,.int .i64 a0_1,.int .i64 a0_2,.int .i64 a0_3],.int .i64 a1,.int .i64 a2,.int .i64 a3] w fun e w'=>e=.returned (.bool r)∧Below w.heap.size w w':=by
 have hu138:=Try.underlying138;have HB:=mA (Below.refl w.heap.size w);have H:(if a0_0=a1 then (if a0_1=a2 then (some (decide (a0_2<a3))) else (some (decide (a0_1<a2)))) else (some (decide (a0_0<a1))))=some r:=h;clear h
 by_cases c5:a0_0=a1
 ·rw [if_pos c5] at H;obtain ⟨c5b0,c5b1⟩:=eqB c5;clear c5
  by_cases c6:a0_1=a2
  ·rw [if_pos c6] at H;obtain ⟨c6b0,c6b1⟩:=eqB c6;clear c6;obtain rfl:=Option.some.inj H
   go_enter Try.func129,Try.ntmps129
   go_wp2_with (first|((with_reducible refine gT 4 rfl ?_);refine bX 4 ?_;intro gb242 hg w7 hbox hb;have BK242:=mA hbox;have GW242:=gbpB HB hg;have GE242:=gbpB HB hg;replace HB:=spB HB hb;clear hb hbox hg;obtain ⟨hcz8_0,hcz8_1,hcz8_2,hcz8_3,hfz8_0,hfz8_1,hfz8_2,hfz8_3⟩:=box4 BK242.out))
   go_ret
   exact rZ (pS HB.out)
  ·rw [if_neg c6] at H;have c6b0:(a0_1 == a2)=false:=beq_eq_false_iff_ne.mpr c6;have c6b1:(a0_1 != a2)=true:=bne_iff_ne.mpr c6;obtain rfl:=Option.some.inj H
   go_enter Try.func129,Try.ntmps129
   go_wp2_with (first|((with_reducible refine gT 4 rfl ?_);refine bX 4 ?_;intro gb242 hg w9 hbox hb;have BK242:=mA hbox;have GW242:=gbpB HB hg;have GE242:=gbpB HB hg;replace HB:=spB HB hb;clear hb hbox hg;obtain ⟨hcz10_0,hcz10_1,hcz10_2,hcz10_3,hfz10_0,hfz10_1,hfz10_2,hfz10_3⟩:=box4 BK242.out))
   go_ret
   exact rZ (pS HB.out)
 ·rw [if_neg c5] at H;have c5b0:(a0_0 == a1)=false:=beq_eq_false_iff_ne.mpr c5;have c5b1:(a0_0 != a1)=true:=bne_iff_ne.mpr c5;obtain rfl:=Option.some.inj H
  go_enter Try.func129,Try.ntmps129
  go_wp2_with (first|((with_reducible refine gT 4 rfl ?_);refine bX 4 ?_;intro gb242 hg w11 hbox hb;have BK242:=mA hbox;have GW242:=gbpB HB hg;have GE242:=gbpB HB hg;replace HB:=spB HB hb;clear hb hbox hg;obtain ⟨hcz12_0,hcz12_1,hcz12_2,hcz12_3,hfz12_0,hfz12_1,hfz12_2,hfz12_3⟩:=box4 BK242.out))
  go_ret
  exact rZ (pS HB.out)
/-! ### spec_BlkOk: function 70 -/
mutual
def spec_BlkOk.l0 : Nat → List (S138) → Int → Option (Bool)
 | 0,_,_=>none
 | k+1,x0,x3=>if x3<(x0.length:Int) then (if 0≤x3 then ((spec_l6In.f ((rd_T138 x0 x3).f0) 1 99999).bind fun t245=>(if t245=true then ((spec_l6In.f ((rd_T138 x0 x3).f1) 0 99999).bind fun t246=>(if t246=true then ((spec_l6In.f ((rd_T138 x0 x3).f2) 1 99999).bind fun t247=>(if t247=true then ((spec_l6In.f ((rd_T138 x0 x3).f3) 0 99999).bind fun t248=>(spec_BlkOk.j1 k x0 x3 (!t248) ((rd_T138 x0 x3).f0) ((rd_T138 x0 x3).f1) ((rd_T138 x0 x3).f2) ((rd_T138 x0 x3).f3))) else (spec_BlkOk.j1 k x0 x3 true ((rd_T138 x0 x3).f0) ((rd_T138 x0 x3).f1) ((rd_T138 x0 x3).f2) ((rd_T138 x0 x3).f3)))) else (spec_BlkOk.j1 k x0 x3 true ((rd_T138 x0 x3).f0) ((rd_T138 x0 x3).f1) ((rd_T138 x0 x3).f2) ((rd_T138 x0 x3).f3)))) else (spec_BlkOk.j1 k x0 x3 true ((rd_T138 x0 x3).f0) ((rd_T138 x0 x3).f1) ((rd_T138 x0 x3).f2) ((rd_T138 x0 x3).f3)))) else (none)) else (some true)
def spec_BlkOk.j1 : Nat → List (S138) → Int → Bool → Int → Int → Int → Int → Option (Bool)
 | 0,_,_,_,_,_,_,_=>none
 | k+1,x0,x3,x39,x245000,x245001,x245002,x245003=>if x39=true then (some false) else (if x3 > 0 then (if 0≤(wrap64 (x3 - 1)) then (if (wrap64 (x3 - 1))<(x0.length:Int) then ((spec_l3Before.f ((rd_T138 x0 (wrap64 (x3 - 1))).f0) ((rd_T138 x0 (wrap64 (x3 - 1))).f1) ((rd_T138 x0 (wrap64 (x3 - 1))).f2) ((rd_T138 x0 (wrap64 (x3 - 1))).f3) x245000 x245001 x245002).bind fun t250=>(if t250=true then (spec_BlkOk.l0 k x0 (wrap64 (x3+1))) else (some false))) else (none)) else (none)) else (spec_BlkOk.l0 k x0 (wrap64 (x3+1))))
end
def spec_BlkOk.f (k : Nat) (l0 : List (S138)) : Option (Bool) := if (l0.length : Int) > 60 then (some false) else (spec_BlkOk.l0 k l0 0)
def spec_BlkOk.T9 : Bool × List (List Nat × List Nat) := (true, [([], []), ([0], [0]), ([1], [1]), ([2], [2]), ([2], [2]), ([4, 2], [2, 4]), ([3, 5, 2], [2, 3, 5]), ([6, 2], [2, 6]), ([2], [2]), ([8, 2], [2, 8]), ([2], [2]), ([10, 2], [2, 10]), ([2], [2]), ([12, 2], [2, 12]), ([7, 9, 11, 13, 2, 2], [2, 7, 9, 11, 13]), ([14, 2], [2, 14]), ([2, 15], [2, 15])])
def spec_BlkOk.B9 : List Nat := [0, 1, 3, 7, 7, 23, 63, 127, 7, 263, 7, 1031, 7, 4103, 16383, 32767, 65535]
theorem spec_BlkOk.tab9 : rtab .any (opsOf Try.f70 9) = spec_BlkOk.T9 := by kernel_rfl
theorem spec_BlkOk.bits9 : waitsOk spec_BlkOk.T9.2 spec_BlkOk.B9 = true := by kernel_rfl
set_option maxHeartbeats 8000000 in
set_option maxRecDepth 100000 in
theorem spec_BlkOk.calls {k : Nat} {A0 : Option Addr} {c0 : Nat} {l0 : List (S138)} {r : Bool} {w : World} (hr0 : Kd.C k138 w A0 l0.length l0) (hc0 : l0.length ≤ c0) (h : spec_BlkOk.f k l0 = some r) :
  Calls Try.prog 70 #[.slice A0 l0.length c0] w fun e w'=>e=.returned (.bool r)∧Below w.heap.size w w':=by
 have hu138:=Try.underlying138;have HR0:=mA hr0;have HC0:=mA hc0;clear hr0 hc0;have HB:=mA (Below.refl w.heap.size w);have H:(if (l0.length:Int) > 60 then (some false) else (spec_BlkOk.l0 k l0 0))=some r:=h;clear h
 by_cases c2:(l0.length:Int) > 60
 ·rw [if_pos c2] at H;have c2b0:decide (60<(l0.length:Int))=true:=decide_eq_true c2
  have c2b1:decide (60<l0.length)=true:=decide_eq_true (by omega)
  clear c2;obtain rfl:=Option.some.inj H
  go_enter Try.func70,Try.ntmps70
  go_wp2
  go_ret
  exact rZ (pB HB.out)
 ·rw [if_neg c2] at H;have c2b0:decide (60<(l0.length:Int))=false:=decide_eq_false c2
  have c2b1:decide (60<l0.length)=false:=decide_eq_false (by omega)
  clear c2;have H':=mA H;clear H
  go_enter Try.func70,Try.ntmps70
  go_wp2
  go_loopg [3] k (fun kq v3 w'=>∃ (x3_1:Int),v3=.int .i64 x3_1∧Aside0 (spec_BlkOk.l0 kq l0 x3_1=some r)∧Aside0 (kq≤k)∧Aside0 (Below w.heap.size w w'))
  case atStart=>exact ⟨(0),bZ,H',⟨Nat.le_refl _⟩,⟨pB HB.out⟩⟩
  case round =>
   clear H'
   (try clear c2);(try clear c2b0);(try clear c2b1)
   obtain ⟨x3_1,rfl,HA,HK1,HB⟩:=hrel
   cases gk with
   | zero=>exact absurd HA.out (by simp [spec_BlkOk.l0])
   | succ k1 =>
    have H:=HA.out;clear HA;simp only [spec_BlkOk.l0] at H
    by_cases c3:x3_1<(l0.length:Int)
    ·rw [if_pos c3] at H;have c3b0:decide (x3_1<(l0.length:Int))=true:=decide_eq_true c3;clear c3
     by_cases c4:0≤x3_1
     ·rw [if_pos c4] at H;have c4b0:decide (0≤x3_1)=true:=decide_eq_true c4;clear c4;have HC5:=mA H;clear H;have p243:0≤(x3_1:Int):=of_decide_eq_true bA;have q243:x3_1<(l0.length:Int):=of_decide_eq_true bA;obtain ⟨ad243,e243,hx243_0,hx243_1,hx243_2,hx243_3⟩:=at_T138 HR0.out x3_1 p243 q243;cases e243;replace hx243_0:=hC HB hx243_0;replace hx243_1:=hC HB hx243_1;replace hx243_2:=hC HB hx243_2;replace hx243_3:=hC HB hx243_3;replace p243:=eq_true p243;replace q243:=eq_true q243
      go_upto_region 7 with (first|((with_reducible refine gT 4 rfl ?_);refine bJ 4 y138 ?_;intro gb244 hg w6 hbox hb;have BK244:=mA hbox;have GW244:=gbpB HB hg;have GE244:=gbpB HB hg;replace HB:=spB HB hb;clear hb hbox hg;obtain ⟨hcz7_0,hcz7_1,hcz7_2,hcz7_3,hfz7_0,hfz7_1,hfz7_2,hfz7_3⟩:=box4 BK244.out))
      (try simp only [Act.put,List.setIfInBounds_toArray,List.set_cons_zero,List.set_cons_succ])
      go_cut [39] (fun v39 wc=>∃ (kq:Nat) (x39_4:Bool),v39=.bool x39_4∧Aside0 (spec_BlkOk.j1 kq l0 x3_1 x39_4 ((rd_T138 l0 x3_1).f0) ((rd_T138 l0 x3_1).f1) ((rd_T138 l0 x3_1).f2) ((rd_T138 l0 x3_1).f3)=some r)∧Aside0 (kq≤k1)∧Aside0 (wc.heap[gb244]?=some (.cells #[.int .i64 ((rd_T138 l0 x3_1).f0),.int .i64 ((rd_T138 l0 x3_1).f1),.int .i64 ((rd_T138 l0 x3_1).f2),.int .i64 ((rd_T138 l0 x3_1).f3)] 138 (0,0)))∧Aside0 (Below w.heap.size w wc))
      case first =>
       have H:=HC5.out;clear HC5;obtain ⟨t245,A8,H⟩:=bI H;(try dsimp only at H)
       by_cases c9:t245=true
       ·subst c9;rw [if_pos rfl] at H;obtain ⟨t246,A10,H⟩:=bI H;(try dsimp only at H)
        by_cases c11:t246=true
        ·subst c11;rw [if_pos rfl] at H;obtain ⟨t247,A12,H⟩:=bI H;(try dsimp only at H)
         by_cases c13:t247=true
         ·subst c13;rw [if_pos rfl] at H;obtain ⟨t248,A14,H⟩:=bI H;(try dsimp only at H);have H':=mA H;clear H;obtain ⟨hcz15_0,hcz15_1,hcz15_2,hcz15_3,hfz15_0,hfz15_1,hfz15_2,hfz15_3⟩:=box4 BK244.out
          go_wp2_with (first|((with_reducible refine gT 20 rfl ?_);refine gC (some 20) Try.func67 (spec_l6In.calls A8.out) ?_;rintro e w' ⟨rfl,⟨nd,rfl⟩⟩;refine ⟨_,rfl,?_⟩)|(go_at_call 67;(with_reducible refine (spec_l6In.calls A10.out).mono ?_);rintro e w' ⟨rfl,⟨nd,rfl⟩⟩)|(go_at_call 67;(with_reducible refine (spec_l6In.calls A12.out).mono ?_);rintro e w' ⟨rfl,⟨nd,rfl⟩⟩)|(go_at_call 67;(with_reducible refine (spec_l6In.calls A14.out).mono ?_);rintro e w' ⟨rfl,⟨nd,rfl⟩⟩))
          go_meet
          case rel=>exact ⟨_,(!t248),bZ,H',⟨by have:=HK1.out;first|omega|exact Nat.le_refl _⟩,⟨pP BK244⟩,⟨pS HB.out⟩⟩
         ·replace c13:=Bool.eq_false_iff.mpr c13;subst c13
          rw [if_neg nFT] at H
          have H':=mA H;clear H;obtain ⟨hcz16_0,hcz16_1,hcz16_2,hcz16_3,hfz16_0,hfz16_1,hfz16_2,hfz16_3⟩:=box4 BK244.out
          go_wp2_with (first|((with_reducible refine gT 20 rfl ?_);refine gC (some 20) Try.func67 (spec_l6In.calls A8.out) ?_;rintro e w' ⟨rfl,⟨nd,rfl⟩⟩;refine ⟨_,rfl,?_⟩)|(go_at_call 67;(with_reducible refine (spec_l6In.calls A10.out).mono ?_);rintro e w' ⟨rfl,⟨nd,rfl⟩⟩)|(go_at_call 67;(with_reducible refine (spec_l6In.calls A12.out).mono ?_);rintro e w' ⟨rfl,⟨nd,rfl⟩⟩))
          go_meet
          case rel=>exact ⟨_,(true),bZ,H',⟨by have:=HK1.out;first|omega|exact Nat.le_refl _⟩,⟨pP BK244⟩,⟨pS HB.out⟩⟩
        ·replace c11:=Bool.eq_false_iff.mpr c11;subst c11
         rw [if_neg nFT] at H
         have H':=mA H;clear H;obtain ⟨hcz17_0,hcz17_1,hcz17_2,hcz17_3,hfz17_0,hfz17_1,hfz17_2,hfz17_3⟩:=box4 BK244.out
         go_wp2_with (first|((with_reducible refine gT 20 rfl ?_);refine gC (some 20) Try.func67 (spec_l6In.calls A8.out) ?_;rintro e w' ⟨rfl,⟨nd,rfl⟩⟩;refine ⟨_,rfl,?_⟩)|(go_at_call 67;(with_reducible refine (spec_l6In.calls A10.out).mono ?_);rintro e w' ⟨rfl,⟨nd,rfl⟩⟩))
         go_meet
         case rel=>exact ⟨_,(true),bZ,H',⟨by have:=HK1.out;first|omega|exact Nat.le_refl _⟩,⟨pP BK244⟩,⟨pS HB.out⟩⟩
       ·replace c9:=Bool.eq_false_iff.mpr c9;subst c9
        rw [if_neg nFT] at H
        have H':=mA H;clear H;obtain ⟨hcz18_0,hcz18_1,hcz18_2,hcz18_3,hfz18_0,hfz18_1,hfz18_2,hfz18_3⟩:=box4 BK244.out
        go_wp2_with (first|((with_reducible refine gT 20 rfl ?_);refine gC (some 20) Try.func67 (spec_l6In.calls A8.out) ?_;rintro e w' ⟨rfl,⟨nd,rfl⟩⟩;refine ⟨_,rfl,?_⟩))
        go_meet
        case rel=>exact ⟨_,(true),bZ,H',⟨by have:=HK1.out;first|omega|exact Nat.le_refl _⟩,⟨pP BK244⟩,⟨pS HB.out⟩⟩
      case rest =>
       clear HC5
       (try clear c2);(try clear c2b0);(try clear c2b1);(try clear c3);(try clear c3b0);(try clear c4);(try clear c4b0);(try clear hcz7_0);(try clear hcz7_1);(try clear hcz7_2);(try clear hcz7_3);(try clear hfz7_0);(try clear hfz7_1);(try clear hfz7_2);(try clear hfz7_3);(try clear hx243_0);(try clear hx243_1);(try clear hx243_2);(try clear hx243_3);(try clear p243);(try clear q243)
       obtain ⟨kq,x39_4,rfl,HA,HJ4,BK244,HB⟩:=hcut
       cases kq with
       | zero=>exact absurd HA.out (by simp [spec_BlkOk.j1])
       | succ kj4 =>
        have H:=HA.out;clear HA;simp only [spec_BlkOk.j1] at H
        by_cases c19:x39_4=true
        ·subst c19;rw [if_pos rfl] at H;obtain rfl:=Option.some.inj H
         go_wp2
         go_ret
         exact rZ (pS HB.out)
        ·replace c19:=Bool.eq_false_iff.mpr c19;subst c19
         rw [if_neg nFT] at H
         by_cases c20:x3_1 > 0
         ·rw [if_pos c20] at H;have c20b0:decide (0<x3_1)=true:=decide_eq_true c20;clear c20;obtain ⟨ji21,hji21⟩:∃ j_:Int,(wrap64 (x3_1 - 1))=j_:=⟨_,rfl⟩
          replace H:(if 0≤(ji21) then (if (ji21)<(l0.length:Int) then ((spec_l3Before.f ((rd_T138 l0 (ji21)).f0) ((rd_T138 l0 (ji21)).f1) ((rd_T138 l0 (ji21)).f2) ((rd_T138 l0 (ji21)).f3) ((rd_T138 l0 x3_1).f0) ((rd_T138 l0 x3_1).f1) ((rd_T138 l0 x3_1).f2)).bind fun t250=>(if t250=true then (spec_BlkOk.l0 kj4 l0 (wrap64 (x3_1+1))) else (some false))) else (none)) else (none))=some r:=by first|(rw [hji21] at H;exact H)|(simp only [hji21] at H ⊢;exact H)
          have hji21w:(IntKind.i64.wrap (x3_1 - 1))=ji21:=(i64_w _).trans hji21
          by_cases c22:0≤(ji21)
          ·rw [if_pos c22] at H;have c22b0:decide (0≤(ji21))=true:=decide_eq_true c22;clear c22
           by_cases c23:(ji21)<(l0.length:Int)
           ·rw [if_pos c23] at H;have c23b0:decide ((ji21)<(l0.length:Int))=true:=decide_eq_true c23;clear c23;obtain ⟨t250,A24,H⟩:=bI H;(try dsimp only at H)
            have H0_:=mA H;clear H
            try go_wp2
            replace BK244:=mA (blk_drew BK244.out);replace HB:=mA (below_drew1 HB.out);have p249:0≤((ji21):Int):=of_decide_eq_true bA;have q249:(ji21)<(l0.length:Int):=of_decide_eq_true bA;obtain ⟨ad249,e249,hs249⟩:=at_R138 HR0.out (ji21) p249 q249
            obtain rfl:ad243=ad249:=(by injection e249)
            replace p249:=eq_true p249;replace q249:=eq_true q249
            refine start_ (n:=17) (S:=fun w'=>w'.heap[gb244]?=some (.cells #[.int .i64 ((rd_T138 l0 x3_1).f0),.int .i64 ((rd_T138 l0 x3_1).f1),.int .i64 ((rd_T138 l0 x3_1).f2),.int .i64 ((rd_T138 l0 x3_1).f3)] 138 (0,0))∧RS w' (ad243.add (((ji21)).toNat * 4)) (d138 (rd_T138 l0 (ji21)))) (ds:=[]) _ aK rfl rfl ⟨BK244.out,rS HB hs249⟩ (fun hHeld=>?_);refine with_tabW spec_BlkOk.tab9 spec_BlkOk.bits9 (fun HT_ HW_=>?_)
            generalize wc.drew=w26 at BK244 HB hHeld ⊢
            refine qu 0 ?_;refine qu 1 ?_;refine qu 2 ?_;refine qu 3 ?_;refine qu 4 ?_;refine qu 5 ?_;refine qu 6 ?_;refine qu 8 ?_;refine qu 10 ?_;refine qu 12 ?_;refine qt 7 ?_;refine qt 9 ?_;refine qt 11 ?_;refine qt 13 ?_
            refine qo 14 ?_;intro K hK
            refine goes_ Try.func129 aK rfl #[.agg #[.int .i64 ((rd_T138 l0 (ji21)).f0),.int .i64 ((rd_T138 l0 (ji21)).f1),.int .i64 ((rd_T138 l0 (ji21)).f2),.int .i64 ((rd_T138 l0 (ji21)).f3)],.int .i64 ((rd_T138 l0 x3_1).f0),.int .i64 ((rd_T138 l0 x3_1).f1),.int .i64 ((rd_T138 l0 x3_1).f2)] (by rfl) rfl rfl (by (try simp only [List.map_toArray,List.map_cons,List.map_nil]);first|done|(simp only [hji21];rfl)|rfl|(simp only [List.length_drop,List.length_take];rfl)) ?_
            with_reducible refine (spec_l3Before.calls A24.out).mono ?_
            rintro e w27 ⟨rfl,hb⟩;refine ⟨_,rfl,?_⟩;replace BK244:=bK BK244 hb;replace HB:=spS HB hb
            (try clear hb)
            refine hK.out _ _ ⟨BK244.out,rS HB hs249⟩ (fun hHeld=>?_);clear hK K;refine no_ (some 54) ?_;refine qu 15 ?_;refine qu 16 ?_;refine qe ?_
            have H:=H0_.out;clear H0_
            by_cases c25:t250=true
            ·subst c25;rw [if_pos rfl] at H;have H':=mA H;clear H
             try go_wp2
             go_roundg kj4
             case measure=>have:=HK1.out;have:=HJ4.out;omega
             case rel=>exact ⟨(wrap64 (x3_1+1)),bZ,H',⟨by have:=HK1.out;have:=HJ4.out;omega⟩,⟨pS HB.out⟩⟩
            ·replace c25:=Bool.eq_false_iff.mpr c25;subst c25
             rw [if_neg nFT] at H
             obtain rfl:=Option.some.inj H
             try go_wp2
             go_ret
             exact ⟨by first|rfl|(simp [errW_none,errW_some]<;>rfl)|(simp only [← hji21];first|rfl|(simp [errW_none,errW_some]<;>rfl))|(simp [*,errW_none,errW_some]<;>rfl),pS HB.out⟩
           ·rw [if_neg c23] at H
            exact absurd H (by simp)
          ·rw [if_neg c22] at H
           exact absurd H (by simp)
         ·rw [if_neg c20] at H;have c20b0:decide (0<x3_1)=false:=decide_eq_false c20;clear c20;have H':=mA H;clear H
          try go_wp2
          replace BK244:=mA (blk_drew BK244.out);replace HB:=mA (below_drew1 HB.out)
          refine start_ (n:=17) (S:=fun w'=>True) (ds:=[]) _ aK rfl rfl trivial (fun hHeld=>?_);refine with_tabW spec_BlkOk.tab9 spec_BlkOk.bits9 (fun HT_ HW_=>?_)
          generalize wc.drew=w30 at BK244 HB hHeld ⊢
          refine qu 0 ?_;refine qu 1 ?_;refine qu 2 ?_;refine qd 3 ?_;refine qd 4 ?_;refine qd 5 ?_;refine qd 6 ?_;refine qd 7 ?_;refine qd 8 ?_;refine qd 9 ?_;refine qd 10 ?_;refine qd 11 ?_;refine qd 12 ?_;refine qd 13 ?_;refine qd 14 ?_;refine qd 15 ?_;refine qu 16 ?_;refine qe ?_
          try go_wp2
          go_roundg kj4
          case measure=>have:=HK1.out;have:=HJ4.out;omega
          case rel=>exact ⟨(wrap64 (x3_1+1)),bZ,H',⟨by have:=HK1.out;have:=HJ4.out;omega⟩,⟨pS HB.out⟩⟩
     ·rw [if_neg c4] at H
      exact absurd H (by simp)
    ·rw [if_neg c3] at H;have c3b0:decide (x3_1<(l0.length:Int))=false:=decide_eq_false c3;clear c3;obtain rfl:=Option.some.inj H
     go_wp2
     go_ret
     exact rZ (pB HB.out)
/-! ### spec_l3LastOk: function 71 -/
def spec_l3LastOk.l0 : Nat → List (S140) → Int → Option (Bool)
 | 0,_,_=>none
 | k+1,x0,x3=>if x3<(x0.length:Int) then (if 0≤x3 then ((spec_l6In.f ((rd_T140 x0 x3).f0) 0 3).bind fun t252=>(if t252=true then ((spec_l6In.f ((rd_T140 x0 x3).f1) 1 99999).bind fun t254=>(if t254=true then (if x3 > 0 then (if 0≤(wrap64 (x3 - 1)) then (if (wrap64 (x3 - 1))<(x0.length:Int) then (if ((rd_T140 x0 (wrap64 (x3 - 1))).f0) ≥ ((rd_T140 x0 x3).f0) then (some false) else (spec_l3LastOk.l0 k x0 (wrap64 (x3+1)))) else (none)) else (none)) else (spec_l3LastOk.l0 k x0 (wrap64 (x3+1)))) else (some false))) else (some false))) else (none)) else (some true)
def spec_l3LastOk.f (k : Nat) (l0 : List (S140)) : Option (Bool) := if (l0.length : Int) > 4 then (some false) else (spec_l3LastOk.l0 k l0 0)
def spec_l3LastOk.T6 : Bool × List (List Nat × List Nat) := (true, [([], []), ([], []), ([0, 1], [0, 1]), ([2], [2]), ([3], [3]), ([4], [4]), ([5], [5]), ([6, 5], [6]), ([7], [7]), ([7], [7]), ([8, 9, 7], [7, 8, 9]), ([10, 7], [7, 10]), ([11, 7], [7, 11]), ([12, 7, 7], [7, 12]), ([13, 7], [7, 13]), ([7, 14], [7, 14]), ([15, 13], [15]), ([16], [16]), ([17, 16], [16, 17]), ([18, 16, 16], [16, 18]), ([19], [19]), ([19], [19]), ([21, 19], [19, 21]), ([20, 22, 19], [19, 20, 22]), ([23, 19], [19, 23]), ([24, 19], [19, 24]), ([19], [19]), ([19], [19]), ([26, 27, 19], [19, 26, 27]), ([28, 19], [19, 28]), ([29, 19], [19, 29]), ([25, 30, 19], [19, 25, 30]), ([19, 31, 16], [16, 19, 31]), ([16, 32], [16, 32])])
def spec_l3LastOk.B6 : List Nat := [0, 0, 3, 7, 15, 31, 63, 127, 255, 255, 1023, 2047, 4095, 8191, 16383, 32767, 65535, 131071, 262143, 524287, 1048575, 1048575, 3145727, 8388607, 16777215, 33554431, 1048575, 1048575, 202375167, 470810623, 1007681535, 2147483647, 4294967295, 8589934591]
theorem spec_l3LastOk.tab6 : rtab .any (opsOf Try.f71 6) = spec_l3LastOk.T6 := by kernel_rfl
theorem spec_l3LastOk.bits6 : waitsOk spec_l3LastOk.T6.2 spec_l3LastOk.B6 = true := by kernel_rfl
set_option maxHeartbeats 8000000 in
set_option maxRecDepth 100000 in
theorem spec_l3LastOk.calls {k : Nat} {A0 : Option Addr} {c0 : Nat} {l0 : List (S140)} {r : Bool} {w : World} (hr0 : Kd.C k140 w A0 l0.length l0) (hc0 : l0.length ≤ c0) (h : spec_l3LastOk.f k l0 = some r) :
  Calls Try.prog 71 #[.slice A0 l0.length c0] w fun e w'=>e=.returned (.bool r)∧Below w.heap.size w w':=by
 have HR0:=mA hr0;have HC0:=mA hc0;clear hr0 hc0;have HB:=mA (Below.refl w.heap.size w);have H:(if (l0.length:Int) > 4 then (some false) else (spec_l3LastOk.l0 k l0 0))=some r:=h;clear h
 by_cases c2:(l0.length:Int) > 4
 ·rw [if_pos c2] at H;have c2b0:decide (4<(l0.length:Int))=true:=decide_eq_true c2
  have c2b1:decide (4<l0.length)=true:=decide_eq_true (by omega)
  clear c2;obtain rfl:=Option.some.inj H
  go_enter Try.func71,Try.ntmps71
  go_wp2
  go_ret
  exact rZ (pB HB.out)
 ·rw [if_neg c2] at H;have c2b0:decide (4<(l0.length:Int))=false:=decide_eq_false c2
  have c2b1:decide (4<l0.length)=false:=decide_eq_false (by omega)
  clear c2;have H':=mA H;clear H
  go_enter Try.func71,Try.ntmps71
  go_wp2
  go_loopg [3] k (fun kq v3 w'=>∃ (x3_1:Int),v3=.int .i64 x3_1∧Aside0 (spec_l3LastOk.l0 kq l0 x3_1=some r)∧Aside0 (kq≤k)∧Aside0 (Below w.heap.size w w'))
  case atStart=>exact ⟨(0),bZ,H',⟨Nat.le_refl _⟩,⟨pB HB.out⟩⟩
  case round =>
   clear H'
   (try clear c2);(try clear c2b0);(try clear c2b1)
   obtain ⟨x3_1,rfl,HA,HK1,HB⟩:=hrel
   cases gk with
   | zero=>exact absurd HA.out (by simp [spec_l3LastOk.l0])
   | succ k1 =>
    have H:=HA.out;clear HA;simp only [spec_l3LastOk.l0] at H
    by_cases c3:x3_1<(l0.length:Int)
    ·rw [if_pos c3] at H;have c3b0:decide (x3_1<(l0.length:Int))=true:=decide_eq_true c3;clear c3
     by_cases c4:0≤x3_1
     ·rw [if_pos c4] at H;have c4b0:decide (0≤x3_1)=true:=decide_eq_true c4;clear c4;obtain ⟨t252,A5,H⟩:=bI H;(try dsimp only at H)
      by_cases c6:t252=true
      ·subst c6;rw [if_pos rfl] at H;obtain ⟨t254,A7,H⟩:=bI H;(try dsimp only at H)
       by_cases c8:t254=true
       ·subst c8;rw [if_pos rfl] at H
        by_cases c9:x3_1 > 0
        ·rw [if_pos c9] at H;have c9b0:decide (0<x3_1)=true:=decide_eq_true c9;clear c9;obtain ⟨ji10,hji10⟩:∃ j_:Int,(wrap64 (x3_1 - 1))=j_:=⟨_,rfl⟩
         replace H:(if 0≤(ji10) then (if (ji10)<(l0.length:Int) then (if ((rd_T140 l0 (ji10)).f0) ≥ ((rd_T140 l0 x3_1).f0) then (some false) else (spec_l3LastOk.l0 k1 l0 (wrap64 (x3_1+1)))) else (none)) else (none))=some r:=by first|(rw [hji10] at H;exact H)|(simp only [hji10] at H ⊢;exact H)
         (try rw [hji10] at A5)
         (try rw [hji10] at A7)
         have hji10w:(IntKind.i64.wrap (x3_1 - 1))=ji10:=(i64_w _).trans hji10
         by_cases c11:0≤(ji10)
         ·rw [if_pos c11] at H;have c11b0:decide (0≤(ji10))=true:=decide_eq_true c11;clear c11
          by_cases c12:(ji10)<(l0.length:Int)
          ·rw [if_pos c12] at H;have c12b0:decide ((ji10)<(l0.length:Int))=true:=decide_eq_true c12;clear c12
           by_cases c13:((rd_T140 l0 (ji10)).f0) ≥ ((rd_T140 l0 x3_1).f0)
           ·rw [if_pos c13] at H;have c13b0:decide (((rd_T140 l0 x3_1).f0)≤((rd_T140 l0 (ji10)).f0))=true:=decide_eq_true c13;clear c13;obtain rfl:=Option.some.inj H
            try go_wp2
            replace HB:=mA (below_drew1 HB.out);have p251:0≤(x3_1:Int):=of_decide_eq_true bA;have q251:x3_1<(l0.length:Int):=of_decide_eq_true bA;obtain ⟨ad251,e251,hs251⟩:=at_R140 HR0.out x3_1 p251 q251;cases e251;replace p251:=eq_true p251;replace q251:=eq_true q251;have p253:0≤(x3_1:Int):=of_decide_eq_true bA;have q253:x3_1<(l0.length:Int):=of_decide_eq_true bA;obtain ⟨ad253,e253,hs253⟩:=at_R140 HR0.out x3_1 p253 q253
            obtain rfl:ad251=ad253:=(by injection e253)
            replace p253:=eq_true p253;replace q253:=eq_true q253;have p255:0≤((ji10):Int):=of_decide_eq_true bA;have q255:(ji10)<(l0.length:Int):=of_decide_eq_true bA;obtain ⟨ad255,e255,hs255⟩:=at_R140 HR0.out (ji10) p255 q255
            obtain rfl:ad251=ad255:=(by injection e255)
            replace p255:=eq_true p255;replace q255:=eq_true q255;have p256:0≤(x3_1:Int):=of_decide_eq_true bA;have q256:x3_1<(l0.length:Int):=of_decide_eq_true bA;obtain ⟨ad256,e256,hs256⟩:=at_R140 HR0.out x3_1 p256 q256
            obtain rfl:ad251=ad256:=(by injection e256)
            replace p256:=eq_true p256;replace q256:=eq_true q256
            refine start_ (n:=34) (S:=fun w'=>RS w' (ad251.add ((x3_1).toNat * 2)) (d140 (rd_T140 l0 x3_1))∧RS w' (ad251.add ((x3_1).toNat * 2)) (d140 (rd_T140 l0 x3_1))∧RS w' (ad251.add (((ji10)).toNat * 2)) (d140 (rd_T140 l0 (ji10)))∧RS w' (ad251.add ((x3_1).toNat * 2)) (d140 (rd_T140 l0 x3_1))) (ds:=[]) _ aK rfl rfl ⟨rS HB hs251,rS HB hs253,rS HB hs255,rS HB hs256⟩ (fun hHeld=>?_);refine with_tabW spec_l3LastOk.tab6 spec_l3LastOk.bits6 (fun HT_ HW_=>?_)
            generalize wr.drew=w14 at HB hHeld ⊢
            refine qu 0 ?_;refine qu 1 ?_;refine qu 2 ?_;refine qu 3 ?_;refine qt 4 ?_
            refine qo 5 ?_;intro K hK
            refine gD Try.func67 (spec_l6In.calls A5.out) ?_
            rintro e w' ⟨rfl,⟨nd,rfl⟩⟩;refine ⟨_,rfl,?_⟩;refine hK.out _ _ ⟨rS HB hs251,rS HB hs253,rS HB hs255,rS HB hs256⟩ (fun hHeld=>?_);clear hK K;refine no_ (some 18) ?_;refine qu 6 ?_;refine qu 7 ?_;refine qu 8 ?_;refine qu 9 ?_;refine qu 10 ?_;refine qu 11 ?_;refine qt 12 ?_
            refine qo 13 ?_;intro K hK
            refine gD Try.func67 (spec_l6In.calls A7.out) ?_
            rintro e w' ⟨rfl,⟨nd,rfl⟩⟩;refine ⟨_,rfl,?_⟩;refine hK.out _ _ ⟨rS HB hs251,rS HB hs253,rS HB hs255,rS HB hs256⟩ (fun hHeld=>?_);clear hK K;refine no_ (some 26) ?_;refine qu 14 ?_;refine qu 15 ?_;refine qu 16 ?_;refine qu 17 ?_;refine qu 18 ?_;refine qu 19 ?_;refine qu 20 ?_;refine qu 21 ?_;refine qu 22 ?_;refine qu 23 ?_;refine qu 24 ?_;refine qu 26 ?_;refine qu 27 ?_;refine qu 28 ?_;refine qu 29 ?_;refine qt 25 ?_;refine qt 30 ?_;refine qu 31 ?_;refine qu 32 ?_;refine qu 33 ?_;refine qe ?_
            try go_wp2
            go_ret
            exact ⟨by first|rfl|(simp [errW_none,errW_some]<;>rfl)|(simp only [← hji10];first|rfl|(simp [errW_none,errW_some]<;>rfl))|(simp [*,errW_none,errW_some]<;>rfl),pB HB.out⟩
           ·rw [if_neg c13] at H;have c13b0:decide (((rd_T140 l0 x3_1).f0)≤((rd_T140 l0 (ji10)).f0))=false:=decide_eq_false c13;clear c13;have H':=mA H;clear H
            try go_wp2
            replace HB:=mA (below_drew1 HB.out);have p251:0≤(x3_1:Int):=of_decide_eq_true bA;have q251:x3_1<(l0.length:Int):=of_decide_eq_true bA;obtain ⟨ad251,e251,hs251⟩:=at_R140 HR0.out x3_1 p251 q251;cases e251;replace p251:=eq_true p251;replace q251:=eq_true q251;have p253:0≤(x3_1:Int):=of_decide_eq_true bA;have q253:x3_1<(l0.length:Int):=of_decide_eq_true bA;obtain ⟨ad253,e253,hs253⟩:=at_R140 HR0.out x3_1 p253 q253
            obtain rfl:ad251=ad253:=(by injection e253)
            replace p253:=eq_true p253;replace q253:=eq_true q253;have p255:0≤((ji10):Int):=of_decide_eq_true bA;have q255:(ji10)<(l0.length:Int):=of_decide_eq_true bA;obtain ⟨ad255,e255,hs255⟩:=at_R140 HR0.out (ji10) p255 q255
            obtain rfl:ad251=ad255:=(by injection e255)
            replace p255:=eq_true p255;replace q255:=eq_true q255;have p256:0≤(x3_1:Int):=of_decide_eq_true bA;have q256:x3_1<(l0.length:Int):=of_decide_eq_true bA;obtain ⟨ad256,e256,hs256⟩:=at_R140 HR0.out x3_1 p256 q256
            obtain rfl:ad251=ad256:=(by injection e256)
            replace p256:=eq_true p256;replace q256:=eq_true q256
            refine start_ (n:=34) (S:=fun w'=>RS w' (ad251.add ((x3_1).toNat * 2)) (d140 (rd_T140 l0 x3_1))∧RS w' (ad251.add ((x3_1).toNat * 2)) (d140 (rd_T140 l0 x3_1))∧RS w' (ad251.add (((ji10)).toNat * 2)) (d140 (rd_T140 l0 (ji10)))∧RS w' (ad251.add ((x3_1).toNat * 2)) (d140 (rd_T140 l0 x3_1))) (ds:=[]) _ aK rfl rfl ⟨rS HB hs251,rS HB hs253,rS HB hs255,rS HB hs256⟩ (fun hHeld=>?_);refine with_tabW spec_l3LastOk.tab6 spec_l3LastOk.bits6 (fun HT_ HW_=>?_)
            generalize wr.drew=w15 at HB hHeld ⊢
            refine qu 0 ?_;refine qu 1 ?_;refine qu 2 ?_;refine qu 3 ?_;refine qt 4 ?_
            refine qo 5 ?_;intro K hK
            refine gD Try.func67 (spec_l6In.calls A5.out) ?_
            rintro e w' ⟨rfl,⟨nd,rfl⟩⟩;refine ⟨_,rfl,?_⟩;refine hK.out _ _ ⟨rS HB hs251,rS HB hs253,rS HB hs255,rS HB hs256⟩ (fun hHeld=>?_);clear hK K;refine no_ (some 18) ?_;refine qu 6 ?_;refine qu 7 ?_;refine qu 8 ?_;refine qu 9 ?_;refine qu 10 ?_;refine qu 11 ?_;refine qt 12 ?_
            refine qo 13 ?_;intro K hK
            refine gD Try.func67 (spec_l6In.calls A7.out) ?_
            rintro e w' ⟨rfl,⟨nd,rfl⟩⟩;refine ⟨_,rfl,?_⟩;refine hK.out _ _ ⟨rS HB hs251,rS HB hs253,rS HB hs255,rS HB hs256⟩ (fun hHeld=>?_);clear hK K;refine no_ (some 26) ?_;refine qu 14 ?_;refine qu 15 ?_;refine qu 16 ?_;refine qu 17 ?_;refine qu 18 ?_;refine qu 19 ?_;refine qu 20 ?_;refine qu 21 ?_;refine qu 22 ?_;refine qu 23 ?_;refine qu 24 ?_;refine qu 26 ?_;refine qu 27 ?_;refine qu 28 ?_;refine qu 29 ?_;refine qt 25 ?_;refine qt 30 ?_;refine qu 31 ?_;refine qu 32 ?_;refine qu 33 ?_;refine qe ?_
            try go_wp2
            go_roundg k1
            case measure=>have:=HK1.out;omega
            case rel=>exact ⟨(wrap64 (x3_1+1)),bZ,H',⟨by have:=HK1.out;omega⟩,⟨pB HB.out⟩⟩
          ·rw [if_neg c12] at H
           exact absurd H (by simp)
         ·rw [if_neg c11] at H
          exact absurd H (by simp)
        ·rw [if_neg c9] at H;have c9b0:decide (0<x3_1)=false:=decide_eq_false c9;clear c9;have H':=mA H;clear H
         try go_wp2
         replace HB:=mA (below_drew1 HB.out);have p251:0≤(x3_1:Int):=of_decide_eq_true bA;have q251:x3_1<(l0.length:Int):=of_decide_eq_true bA;obtain ⟨ad251,e251,hs251⟩:=at_R140 HR0.out x3_1 p251 q251;cases e251;replace p251:=eq_true p251;replace q251:=eq_true q251;have p253:0≤(x3_1:Int):=of_decide_eq_true bA;have q253:x3_1<(l0.length:Int):=of_decide_eq_true bA;obtain ⟨ad253,e253,hs253⟩:=at_R140 HR0.out x3_1 p253 q253
         obtain rfl:ad251=ad253:=(by injection e253)
         replace p253:=eq_true p253;replace q253:=eq_true q253
         refine start_ (n:=34) (S:=fun w'=>RS w' (ad251.add ((x3_1).toNat * 2)) (d140 (rd_T140 l0 x3_1))∧RS w' (ad251.add ((x3_1).toNat * 2)) (d140 (rd_T140 l0 x3_1))) (ds:=[]) _ aK rfl rfl ⟨rS HB hs251,rS HB hs253⟩ (fun hHeld=>?_);refine with_tabW spec_l3LastOk.tab6 spec_l3LastOk.bits6 (fun HT_ HW_=>?_)
         generalize wr.drew=w16 at HB hHeld ⊢
         refine qu 0 ?_;refine qu 1 ?_;refine qu 2 ?_;refine qu 3 ?_;refine qt 4 ?_
         refine qo 5 ?_;intro K hK
         refine gD Try.func67 (spec_l6In.calls A5.out) ?_
         rintro e w' ⟨rfl,⟨nd,rfl⟩⟩;refine ⟨_,rfl,?_⟩;refine hK.out _ _ ⟨rS HB hs251,rS HB hs253⟩ (fun hHeld=>?_);clear hK K;refine no_ (some 18) ?_;refine qu 6 ?_;refine qu 7 ?_;refine qu 8 ?_;refine qu 9 ?_;refine qu 10 ?_;refine qu 11 ?_;refine qt 12 ?_
         refine qo 13 ?_;intro K hK
         refine gD Try.func67 (spec_l6In.calls A7.out) ?_
         rintro e w' ⟨rfl,⟨nd,rfl⟩⟩;refine ⟨_,rfl,?_⟩;refine hK.out _ _ ⟨rS HB hs251,rS HB hs253⟩ (fun hHeld=>?_);clear hK K;refine no_ (some 26) ?_;refine qu 14 ?_;refine qu 15 ?_;refine qu 16 ?_;refine qu 17 ?_;refine qu 18 ?_;refine qu 19 ?_;refine qd 20 ?_;refine qd 21 ?_;refine qd 22 ?_;refine qd 23 ?_;refine qd 24 ?_;refine qd 25 ?_;refine qd 26 ?_;refine qd 27 ?_;refine qd 28 ?_;refine qd 29 ?_;refine qd 30 ?_;refine qd 31 ?_;refine qu 32 ?_;refine qu 33 ?_;refine qe ?_
         try go_wp2
         go_roundg k1
         case measure=>have:=HK1.out;omega
         case rel=>exact ⟨(wrap64 (x3_1+1)),bZ,H',⟨by have:=HK1.out;omega⟩,⟨pB HB.out⟩⟩
       ·replace c8:=Bool.eq_false_iff.mpr c8;subst c8
        rw [if_neg nFT] at H
        obtain rfl:=Option.some.inj H
        try go_wp2
        replace HB:=mA (below_drew1 HB.out);have p251:0≤(x3_1:Int):=of_decide_eq_true bA;have q251:x3_1<(l0.length:Int):=of_decide_eq_true bA;obtain ⟨ad251,e251,hs251⟩:=at_R140 HR0.out x3_1 p251 q251;cases e251;replace p251:=eq_true p251;replace q251:=eq_true q251;have p253:0≤(x3_1:Int):=of_decide_eq_true bA;have q253:x3_1<(l0.length:Int):=of_decide_eq_true bA;obtain ⟨ad253,e253,hs253⟩:=at_R140 HR0.out x3_1 p253 q253
        obtain rfl:ad251=ad253:=(by injection e253)
        replace p253:=eq_true p253;replace q253:=eq_true q253
        refine start_ (n:=34) (S:=fun w'=>RS w' (ad251.add ((x3_1).toNat * 2)) (d140 (rd_T140 l0 x3_1))∧RS w' (ad251.add ((x3_1).toNat * 2)) (d140 (rd_T140 l0 x3_1))) (ds:=[]) _ aK rfl rfl ⟨rS HB hs251,rS HB hs253⟩ (fun hHeld=>?_);refine with_tabW spec_l3LastOk.tab6 spec_l3LastOk.bits6 (fun HT_ HW_=>?_)
        generalize wr.drew=w17 at HB hHeld ⊢
        refine qu 0 ?_;refine qu 1 ?_;refine qu 2 ?_;refine qu 3 ?_;refine qt 4 ?_
        refine qo 5 ?_;intro K hK
        refine gD Try.func67 (spec_l6In.calls A5.out) ?_
        rintro e w' ⟨rfl,⟨nd,rfl⟩⟩;refine ⟨_,rfl,?_⟩;refine hK.out _ _ ⟨rS HB hs251,rS HB hs253⟩ (fun hHeld=>?_);clear hK K;refine no_ (some 18) ?_;refine qu 6 ?_;refine qu 7 ?_;refine qu 8 ?_;refine qu 9 ?_;refine qu 10 ?_;refine qu 11 ?_;refine qt 12 ?_
        refine qo 13 ?_;intro K hK
        refine gD Try.func67 (spec_l6In.calls A7.out) ?_
        rintro e w' ⟨rfl,⟨nd,rfl⟩⟩;refine ⟨_,rfl,?_⟩;refine hK.out _ _ ⟨rS HB hs251,rS HB hs253⟩ (fun hHeld=>?_);clear hK K;refine no_ (some 26) ?_;refine qu 14 ?_;refine qu 15 ?_;refine qu 16 ?_;refine qd 17 ?_;refine qd 18 ?_;refine qd 19 ?_;refine qd 20 ?_;refine qd 21 ?_;refine qd 22 ?_;refine qd 23 ?_;refine qd 24 ?_;refine qd 25 ?_;refine qd 26 ?_;refine qd 27 ?_;refine qd 28 ?_;refine qd 29 ?_;refine qd 30 ?_;refine qd 31 ?_;refine qd 32 ?_;refine qu 33 ?_;refine qe ?_
        try go_wp2
        go_ret
        exact rZ (pB HB.out)
      ·replace c6:=Bool.eq_false_iff.mpr c6;subst c6
       rw [if_neg nFT] at H
       obtain rfl:=Option.some.inj H
       try go_wp2
       replace HB:=mA (below_drew1 HB.out);have p251:0≤(x3_1:Int):=of_decide_eq_true bA;have q251:x3_1<(l0.length:Int):=of_decide_eq_true bA;obtain ⟨ad251,e251,hs251⟩:=at_R140 HR0.out x3_1 p251 q251;cases e251;replace p251:=eq_true p251;replace q251:=eq_true q251
       refine start_ (n:=34) (S:=fun w'=>RS w' (ad251.add ((x3_1).toNat * 2)) (d140 (rd_T140 l0 x3_1))) (ds:=[]) _ aK rfl rfl (rS HB hs251) (fun hHeld=>?_);refine with_tabW spec_l3LastOk.tab6 spec_l3LastOk.bits6 (fun HT_ HW_=>?_)
       generalize wr.drew=w18 at HB hHeld ⊢
       refine qu 0 ?_;refine qu 1 ?_;refine qu 2 ?_;refine qu 3 ?_;refine qt 4 ?_
       refine qo 5 ?_;intro K hK
       refine gD Try.func67 (spec_l6In.calls A5.out) ?_
       rintro e w' ⟨rfl,⟨nd,rfl⟩⟩;refine ⟨_,rfl,?_⟩;refine hK.out _ _ (rS HB hs251) (fun hHeld=>?_);clear hK K;refine no_ (some 18) ?_;refine qu 6 ?_;refine qu 7 ?_;refine qd 8 ?_;refine qd 9 ?_;refine qd 10 ?_;refine qd 11 ?_;refine qd 12 ?_;refine qd 13 ?_;refine qd 14 ?_;refine qu 15 ?_;refine qu 16 ?_;refine qd 17 ?_;refine qd 18 ?_;refine qd 19 ?_;refine qd 20 ?_;refine qd 21 ?_;refine qd 22 ?_;refine qd 23 ?_;refine qd 24 ?_;refine qd 25 ?_;refine qd 26 ?_;refine qd 27 ?_;refine qd 28 ?_;refine qd 29 ?_;refine qd 30 ?_;refine qd 31 ?_;refine qd 32 ?_;refine qu 33 ?_;refine qe ?_
       try go_wp2
       go_ret
       exact rZ (pB HB.out)
     ·rw [if_neg c4] at H
      exact absurd H (by simp)
    ·rw [if_neg c3] at H;have c3b0:decide (x3_1<(l0.length:Int))=false:=decide_eq_false c3;clear c3;obtain rfl:=Option.some.inj H
     go_wp2
     go_ret
     exact rZ (pB HB.out)
/-! ### spec_WordOk: function 17 -/
def spec_WordOk.l0 : Nat → List Int → Int → Int → Int → Int → Int → Int → Int → Int → Int → Int → Int → Int → Int → Int → Int → Int → Int → Int → Int → Int → Int → Int → Int → Int → Int → List (S138) → List (S140) → Option (Bool)
 | 0,_,_,_,_,_,_,_,_,_,_,_,_,_,_,_,_,_,_,_,_,_,_,_,_,_,_,_,_=>none
 | k+1,x3,x4,x258000,x258001,x258002,x258003,x258004,x258005,x258006,x258007,x258008,x258009,x258010,x258011,x258012,x258013,x258014,x258015,x258016,x258017,x258018,x258019,x258020,x258021,x258022,x258023,x258024,x258025=>if x4<(x3.length:Int) then (if 0≤x4 then ((spec_l11Num.f (rd x3 x4)).bind fun t262=>(if t262=true then (spec_WordOk.l0 k x3 (wrap64 (x4+1)) x258000 x258001 x258002 x258003 x258004 x258005 x258006 x258007 x258008 x258009 x258010 x258011 x258012 x258013 x258014 x258015 x258016 x258017 x258018 x258019 x258020 x258021 x258022 x258023 x258024 x258025) else (some false))) else (none)) else ((spec_l6In.f x258000 1 15).bind fun t263=>(if t263=true then ((spec_l11Place.f x258001).bind fun t264=>(if t264=true then ((spec_l11Place.f x258002).bind fun t265=>(if t265=true then ((spec_l11CmdOk.f x258006 x258007 x258008 x258009 x258010 x258011 x258012 x258013 x258014 x258015).bind fun t266=>(if t266=true then ((spec_BlkOk.f k x258024).bind fun t267=>(if t267=true then ((spec_l3LastOk.f k x258025).bind fun t268=>(some t268)) else (some false))) else (some false))) else (some false))) else (some false))) else (some false)))
def spec_WordOk.f (k : Nat) (a0_0 a0_1 a0_2 a0_3 a0_4 a0_5 a0_6 a0_7 a0_8 a0_9 a0_10 a0_11 a0_12 a0_13 a0_14 a0_15 a0_16 a0_17 a0_18 a0_19 a0_20 a0_21 a0_22 a0_23 : Int) (l0_24 : List (S138)) (l0_25 : List (S140)) : Option (Bool) := (spec_l11Nums.f a0_0 a0_1 a0_2 a0_3 a0_4 a0_5 a0_6 a0_7 a0_8 a0_9 a0_10 a0_11 a0_12 a0_13 a0_14 a0_15 a0_16 a0_17 a0_18 a0_19 a0_20 a0_21 a0_22 a0_23 l0_24 l0_25).bind fun t258 => (spec_WordOk.l0 k t258 0 a0_0 a0_1 a0_2 a0_3 a0_4 a0_5 a0_6 a0_7 a0_8 a0_9 a0_10 a0_11 a0_12 a0_13 a0_14 a0_15 a0_16 a0_17 a0_18 a0_19 a0_20 a0_21 a0_22 a0_23 l0_24 l0_25)
set_option maxHeartbeats 8000000 in
set_option maxRecDepth 100000 in
theorem spec_WordOk.calls {k : Nat} {a0_0 a0_1 a0_2 a0_3 a0_4 a0_5 a0_6 a0_7 a0_8 a0_9 a0_10 a0_11 a0_12 a0_13 a0_14 a0_15 a0_16 a0_17 a0_18 a0_19 a0_20 a0_21 a0_22 a0_23 : Int} {A0_24 : Option Addr} {c0_24 : Nat} {l0_24 : List (S138)} {A0_25 : Option Addr} {c0_25 : Nat} {l0_25 : List (S140)} {r : Bool} {w : World} (hr0_24 : Kd.C k138 w A0_24 l0_24.length l0_24) (hc0_24 : l0_24.length ≤ c0_24) (hr0_25 : Kd.C k140 w A0_25 l0_25.length l0_25) (hc0_25 : l0_25.length ≤ c0_25) (h : spec_WordOk.f k a0_0 a0_1 a0_2 a0_3 a0_4 a0_5 a0_6 a0_7 a0_8 a0_9 a0_10 a0_11 a0_12 a0_13 a0_14 a0_15 a0_16 a0_17 a0_18 a0_19 a0_20 a0_21 a0_22 a0_23 l0_24 l0_25 = some r) :
  Calls Try.prog 17 #[.agg #[.int .i64 a0_0,.int .i64 a0_1,.int .i64 a0_2,.int .i64 a0_3,.int .i64 a0_4,.int .i64 a0_5,.int .i64 a0_6,.int .i64 a0_7,.int .i64 a0_8,.int .i64 a0_9,.int .i64 a0_10,.int .i64 a0_11,.int .i64 a0_12,.int .i64 a0_13,.int .i64 a0_14,.int .i64 a0_15,.int .i64 a0_16,.int .i64 a0_17,.int .i64 a0_18,.int .i64 a0_19,.int .i64 a0_20,.int .i64 a0_21,.int .i64 a0_22,.int .i64 a0_23,.slice A0_24 l0_24.length c0_24,.slice A0_25 l0_25.length c0_25]] w fun e w'=>e=.returned (.bool r)∧Below w.heap.size w w':=by
 have hu28:=Try.underlying28;have hu24:=Try.underlying24;have HR0_24:=mA hr0_24;have HC0_24:=mA hc0_24;clear hr0_24 hc0_24;have HR0_25:=mA hr0_25;have HC0_25:=mA hc0_25;clear hr0_25 hc0_25;have HB:=mA (Below.refl w.heap.size w);have H:((spec_l11Nums.f a0_0 a0_1 a0_2 a0_3 a0_4 a0_5 a0_6 a0_7 a0_8 a0_9 a0_10 a0_11 a0_12 a0_13 a0_14 a0_15 a0_16 a0_17 a0_18 a0_19 a0_20 a0_21 a0_22 a0_23 l0_24 l0_25).bind fun t258=>(spec_WordOk.l0 k t258 0 a0_0 a0_1 a0_2 a0_3 a0_4 a0_5 a0_6 a0_7 a0_8 a0_9 a0_10 a0_11 a0_12 a0_13 a0_14 a0_15 a0_16 a0_17 a0_18 a0_19 a0_20 a0_21 a0_22 a0_23 l0_24 l0_25))=some r:=h;clear h;obtain ⟨t258,A2,H⟩:=bI H;(try dsimp only at H);have H':=mA H;clear H
 go_enter Try.func17,Try.ntmps17
 go_wp2_with (first|((with_reducible refine gLg rfl (by assumption) ?_);refine ldV ?_)|((with_reducible refine gSt rfl (by assumption) ?_);refine stV ?_)|((with_reducible refine gT 1 rfl ?_);refine bX 1 ?_;intro gb257 hg w3 hbox hb;have BK257:=mA hbox;have GW257:=gbpB HB hg;have GE257:=gbpB HB hg;replace HB:=spB HB hb;clear hb hbox hg;have hcz4_0:=fun i_=>blk_cell BK257.out i_;have hfz4_0:=fun i_=>blk_frozen BK257.out i_)|((with_reducible refine gT 6 rfl ?_);refine gC (some 6) Try.func65 (spec_l11Nums.calls (cB HR0_24 HB) HC0_24.out (cB HR0_25 HB) HC0_25.out A2.out) ?_;rintro e w5 ⟨v259,rfl,ho0,hb⟩;refine ⟨_,rfl,?_⟩;have HO260:=mA (Kd.R_lower ho0 (bpS HB));replace BK257:=bK BK257 hb;replace HB:=spS HB hb;(try clear hb);(try clear ho0)))
 go_loopg [4] k (fun kq v4 w'=>∃ (x4_1:Int),v4=.int .i64 x4_1∧Aside0 (spec_WordOk.l0 kq t258 x4_1 a0_0 a0_1 a0_2 a0_3 a0_4 a0_5 a0_6 a0_7 a0_8 a0_9 a0_10 a0_11 a0_12 a0_13 a0_14 a0_15 a0_16 a0_17 a0_18 a0_19 a0_20 a0_21 a0_22 a0_23 l0_24 l0_25=some r)∧Aside0 (kq≤k)∧Aside0 (Kd.R (Kd.int .i64) 3 w' w.heap.size (fun _=>True) v259 t258)∧Aside0 (w'.heap[gb257]?=some (.cells #[.int .i64 a0_0,.int .i64 a0_1,.int .i64 a0_2,.int .i64 a0_3,.int .i64 a0_4,.int .i64 a0_5,.int .i64 a0_6,.int .i64 a0_7,.int .i64 a0_8,.int .i64 a0_9,.int .i64 a0_10,.int .i64 a0_11,.int .i64 a0_12,.int .i64 a0_13,.int .i64 a0_14,.int .i64 a0_15,.int .i64 a0_16,.int .i64 a0_17,.int .i64 a0_18,.int .i64 a0_19,.int .i64 a0_20,.int .i64 a0_21,.int .i64 a0_22,.int .i64 a0_23,(.slice A0_24 l0_24.length c0_24),(.slice A0_25 l0_25.length c0_25)] 28 (0,0)))∧Aside0 (Below w.heap.size w w'))
 case atStart=>exact ⟨(0),bZ,H',⟨Nat.le_refl _⟩,⟨pR HO260.out⟩,⟨pK BK257.out⟩,⟨pS HB.out⟩⟩
 case round =>
  clear H'
  (try clear hcz4_0);(try clear hfz4_0)
  obtain ⟨x4_1,rfl,HA,HK1,HO_3,BK257,HB⟩:=hrel
  cases gk with
  | zero=>exact absurd HA.out (by simp [spec_WordOk.l0])
  | succ k1 =>
   have H:=HA.out;clear HA;simp only [spec_WordOk.l0] at H
   by_cases c6:x4_1<(t258.length:Int)
   ·rw [if_pos c6] at H;have c6b0:decide (x4_1<(t258.length:Int))=true:=decide_eq_true c6;clear c6
    by_cases c7:0≤x4_1
    ·rw [if_pos c7] at H;have c7b0:decide (0≤x4_1)=true:=decide_eq_true c7;clear c7;obtain ⟨t262,A8,H⟩:=bI H;(try dsimp only at H)
     by_cases c9:t262=true
     ·subst c9;rw [if_pos rfl] at H;have H':=mA H;clear H;obtain ⟨Ao10,co10,rfl⟩:=Kd.R_slice HO_3.out;have p261:0≤(x4_1:Int):=of_decide_eq_true bA;have q261:x4_1<(t258.length:Int):=of_decide_eq_true bA;obtain ⟨ad261,e261,hx261_0⟩:=Kd.at_int (Kd.R_reads' HO_3.out).2.2 x4_1 p261 q261;cases e261;replace p261:=eq_true p261;replace q261:=eq_true q261
      go_wp2_with (first|((with_reducible refine gLg rfl (by assumption) ?_);refine ldV ?_)|((with_reducible refine gSt rfl (by assumption) ?_);refine stV ?_)|((with_reducible refine gT 17 rfl ?_);refine gC (some 17) Try.func66 (spec_l11Num.calls A8.out) ?_;rintro e w' ⟨rfl,⟨nd,rfl⟩⟩;refine ⟨_,rfl,?_⟩))
      go_roundg k1
      case measure=>have:=HK1.out;omega
      case rel=>exact ⟨(wrap64 (x4_1+1)),bZ,H',⟨by have:=HK1.out;omega⟩,⟨pR HO_3.out⟩,⟨pK BK257.out⟩,⟨pS HB.out⟩⟩
     ·replace c9:=Bool.eq_false_iff.mpr c9;subst c9
      rw [if_neg nFT] at H
      obtain rfl:=Option.some.inj H;obtain ⟨Ao11,co11,rfl⟩:=Kd.R_slice HO_3.out;have p261:0≤(x4_1:Int):=of_decide_eq_true bA;have q261:x4_1<(t258.length:Int):=of_decide_eq_true bA;obtain ⟨ad261,e261,hx261_0⟩:=Kd.at_int (Kd.R_reads' HO_3.out).2.2 x4_1 p261 q261;cases e261;replace p261:=eq_true p261;replace q261:=eq_true q261
      go_wp2_with (first|((with_reducible refine gLg rfl (by assumption) ?_);refine ldV ?_)|((with_reducible refine gSt rfl (by assumption) ?_);refine stV ?_)|((with_reducible refine gT 17 rfl ?_);refine gC (some 17) Try.func66 (spec_l11Num.calls A8.out) ?_;rintro e w' ⟨rfl,⟨nd,rfl⟩⟩;refine ⟨_,rfl,?_⟩))
      go_ret
      exact rZ (pS HB.out)
    ·rw [if_neg c7] at H
     exact absurd H (by simp)
   ·rw [if_neg c6] at H;have c6b0:decide (x4_1<(t258.length:Int))=false:=decide_eq_false c6;clear c6;obtain ⟨t263,A12,H⟩:=bI H;(try dsimp only at H)
    by_cases c13:t263=true
    ·subst c13;rw [if_pos rfl] at H;obtain ⟨t264,A14,H⟩:=bI H;(try dsimp only at H)
     by_cases c15:t264=true
     ·subst c15;rw [if_pos rfl] at H;obtain ⟨t265,A16,H⟩:=bI H;(try dsimp only at H)
      by_cases c17:t265=true
      ·subst c17;rw [if_pos rfl] at H;obtain ⟨t266,A18,H⟩:=bI H;(try dsimp only at H)
       by_cases c19:t266=true
       ·subst c19;rw [if_pos rfl] at H;obtain ⟨t267,A20,H⟩:=bI H;(try dsimp only at H)
        by_cases c21:t267=true
        ·subst c21;rw [if_pos rfl] at H;obtain ⟨t268,A22,H⟩:=bI H;(try dsimp only at H);obtain rfl:=Option.some.inj H;obtain ⟨Ao23,co23,rfl⟩:=Kd.R_slice HO_3.out;have hcz24_0:=fun i_=>blk_cell BK257.out i_;have hfz24_0:=fun i_=>blk_frozen BK257.out i_
         go_wp2_with (first|((with_reducible refine gLg rfl (by assumption) ?_);refine ldV ?_)|((with_reducible refine gSt rfl (by assumption) ?_);refine stV ?_)|((with_reducible refine gT 21 rfl ?_);refine gC (some 21) Try.func67 (spec_l6In.calls A12.out) ?_;rintro e w' ⟨rfl,⟨nd,rfl⟩⟩;refine ⟨_,rfl,?_⟩)|(go_at_call 68;(with_reducible refine (spec_l11Place.calls A14.out).mono ?_);rintro e w' ⟨rfl,⟨nd,rfl⟩⟩)|(go_at_call 68;(with_reducible refine (spec_l11Place.calls A16.out).mono ?_);rintro e w' ⟨rfl,⟨nd,rfl⟩⟩)|(go_at_call 69;(with_reducible refine (spec_l11CmdOk.calls A18.out).mono ?_);rintro e w25 ⟨rfl,hb⟩;replace HO_3:=rB HO_3 hb;replace BK257:=bK BK257 hb;replace HB:=spS HB hb;(try clear hb);have hcz26_0:=fun i_=>blk_cell BK257.out i_;have hfz26_0:=fun i_=>blk_frozen BK257.out i_)|(go_at_call 70;(with_reducible refine (spec_BlkOk.calls ?s1 ?s2 A20.out).mono ?_);(case s1=>exact cB HR0_24 HB);(case s2=>exact HC0_24.out);rintro e w27 ⟨rfl,hb⟩;replace HO_3:=rB HO_3 hb;replace BK257:=bK BK257 hb;replace HB:=spS HB hb;(try clear hb);have hcz28_0:=fun i_=>blk_cell BK257.out i_;have hfz28_0:=fun i_=>blk_frozen BK257.out i_)|(go_at_call 71;(with_reducible refine (spec_l3LastOk.calls ?s1 ?s2 A22.out).mono ?_);(case s1=>exact cB HR0_25 HB);(case s2=>exact HC0_25.out);rintro e w29 ⟨rfl,hb⟩;replace HO_3:=rB HO_3 hb;replace BK257:=bK BK257 hb;replace HB:=spS HB hb;(try clear hb)))
         go_ret
         exact rZ (pS HB.out)
        ·replace c21:=Bool.eq_false_iff.mpr c21;subst c21
         rw [if_neg nFT] at H
         obtain rfl:=Option.some.inj H;obtain ⟨Ao30,co30,rfl⟩:=Kd.R_slice HO_3.out;have hcz31_0:=fun i_=>blk_cell BK257.out i_;have hfz31_0:=fun i_=>blk_frozen BK257.out i_
         go_wp2_with (first|((with_reducible refine gLg rfl (by assumption) ?_);refine ldV ?_)|((with_reducible refine gSt rfl (by assumption) ?_);refine stV ?_)|((with_reducible refine gT 21 rfl ?_);refine gC (some 21) Try.func67 (spec_l6In.calls A12.out) ?_;rintro e w' ⟨rfl,⟨nd,rfl⟩⟩;refine ⟨_,rfl,?_⟩)|(go_at_call 68;(with_reducible refine (spec_l11Place.calls A14.out).mono ?_);rintro e w' ⟨rfl,⟨nd,rfl⟩⟩)|(go_at_call 68;(with_reducible refine (spec_l11Place.calls A16.out).mono ?_);rintro e w' ⟨rfl,⟨nd,rfl⟩⟩)|(go_at_call 69;(with_reducible refine (spec_l11CmdOk.calls A18.out).mono ?_);rintro e w32 ⟨rfl,hb⟩;replace HO_3:=rB HO_3 hb;replace BK257:=bK BK257 hb;replace HB:=spS HB hb;(try clear hb);have hcz33_0:=fun i_=>blk_cell BK257.out i_;have hfz33_0:=fun i_=>blk_frozen BK257.out i_)|(go_at_call 70;(with_reducible refine (spec_BlkOk.calls ?s1 ?s2 A20.out).mono ?_);(case s1=>exact cB HR0_24 HB);(case s2=>exact HC0_24.out);rintro e w34 ⟨rfl,hb⟩;replace HO_3:=rB HO_3 hb;replace BK257:=bK BK257 hb;replace HB:=spS HB hb;(try clear hb)))
         go_ret
         exact rZ (pS HB.out)
       ·replace c19:=Bool.eq_false_iff.mpr c19;subst c19
        rw [if_neg nFT] at H
        obtain rfl:=Option.some.inj H;obtain ⟨Ao35,co35,rfl⟩:=Kd.R_slice HO_3.out;have hcz36_0:=fun i_=>blk_cell BK257.out i_;have hfz36_0:=fun i_=>blk_frozen BK257.out i_
        go_wp2_with (first|((with_reducible refine gLg rfl (by assumption) ?_);refine ldV ?_)|((with_reducible refine gSt rfl (by assumption) ?_);refine stV ?_)|((with_reducible refine gT 21 rfl ?_);refine gC (some 21) Try.func67 (spec_l6In.calls A12.out) ?_;rintro e w' ⟨rfl,⟨nd,rfl⟩⟩;refine ⟨_,rfl,?_⟩)|(go_at_call 68;(with_reducible refine (spec_l11Place.calls A14.out).mono ?_);rintro e w' ⟨rfl,⟨nd,rfl⟩⟩)|(go_at_call 68;(with_reducible refine (spec_l11Place.calls A16.out).mono ?_);rintro e w' ⟨rfl,⟨nd,rfl⟩⟩)|(go_at_call 69;(with_reducible refine (spec_l11CmdOk.calls A18.out).mono ?_);rintro e w37 ⟨rfl,hb⟩;replace HO_3:=rB HO_3 hb;replace BK257:=bK BK257 hb;replace HB:=spS HB hb;(try clear hb)))
        go_ret
        exact rZ (pS HB.out)
      ·replace c17:=Bool.eq_false_iff.mpr c17;subst c17
       rw [if_neg nFT] at H
       obtain rfl:=Option.some.inj H;obtain ⟨Ao38,co38,rfl⟩:=Kd.R_slice HO_3.out;have hcz39_0:=fun i_=>blk_cell BK257.out i_;have hfz39_0:=fun i_=>blk_frozen BK257.out i_
       go_wp2_with (first|((with_reducible refine gLg rfl (by assumption) ?_);refine ldV ?_)|((with_reducible refine gSt rfl (by assumption) ?_);refine stV ?_)|((with_reducible refine gT 21 rfl ?_);refine gC (some 21) Try.func67 (spec_l6In.calls A12.out) ?_;rintro e w' ⟨rfl,⟨nd,rfl⟩⟩;refine ⟨_,rfl,?_⟩)|(go_at_call 68;(with_reducible refine (spec_l11Place.calls A14.out).mono ?_);rintro e w' ⟨rfl,⟨nd,rfl⟩⟩)|(go_at_call 68;(with_reducible refine (spec_l11Place.calls A16.out).mono ?_);rintro e w' ⟨rfl,⟨nd,rfl⟩⟩))
       go_ret
       exact rZ (pS HB.out)
     ·replace c15:=Bool.eq_false_iff.mpr c15;subst c15
      rw [if_neg nFT] at H
      obtain rfl:=Option.some.inj H;obtain ⟨Ao40,co40,rfl⟩:=Kd.R_slice HO_3.out;have hcz41_0:=fun i_=>blk_cell BK257.out i_;have hfz41_0:=fun i_=>blk_frozen BK257.out i_
      go_wp2_with (first|((with_reducible refine gLg rfl (by assumption) ?_);refine ldV ?_)|((with_reducible refine gSt rfl (by assumption) ?_);refine stV ?_)|((with_reducible refine gT 21 rfl ?_);refine gC (some 21) Try.func67 (spec_l6In.calls A12.out) ?_;rintro e w' ⟨rfl,⟨nd,rfl⟩⟩;refine ⟨_,rfl,?_⟩)|(go_at_call 68;(with_reducible refine (spec_l11Place.calls A14.out).mono ?_);rintro e w' ⟨rfl,⟨nd,rfl⟩⟩))
      go_ret
      exact rZ (pS HB.out)
    ·replace c13:=Bool.eq_false_iff.mpr c13;subst c13
     rw [if_neg nFT] at H
     obtain rfl:=Option.some.inj H;obtain ⟨Ao42,co42,rfl⟩:=Kd.R_slice HO_3.out;have hcz43_0:=fun i_=>blk_cell BK257.out i_;have hfz43_0:=fun i_=>blk_frozen BK257.out i_
     go_wp2_with (first|((with_reducible refine gLg rfl (by assumption) ?_);refine ldV ?_)|((with_reducible refine gSt rfl (by assumption) ?_);refine stV ?_)|((with_reducible refine gT 21 rfl ?_);refine gC (some 21) Try.func67 (spec_l6In.calls A12.out) ?_;rintro e w' ⟨rfl,⟨nd,rfl⟩⟩;refine ⟨_,rfl,?_⟩))
     go_ret
     exact rZ (pS HB.out)
/-! ### spec_l21PaperOk: function 86 -/
def spec_l21PaperOk.f (a0_0 a0_1 a0_2 a0_3 a0_4 a0_5 a0_6 a0_7 a0_8 a0_9 a0_10 a0_11 : Int) : Option (Bool) := (spec_l6In.f a0_0 1 60).bind fun t270 => (if t270 = true then ((spec_l6In.f a0_1 1 99999).bind fun t271 => (if t271 = true then ((spec_l11CmdOk.f a0_2 a0_3 a0_4 a0_5 a0_6 a0_7 a0_8 a0_9 a0_10 a0_11).bind fun t272 => (some t272)) else (some false))) else (some false))
set_option maxHeartbeats 8000000 in
set_option maxRecDepth 100000 in
theorem spec_l21PaperOk.calls {a0_0 a0_1 a0_2 a0_3 a0_4 a0_5 a0_6 a0_7 a0_8 a0_9 a0_10 a0_11 : Int} {r : Bool} {w : World} (h : spec_l21PaperOk.f a0_0 a0_1 a0_2 a0_3 a0_4 a0_5 a0_6 a0_7 a0_8 a0_9 a0_10 a0_11 = some r) :
  Calls Try.prog 86 #[.agg #[.int .i64 a0_0,.int .i64 a0_1,.int .i64 a0_2,.int .i64 a0_3,.int .i64 a0_4,.int .i64 a0_5,.int .i64 a0_6,.int .i64 a0_7,.int .i64 a0_8,.int .i64 a0_9,.int .i64 a0_10,.int .i64 a0_11]] w fun e w'=>e=.returned (.bool r)∧Below w.heap.size w w':=by
 have hu64:=Try.underlying64;have hu24:=Try.underlying24;have HB:=mA (Below.refl w.heap.size w);have H:((spec_l6In.f a0_0 1 60).bind fun t270=>(if t270=true then ((spec_l6In.f a0_1 1 99999).bind fun t271=>(if t271=true then ((spec_l11CmdOk.f a0_2 a0_3 a0_4 a0_5 a0_6 a0_7 a0_8 a0_9 a0_10 a0_11).bind fun t272=>(some t272)) else (some false))) else (some false)))=some r:=h;clear h;obtain ⟨t270,A2,H⟩:=bI H;(try dsimp only at H)
 by_cases c3:t270=true
 ·subst c3;rw [if_pos rfl] at H;obtain ⟨t271,A4,H⟩:=bI H;(try dsimp only at H)
  by_cases c5:t271=true
  ·subst c5;rw [if_pos rfl] at H;obtain ⟨t272,A6,H⟩:=bI H;(try dsimp only at H);obtain rfl:=Option.some.inj H
   go_enter Try.func86,Try.ntmps86
   go_wp2_with (first|((with_reducible refine gLg rfl (by assumption) ?_);refine ldV ?_)|((with_reducible refine gSt rfl (by assumption) ?_);refine stV ?_)|((with_reducible refine gT 1 rfl ?_);refine bX 1 ?_;intro gb269 hg w7 hbox hb;have BK269:=mA hbox;have GW269:=gbpB HB hg;have GE269:=gbpB HB hg;replace HB:=spB HB hb;clear hb hbox hg;have hcz8_0:=fun i_=>blk_cell BK269.out i_;have hfz8_0:=fun i_=>blk_frozen BK269.out i_)|((with_reducible refine gT 5 rfl ?_);refine gC (some 5) Try.func67 (spec_l6In.calls A2.out) ?_;rintro e w' ⟨rfl,⟨nd,rfl⟩⟩;refine ⟨_,rfl,?_⟩)|(go_at_call 67;(with_reducible refine (spec_l6In.calls A4.out).mono ?_);rintro e w' ⟨rfl,⟨nd,rfl⟩⟩)|(go_at_call 69;(with_reducible refine (spec_l11CmdOk.calls A6.out).mono ?_);rintro e w9 ⟨rfl,hb⟩;replace BK269:=bK BK269 hb;replace HB:=spS HB hb;(try clear hb)))
   go_ret
   exact rZ (pS HB.out)
  ·replace c5:=Bool.eq_false_iff.mpr c5;subst c5
   rw [if_neg nFT] at H
   obtain rfl:=Option.some.inj H
   go_enter Try.func86,Try.ntmps86
   go_wp2_with (first|((with_reducible refine gLg rfl (by assumption) ?_);refine ldV ?_)|((with_reducible refine gSt rfl (by assumption) ?_);refine stV ?_)|((with_reducible refine gT 1 rfl ?_);refine bX 1 ?_;intro gb269 hg w10 hbox hb;have BK269:=mA hbox;have GW269:=gbpB HB hg;have GE269:=gbpB HB hg;replace HB:=spB HB hb;clear hb hbox hg;have hcz11_0:=fun i_=>blk_cell BK269.out i_;have hfz11_0:=fun i_=>blk_frozen BK269.out i_)|((with_reducible refine gT 5 rfl ?_);refine gC (some 5) Try.func67 (spec_l6In.calls A2.out) ?_;rintro e w' ⟨rfl,⟨nd,rfl⟩⟩;refine ⟨_,rfl,?_⟩)|(go_at_call 67;(with_reducible refine (spec_l6In.calls A4.out).mono ?_);rintro e w' ⟨rfl,⟨nd,rfl⟩⟩))
   go_ret
   exact rZ (pS HB.out)
 ·replace c3:=Bool.eq_false_iff.mpr c3;subst c3
  rw [if_neg nFT] at H
  obtain rfl:=Option.some.inj H
  go_enter Try.func86,Try.ntmps86
  go_wp2_with (first|((with_reducible refine gLg rfl (by assumption) ?_);refine ldV ?_)|((with_reducible refine gSt rfl (by assumption) ?_);refine stV ?_)|((with_reducible refine gT 1 rfl ?_);refine bX 1 ?_;intro gb269 hg w12 hbox hb;have BK269:=mA hbox;have GW269:=gbpB HB hg;have GE269:=gbpB HB hg;replace HB:=spB HB hb;clear hb hbox hg;have hcz13_0:=fun i_=>blk_cell BK269.out i_;have hfz13_0:=fun i_=>blk_frozen BK269.out i_)|((with_reducible refine gT 5 rfl ?_);refine gC (some 5) Try.func67 (spec_l6In.calls A2.out) ?_;rintro e w' ⟨rfl,⟨nd,rfl⟩⟩;refine ⟨_,rfl,?_⟩))
  go_ret
  exact rZ (pS HB.out)
end Go.Proofs.Ytoieojmfkkidnaa.P
