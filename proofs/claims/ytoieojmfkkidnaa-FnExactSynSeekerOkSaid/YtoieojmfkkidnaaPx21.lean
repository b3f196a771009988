-- printed by pprint.py (this session's program over the kit's printer) out of the translation. Lean checks it.
import Derived.Test.YtoieojmfkkidnaaPx0
import Derived.Test.YtoieojmfkkidnaaPx1
import Derived.Test.YtoieojmfkkidnaaPx2
import Derived.Test.YtoieojmfkkidnaaPx5
import Derived.Test.YtoieojmfkkidnaaPx10
import Derived.Test.YtoieojmfkkidnaaPx13
namespace Go.Proofs.Ytoieojmfkkidnaa.P
open Go.RowKit Go.Proofs.YtoieojmfkkidnaaX Go.Proofs.YtoieojmfkkidnaaW.PrintWords Go.Proofs.YtoieojmfkkidnaaW.PrintLast Go.Proofs.YtoieojmfkkidnaaW.PrintMore
attribute [local go_sem] max2_int min2_int max_two min_two max_three min_three max_four min_four   -- for this text's walks alone
set_option linter.unusedVariables false
set_option linter.unusedSimpArgs false

attribute [local go_sem high] eqA24 eqA64
/-! ### spec_SynSeekerOk: function 31 -/
mutual
def spec_SynSeekerOk.j0 : Nat → Bool → Int → Int → Int → Int → Int → Int → Int → Int → Int → Int → Int → Int → Int → Int → Int → Int → Int → Int → Int → Int → Int → Int → Int → Int → Int → List Int → Option (Bool)
 | 0,_,_,_,_,_,_,_,_,_,_,_,_,_,_,_,_,_,_,_,_,_,_,_,_,_,_,_=>none
 | k+1,x60,x1037000,x1037001,x1037002,x1037003,x1037004,x1037005,x1037006,x1037007,x1037008,x1037009,x1037010,x1037011,x1037012,x1037013,x1037014,x1037015,x1037016,x1037017,x1037018,x1037019,x1037020,x1037021,x1037022,x1037023,x1037024,x1037025=>if x60=true then (some false) else (spec_SynSeekerOk.l0 k 0 x1037000 x1037001 x1037002 x1037003 x1037004 x1037005 x1037006 x1037007 x1037008 x1037009 x1037010 x1037011 x1037012 x1037013 x1037014 x1037015 x1037016 x1037017 x1037018 x1037019 x1037020 x1037021 x1037022 x1037023 x1037024 x1037025)
def spec_SynSeekerOk.l0 : Nat → Int → Int → Int → Int → Int → Int → Int → Int → Int → Int → Int → Int → Int → Int → Int → Int → Int → Int → Int → Int → Int → Int → Int → Int → Int → Int → List Int → Option (Bool)
 | 0,_,_,_,_,_,_,_,_,_,_,_,_,_,_,_,_,_,_,_,_,_,_,_,_,_,_,_=>none
 | k+1,x3,x1037000,x1037001,x1037002,x1037003,x1037004,x1037005,x1037006,x1037007,x1037008,x1037009,x1037010,x1037011,x1037012,x1037013,x1037014,x1037015,x1037016,x1037017,x1037018,x1037019,x1037020,x1037021,x1037022,x1037023,x1037024,x1037025=>if x3<(x1037025.length:Int) then (if 0≤x3 then ((spec_l6In.f (rd x1037025 x3) 0 2).bind fun t1042=>(if t1042=true then (spec_SynSeekerOk.l0 k (wrap64 (x3+1)) x1037000 x1037001 x1037002 x1037003 x1037004 x1037005 x1037006 x1037007 x1037008 x1037009 x1037010 x1037011 x1037012 x1037013 x1037014 x1037015 x1037016 x1037017 x1037018 x1037019 x1037020 x1037021 x1037022 x1037023 x1037024 x1037025) else (some false))) else (none)) else (if (x1037013 == 0 && (x1037014 == 0 && ((x1037015 == 0 && (x1037016 == 0 && (x1037017 == 0 && (x1037018 == 0 && (x1037019 == 0 && (x1037020 == 0 && (x1037021 == 0 && (x1037022 == 0 && (x1037023 == 0 && (x1037024 == 0)))))))))))))=true then (some true) else ((spec_l21PaperOk.f x1037013 x1037014 x1037015 x1037016 x1037017 x1037018 x1037019 x1037020 x1037021 x1037022 x1037023 x1037024).bind fun t1043=>(if t1043=true then (if x1037013=x1037000 then (some (decide (x1037014<x1037001))) else (some false)) else (some false))))
end
def spec_SynSeekerOk.f (k : Nat) (a0_0 : Int) (a0_1 : Int) (a0_2 : Int) (a0_3 : Int) (a0_4 : Int) (a0_5 : Int) (a0_6 : Int) (a0_7 : Int) (a0_8 : Int) (a0_9 : Int) (a0_10 : Int) (a0_11 : Int) (a0_12 : Int) (a0_13 : Int) (a0_14 : Int) (a0_15 : Int) (a0_16 : Int) (a0_17 : Int) (a0_18 : Int) (a0_19 : Int) (a0_20 : Int) (a0_21 : Int) (a0_22 : Int) (a0_23 : Int) (a0_24 : Int) (l0_25 : List Int) : Option (Bool) := if a0_2 = 0 then (if a0_0 = 0 then (if a0_1 = 0 then (if (a0_3 == 0 && (a0_4 == 0 && (a0_5 == 0 && (a0_6 == 0 && (a0_7 == 0 && (a0_8 == 0 && (a0_9 == 0 && (a0_10 == 0 && (a0_11 == 0 && (a0_12 == 0)))))))))) = true then (if (a0_13 == 0 && (a0_14 == 0 && ((a0_15 == 0 && (a0_16 == 0 && (a0_17 == 0 && (a0_18 == 0 && (a0_19 == 0 && (a0_20 == 0 && (a0_21 == 0 && (a0_22 == 0 && (a0_23 == 0 && (a0_24 == 0))))))))))))) = true then (some ((l0_25.length : Int) == 0)) else (some false)) else (some false)) else (some false)) else (some false)) else ((spec_l6In.f a0_0 1 60).bind fun t1037 => (if t1037 = true then ((spec_l6In.f a0_1 1 99999).bind fun t1038 => (if t1038 = true then ((spec_l6In.f a0_2 1 2).bind fun t1039 => (if t1039 = true then ((spec_l11CmdOk.f a0_3 a0_4 a0_5 a0_6 a0_7 a0_8 a0_9 a0_10 a0_11 a0_12).bind fun t1040 => (if t1040 = true then (spec_SynSeekerOk.j0 k (decide ((l0_25.length : Int) ≥ 2)) a0_0 a0_1 a0_2 a0_3 a0_4 a0_5 a0_6 a0_7 a0_8 a0_9 a0_10 a0_11 a0_12 a0_13 a0_14 a0_15 a0_16 a0_17 a0_18 a0_19 a0_20 a0_21 a0_22 a0_23 a0_24 l0_25) else (spec_SynSeekerOk.j0 k true a0_0 a0_1 a0_2 a0_3 a0_4 a0_5 a0_6 a0_7 a0_8 a0_9 a0_10 a0_11 a0_12 a0_13 a0_14 a0_15 a0_16 a0_17 a0_18 a0_19 a0_20 a0_21 a0_22 a0_23 a0_24 l0_25))) else (spec_SynSeekerOk.j0 k true a0_0 a0_1 a0_2 a0_3 a0_4 a0_5 a0_6 a0_7 a0_8 a0_9 a0_10 a0_11 a0_12 a0_13 a0_14 a0_15 a0_16 a0_17 a0_18 a0_19 a0_20 a0_21 a0_22 a0_23 a0_24 l0_25))) else (spec_SynSeekerOk.j0 k true a0_0 a0_1 a0_2 a0_3 a0_4 a0_5 a0_6 a0_7 a0_8 a0_9 a0_10 a0_11 a0_12 a0_13 a0_14 a0_15 a0_16 a0_17 a0_18 a0_19 a0_20 a0_21 a0_22 a0_23 a0_24 l0_25))) else (spec_SynSeekerOk.j0 k true a0_0 a0_1 a0_2 a0_3 a0_4 a0_5 a0_6 a0_7 a0_8 a0_9 a0_10 a0_11 a0_12 a0_13 a0_14 a0_15 a0_16 a0_17 a0_18 a0_19 a0_20 a0_21 a0_22 a0_23 a0_24 l0_25)))
theorem spec_SynSeekerOk.mono_l : ∀ k, (∀ y0 y1 y2 y3 y4 y5 y6 y7 y8 y9 y10 y11 y12 y13 y14 y15 y16 y17 y18 y19 y20 y21 y22 y23 y24 y25 y26, LeO (spec_SynSeekerOk.j0 k y0 y1 y2 y3 y4 y5 y6 y7 y8 y9 y10 y11 y12 y13 y14 y15 y16 y17 y18 y19 y20 y21 y22 y23 y24 y25 y26) (spec_SynSeekerOk.j0 (k + 1) y0 y1 y2 y3 y4 y5 y6 y7 y8 y9 y10 y11 y12 y13 y14 y15 y16 y17 y18 y19 y20 y21 y22 y23 y24 y25 y26)) ∧ (∀ y0 y1 y2 y3 y4 y5 y6 y7 y8 y9 y10 y11 y12 y13 y14 y15 y16 y17 y18 y19 y20 y21 y22 y23 y24 y25 y26, LeO (spec_SynSeekerOk.l0 k y0 y1 y2 y3 y4 y5 y6 y7 y8 y9 y10 y11 y12 y13 y14 y15 y16 y17 y18 y19 y20 y21 y22 y23 y24 y25 y26) (spec_SynSeekerOk.l0 (k + 1) y0 y1 y2 y3 y4 y5 y6 y7 y8 y9 y10 y11 y12 y13 y14 y15 y16 y17 y18 y19 y20 y21 y22 y23 y24 y25 y26))
 | 0=>⟨fun _ _ _ _ _ _ _ _ _ _ _ _ _ _ _ _ _ _ _ _ _ _ _ _ _ _ _ r h=>by simp [spec_SynSeekerOk.j0] at h,fun _ _ _ _ _ _ _ _ _ _ _ _ _ _ _ _ _ _ _ _ _ _ _ _ _ _ _ r h=>by simp [spec_SynSeekerOk.l0] at h⟩
 | k+1=>by
  obtain ⟨ih0,ih1⟩:=spec_SynSeekerOk.mono_l k;refine ⟨?_,?_⟩
  ·intros
   unfold spec_SynSeekerOk.j0
   repeat' first
   | (with_reducible first|apply ih0|apply ih1|exact LeO.refl _|exact LeO.none _|refine LeO.ite ?_ ?_|refine LeO.bind ?_ (fun _=>?_))|exact LeO.none _|refine LeO.ite ?_ ?_|refine LeO.bind ?_ (fun _=>?_)
  ·intros
   unfold spec_SynSeekerOk.l0
   repeat' first
   | (with_reducible first|apply ih0|apply ih1|exact LeO.refl _|exact LeO.none _|refine LeO.ite ?_ ?_|refine LeO.bind ?_ (fun _=>?_))|exact LeO.none _|refine LeO.ite ?_ ?_|refine LeO.bind ?_ (fun _=>?_)
theorem spec_SynSeekerOk.mono : ∀ a0 a1 a2 a3 a4 a5 a6 a7 a8 a9 a10 a11 a12 a13 a14 a15 a16 a17 a18 a19 a20 a21 a22 a23 a24 a25 k, LeO (spec_SynSeekerOk.f k a0 a1 a2 a3 a4 a5 a6 a7 a8 a9 a10 a11 a12 a13 a14 a15 a16 a17 a18 a19 a20 a21 a22 a23 a24 a25) (spec_SynSeekerOk.f (k + 1) a0 a1 a2 a3 a4 a5 a6 a7 a8 a9 a10 a11 a12 a13 a14 a15 a16 a17 a18 a19 a20 a21 a22 a23 a24 a25) := by
 intro a0 a1 a2 a3 a4 a5 a6 a7 a8 a9 a10 a11 a12 a13 a14 a15 a16 a17 a18 a19 a20 a21 a22 a23 a24 a25 k;obtain ⟨ih0,ih1⟩:=spec_SynSeekerOk.mono_l k
 unfold spec_SynSeekerOk.f
 repeat' first
   | (with_reducible first|apply ih0|apply ih1|exact LeO.refl _|exact LeO.none _|refine LeO.ite ?_ ?_|refine LeO.bind ?_ (fun _=>?_))|exact LeO.none _|refine LeO.ite ?_ ?_|refine LeO.bind ?_ (fun _=>?_)
set_option maxHeartbeats 8000000 in
set_option maxRecDepth 100000 in
theorem spec_SynSeekerOk.calls {k : Nat} {a0_0 : Int} {a0_1 : Int} {a0_2 : Int} {a0_3 : Int} {a0_4 : Int} {a0_5 : Int} {a0_6 : Int} {a0_7 : Int} {a0_8 : Int} {a0_9 : Int} {a0_10 : Int} {a0_11 : Int} {a0_12 : Int} {a0_13 : Int} {a0_14 : Int} {a0_15 : Int} {a0_16 : Int} {a0_17 : Int} {a0_18 : Int} {a0_19 : Int} {a0_20 : Int} {a0_21 : Int} {a0_22 : Int} {a0_23 : Int} {a0_24 : Int} {A0_25 : Option Addr} {c0_25 : Nat} {l0_25 : List Int} {r : Bool} {w : World} (hr0_25 : Kd.C (Kd.int .i64) w A0_25 l0_25.length l0_25) (hc0_25 : l0_25.length ≤ c0_25) (h : spec_SynSeekerOk.f k a0_0 a0_1 a0_2 a0_3 a0_4 a0_5 a0_6 a0_7 a0_8 a0_9 a0_10 a0_11 a0_12 a0_13 a0_14 a0_15 a0_16 a0_17 a0_18 a0_19 a0_20 a0_21 a0_22 a0_23 a0_24 l0_25 = some r) :
  Calls Try.prog 31 #[.agg #[.int .i64 a0_0,.int .i64 a0_1,.int .i64 a0_2,.int .i64 a0_3,.int .i64 a0_4,.int .i64 a0_5,.int .i64 a0_6,.int .i64 a0_7,.int .i64 a0_8,.int .i64 a0_9,.int .i64 a0_10,.int .i64 a0_11,.int .i64 a0_12,.int .i64 a0_13,.int .i64 a0_14,.int .i64 a0_15,.int .i64 a0_16,.int .i64 a0_17,.int .i64 a0_18,.int .i64 a0_19,.int .i64 a0_20,.int .i64 a0_21,.int .i64 a0_22,.int .i64 a0_23,.int .i64 a0_24,.slice A0_25 l0_25.length c0_25]] w fun e w'=>e=.returned (.bool r)∧Below w.heap.size w w':=by
 have hu66:=Try.underlying66;have hu24:=Try.underlying24;have hu64:=Try.underlying64;have HR0_25:=mA hr0_25;have HC0_25:=mA hc0_25;clear hr0_25 hc0_25;have HB:=mA (Below.refl w.heap.size w);have H:(if a0_2=0 then (if a0_0=0 then (if a0_1=0 then (if (a0_3 == 0 && (a0_4 == 0 && (a0_5 == 0 && (a0_6 == 0 && (a0_7 == 0 && (a0_8 == 0 && (a0_9 == 0 && (a0_10 == 0 && (a0_11 == 0 && (a0_12 == 0))))))))))=true then (if (a0_13 == 0 && (a0_14 == 0 && ((a0_15 == 0 && (a0_16 == 0 && (a0_17 == 0 && (a0_18 == 0 && (a0_19 == 0 && (a0_20 == 0 && (a0_21 == 0 && (a0_22 == 0 && (a0_23 == 0 && (a0_24 == 0)))))))))))))=true then (some ((l0_25.length:Int) == 0)) else (some false)) else (some false)) else (some false)) else (some false)) else ((spec_l6In.f a0_0 1 60).bind fun t1037=>(if t1037=true then ((spec_l6In.f a0_1 1 99999).bind fun t1038=>(if t1038=true then ((spec_l6In.f a0_2 1 2).bind fun t1039=>(if t1039=true then ((spec_l11CmdOk.f a0_3 a0_4 a0_5 a0_6 a0_7 a0_8 a0_9 a0_10 a0_11 a0_12).bind fun t1040=>(if t1040=true then (spec_SynSeekerOk.j0 k (decide ((l0_25.length:Int) ≥ 2)) a0_0 a0_1 a0_2 a0_3 a0_4 a0_5 a0_6 a0_7 a0_8 a0_9 a0_10 a0_11 a0_12 a0_13 a0_14 a0_15 a0_16 a0_17 a0_18 a0_19 a0_20 a0_21 a0_22 a0_23 a0_24 l0_25) else (spec_SynSeekerOk.j0 k true a0_0 a0_1 a0_2 a0_3 a0_4 a0_5 a0_6 a0_7 a0_8 a0_9 a0_10 a0_11 a0_12 a0_13 a0_14 a0_15 a0_16 a0_17 a0_18 a0_19 a0_20 a0_21 a0_22 a0_23 a0_24 l0_25))) else (spec_SynSeekerOk.j0 k true a0_0 a0_1 a0_2 a0_3 a0_4 a0_5 a0_6 a0_7 a0_8 a0_9 a0_10 a0_11 a0_12 a0_13 a0_14 a0_15 a0_16 a0_17 a0_18 a0_19 a0_20 a0_21 a0_22 a0_23 a0_24 l0_25))) else (spec_SynSeekerOk.j0 k true a0_0 a0_1 a0_2 a0_3 a0_4 a0_5 a0_6 a0_7 a0_8 a0_9 a0_10 a0_11 a0_12 a0_13 a0_14 a0_15 a0_16 a0_17 a0_18 a0_19 a0_20 a0_21 a0_22 a0_23 a0_24 l0_25))) else (spec_SynSeekerOk.j0 k true a0_0 a0_1 a0_2 a0_3 a0_4 a0_5 a0_6 a0_7 a0_8 a0_9 a0_10 a0_11 a0_12 a0_13 a0_14 a0_15 a0_16 a0_17 a0_18 a0_19 a0_20 a0_21 a0_22 a0_23 a0_24 l0_25))))=some r:=h;clear h
 by_cases c2:a0_2=0
 ·rw [if_pos c2] at H;obtain ⟨c2b0,c2b1⟩:=eqB c2;clear c2
  by_cases c3:a0_0=0
  ·rw [if_pos c3] at H;obtain ⟨c3b0,c3b1⟩:=eqB c3;clear c3
   by_cases c4:a0_1=0
   ·rw [if_pos c4] at H;obtain ⟨c4b0,c4b1⟩:=eqB c4;clear c4
    by_cases c5:(a0_3 == 0 && (a0_4 == 0 && (a0_5 == 0 && (a0_6 == 0 && (a0_7 == 0 && (a0_8 == 0 && (a0_9 == 0 && (a0_10 == 0 && (a0_11 == 0 && (a0_12 == 0))))))))))=true
    ·rw [if_pos c5] at H;have c5b0:(a0_3 == 0 && (a0_4 == 0 && (a0_5 == 0 && (a0_6 == 0 && (a0_7 == 0 && (a0_8 == 0 && (a0_9 == 0 && (a0_10 == 0 && (a0_11 == 0 && (a0_12 == 0))))))))))=true:=c5
     (try (have c5b1:decide (a0_3=0 && (a0_4 == 0 && (a0_5 == 0 && (a0_6 == 0 && (a0_7 == 0 && (a0_8 == 0 && (a0_9 == 0 && (a0_10 == 0 && (a0_11 == 0 && (a0_12 == 0))))))))))=true:=by simpa using c5))
     (try (have c5b2:(a0_3 == 0 && (a0_4 == 0 && (a0_5 == 0 && (a0_6 == 0 && (a0_7 == 0 && (a0_8 == 0 && (a0_9 == 0 && (a0_10 == 0 && (a0_11 == 0 && (a0_12 == 0))))))))))=true:=by simpa using c5))
     clear c5
     by_cases c6:(a0_13 == 0 && (a0_14 == 0 && ((a0_15 == 0 && (a0_16 == 0 && (a0_17 == 0 && (a0_18 == 0 && (a0_19 == 0 && (a0_20 == 0 && (a0_21 == 0 && (a0_22 == 0 && (a0_23 == 0 && (a0_24 == 0)))))))))))))=true
     ·rw [if_pos c6] at H;have c6b0:(a0_13 == 0 && (a0_14 == 0 && ((a0_15 == 0 && (a0_16 == 0 && (a0_17 == 0 && (a0_18 == 0 && (a0_19 == 0 && (a0_20 == 0 && (a0_21 == 0 && (a0_22 == 0 && (a0_23 == 0 && (a0_24 == 0)))))))))))))=true:=c6
      (try (have c6b1:decide (a0_13=0 && (a0_14 == 0 && ((a0_15 == 0 && (a0_16 == 0 && (a0_17 == 0 && (a0_18 == 0 && (a0_19 == 0 && (a0_20 == 0 && (a0_21 == 0 && (a0_22 == 0 && (a0_23 == 0 && (a0_24 == 0)))))))))))))=true:=by simpa using c6))
      (try (have c6b2:(a0_13 == 0 && (a0_14 == 0 && ((a0_15 == 0 && (a0_16 == 0 && (a0_17 == 0 && (a0_18 == 0 && (a0_19 == 0 && (a0_20 == 0 && (a0_21 == 0 && (a0_22 == 0 && (a0_23 == 0 && (a0_24 == 0)))))))))))))=true:=by simpa using c6))
      clear c6;obtain rfl:=Option.some.inj H
      go_enter Try.func31,Try.ntmps31
      go_wp2_with (first|((with_reducible refine gLd rfl rfl (by assumption) ?_);refine ldV ?_)|((with_reducible refine gSt rfl (by assumption) ?_);refine stV ?_)|((with_reducible refine gT 1 rfl ?_);(try (refine gate_guard (by rfl) ?_;dsimp only));refine bE 1 #[.int .i64 a0_0,.int .i64 a0_1,.int .i64 a0_2,.int .i64 a0_3,.int .i64 a0_4,.int .i64 a0_5,.int .i64 a0_6,.int .i64 a0_7,.int .i64 a0_8,.int .i64 a0_9,.int .i64 a0_10,.int .i64 a0_11,.int .i64 a0_12,.int .i64 a0_13,.int .i64 a0_14,.int .i64 a0_15,.int .i64 a0_16,.int .i64 a0_17,.int .i64 a0_18,.int .i64 a0_19,.int .i64 a0_20,.int .i64 a0_21,.int .i64 a0_22,.int .i64 a0_23,.int .i64 a0_24,.slice A0_25 l0_25.length c0_25] 66 ?_;intro gb1036 hg w7 hbox hb;have BK1036:=mA hbox;have GW1036:=gbpB HB hg;have GE1036:=gbpB HB hg;replace HB:=spB HB hb;clear hb hbox hg;have hcz8_0:=fun i_=>blk_cell BK1036.out i_;have hfz8_0:=fun i_=>blk_frozen BK1036.out i_))
      go_ret
      exact rZ (pS HB.out)
     ·rw [if_neg c6] at H
      have c6b0:(a0_13 == 0 && (a0_14 == 0 && ((a0_15 == 0 && (a0_16 == 0 && (a0_17 == 0 && (a0_18 == 0 && (a0_19 == 0 && (a0_20 == 0 && (a0_21 == 0 && (a0_22 == 0 && (a0_23 == 0 && (a0_24 == 0)))))))))))))=false:=by simpa using c6
      (try (have c6b1:decide (a0_13=0 && (a0_14 == 0 && ((a0_15 == 0 && (a0_16 == 0 && (a0_17 == 0 && (a0_18 == 0 && (a0_19 == 0 && (a0_20 == 0 && (a0_21 == 0 && (a0_22 == 0 && (a0_23 == 0 && (a0_24 == 0)))))))))))))=false:=by simpa using c6))
      (try (have c6b2:(a0_13 == 0 && (a0_14 == 0 && ((a0_15 == 0 && (a0_16 == 0 && (a0_17 == 0 && (a0_18 == 0 && (a0_19 == 0 && (a0_20 == 0 && (a0_21 == 0 && (a0_22 == 0 && (a0_23 == 0 && (a0_24 == 0)))))))))))))=false:=by simpa using c6))
      (try (have c6b3:¬ (a0_13=0 && (a0_14 == 0 && ((a0_15 == 0 && (a0_16 == 0 && (a0_17 == 0 && (a0_18 == 0 && (a0_19 == 0 && (a0_20 == 0 && (a0_21 == 0 && (a0_22 == 0 && (a0_23 == 0 && (a0_24 == 0))))))))))))):=by simpa using c6))
      clear c6;obtain rfl:=Option.some.inj H
      go_enter Try.func31,Try.ntmps31
      go_wp2_with (first|((with_reducible refine gLd rfl rfl (by assumption) ?_);refine ldV ?_)|((with_reducible refine gSt rfl (by assumption) ?_);refine stV ?_)|((with_reducible refine gT 1 rfl ?_);(try (refine gate_guard (by rfl) ?_;dsimp only));refine bE 1 #[.int .i64 a0_0,.int .i64 a0_1,.int .i64 a0_2,.int .i64 a0_3,.int .i64 a0_4,.int .i64 a0_5,.int .i64 a0_6,.int .i64 a0_7,.int .i64 a0_8,.int .i64 a0_9,.int .i64 a0_10,.int .i64 a0_11,.int .i64 a0_12,.int .i64 a0_13,.int .i64 a0_14,.int .i64 a0_15,.int .i64 a0_16,.int .i64 a0_17,.int .i64 a0_18,.int .i64 a0_19,.int .i64 a0_20,.int .i64 a0_21,.int .i64 a0_22,.int .i64 a0_23,.int .i64 a0_24,.slice A0_25 l0_25.length c0_25] 66 ?_;intro gb1036 hg w9 hbox hb;have BK1036:=mA hbox;have GW1036:=gbpB HB hg;have GE1036:=gbpB HB hg;replace HB:=spB HB hb;clear hb hbox hg;have hcz10_0:=fun i_=>blk_cell BK1036.out i_;have hfz10_0:=fun i_=>blk_frozen BK1036.out i_))
      go_ret
      exact rZ (pS HB.out)
    ·rw [if_neg c5] at H
     have c5b0:(a0_3 == 0 && (a0_4 == 0 && (a0_5 == 0 && (a0_6 == 0 && (a0_7 == 0 && (a0_8 == 0 && (a0_9 == 0 && (a0_10 == 0 && (a0_11 == 0 && (a0_12 == 0))))))))))=false:=by simpa using c5
     (try (have c5b1:decide (a0_3=0 && (a0_4 == 0 && (a0_5 == 0 && (a0_6 == 0 && (a0_7 == 0 && (a0_8 == 0 && (a0_9 == 0 && (a0_10 == 0 && (a0_11 == 0 && (a0_12 == 0))))))))))=false:=by simpa using c5))
     (try (have c5b2:(a0_3 == 0 && (a0_4 == 0 && (a0_5 == 0 && (a0_6 == 0 && (a0_7 == 0 && (a0_8 == 0 && (a0_9 == 0 && (a0_10 == 0 && (a0_11 == 0 && (a0_12 == 0))))))))))=false:=by simpa using c5))
     (try (have c5b3:¬ (a0_3=0 && (a0_4 == 0 && (a0_5 == 0 && (a0_6 == 0 && (a0_7 == 0 && (a0_8 == 0 && (a0_9 == 0 && (a0_10 == 0 && (a0_11 == 0 && (a0_12 == 0)))))))))):=by simpa using c5))
     clear c5;obtain rfl:=Option.some.inj H
     go_enter Try.func31,Try.ntmps31
     go_wp2_with (first|((with_reducible refine gLd rfl rfl (by assumption) ?_);refine ldV ?_)|((with_reducible refine gSt rfl (by assumption) ?_);refine stV ?_)|((with_reducible refine gT 1 rfl ?_);(try (refine gate_guard (by rfl) ?_;dsimp only));refine bE 1 #[.int .i64 a0_0,.int .i64 a0_1,.int .i64 a0_2,.int .i64 a0_3,.int .i64 a0_4,.int .i64 a0_5,.int .i64 a0_6,.int .i64 a0_7,.int .i64 a0_8,.int .i64 a0_9,.int .i64 a0_10,.int .i64 a0_11,.int .i64 a0_12,.int .i64 a0_13,.int .i64 a0_14,.int .i64 a0_15,.int .i64 a0_16,.int .i64 a0_17,.int .i64 a0_18,.int .i64 a0_19,.int .i64 a0_20,.int .i64 a0_21,.int .i64 a0_22,.int .i64 a0_23,.int .i64 a0_24,.slice A0_25 l0_25.length c0_25] 66 ?_;intro gb1036 hg w11 hbox hb;have BK1036:=mA hbox;have GW1036:=gbpB HB hg;have GE1036:=gbpB HB hg;replace HB:=spB HB hb;clear hb hbox hg;have hcz12_0:=fun i_=>blk_cell BK1036.out i_;have hfz12_0:=fun i_=>blk_frozen BK1036.out i_))
     go_ret
     exact rZ (pS HB.out)
   ·rw [if_neg c4] at H;have c4b0:(a0_1 == 0)=false:=beq_eq_false_iff_ne.mpr c4;have c4b1:(a0_1 != 0)=true:=bne_iff_ne.mpr c4;obtain rfl:=Option.some.inj H
    go_enter Try.func31,Try.ntmps31
    go_wp2_with (first|((with_reducible refine gLd rfl rfl (by assumption) ?_);refine ldV ?_)|((with_reducible refine gSt rfl (by assumption) ?_);refine stV ?_)|((with_reducible refine gT 1 rfl ?_);(try (refine gate_guard (by rfl) ?_;dsimp only));refine bE 1 #[.int .i64 a0_0,.int .i64 a0_1,.int .i64 a0_2,.int .i64 a0_3,.int .i64 a0_4,.int .i64 a0_5,.int .i64 a0_6,.int .i64 a0_7,.int .i64 a0_8,.int .i64 a0_9,.int .i64 a0_10,.int .i64 a0_11,.int .i64 a0_12,.int .i64 a0_13,.int .i64 a0_14,.int .i64 a0_15,.int .i64 a0_16,.int .i64 a0_17,.int .i64 a0_18,.int .i64 a0_19,.int .i64 a0_20,.int .i64 a0_21,.int .i64 a0_22,.int .i64 a0_23,.int .i64 a0_24,.slice A0_25 l0_25.length c0_25] 66 ?_;intro gb1036 hg w13 hbox hb;have BK1036:=mA hbox;have GW1036:=gbpB HB hg;have GE1036:=gbpB HB hg;replace HB:=spB HB hb;clear hb hbox hg;have hcz14_0:=fun i_=>blk_cell BK1036.out i_;have hfz14_0:=fun i_=>blk_frozen BK1036.out i_))
    go_ret
    exact rZ (pS HB.out)
  ·rw [if_neg c3] at H;have c3b0:(a0_0 == 0)=false:=beq_eq_false_iff_ne.mpr c3;have c3b1:(a0_0 != 0)=true:=bne_iff_ne.mpr c3;obtain rfl:=Option.some.inj H
   go_enter Try.func31,Try.ntmps31
   go_wp2_with (first|((with_reducible refine gLd rfl rfl (by assumption) ?_);refine ldV ?_)|((with_reducible refine gSt rfl (by assumption) ?_);refine stV ?_)|((with_reducible refine gT 1 rfl ?_);(try (refine gate_guard (by rfl) ?_;dsimp only));refine bE 1 #[.int .i64 a0_0,.int .i64 a0_1,.int .i64 a0_2,.int .i64 a0_3,.int .i64 a0_4,.int .i64 a0_5,.int .i64 a0_6,.int .i64 a0_7,.int .i64 a0_8,.int .i64 a0_9,.int .i64 a0_10,.int .i64 a0_11,.int .i64 a0_12,.int .i64 a0_13,.int .i64 a0_14,.int .i64 a0_15,.int .i64 a0_16,.int .i64 a0_17,.int .i64 a0_18,.int .i64 a0_19,.int .i64 a0_20,.int .i64 a0_21,.int .i64 a0_22,.int .i64 a0_23,.int .i64 a0_24,.slice A0_25 l0_25.length c0_25] 66 ?_;intro gb1036 hg w15 hbox hb;have BK1036:=mA hbox;have GW1036:=gbpB HB hg;have GE1036:=gbpB HB hg;replace HB:=spB HB hb;clear hb hbox hg;have hcz16_0:=fun i_=>blk_cell BK1036.out i_;have hfz16_0:=fun i_=>blk_frozen BK1036.out i_))
   go_ret
   exact rZ (pS HB.out)
 ·rw [if_neg c2] at H;have c2b0:(a0_2 == 0)=false:=beq_eq_false_iff_ne.mpr c2;have c2b1:(a0_2 != 0)=true:=bne_iff_ne.mpr c2;have HC17:=mA H;clear H
  go_enter Try.func31,Try.ntmps31
  go_upto_region 3 with (first|((with_reducible refine gLd rfl rfl (by assumption) ?_);refine ldV ?_)|((with_reducible refine gSt rfl (by assumption) ?_);refine stV ?_)|((with_reducible refine gT 1 rfl ?_);(try (refine gate_guard (by rfl) ?_;dsimp only));refine bE 1 #[.int .i64 a0_0,.int .i64 a0_1,.int .i64 a0_2,.int .i64 a0_3,.int .i64 a0_4,.int .i64 a0_5,.int .i64 a0_6,.int .i64 a0_7,.int .i64 a0_8,.int .i64 a0_9,.int .i64 a0_10,.int .i64 a0_11,.int .i64 a0_12,.int .i64 a0_13,.int .i64 a0_14,.int .i64 a0_15,.int .i64 a0_16,.int .i64 a0_17,.int .i64 a0_18,.int .i64 a0_19,.int .i64 a0_20,.int .i64 a0_21,.int .i64 a0_22,.int .i64 a0_23,.int .i64 a0_24,.slice A0_25 l0_25.length c0_25] 66 ?_;intro gb1036 hg w18 hbox hb;have BK1036:=mA hbox;have GW1036:=gbpB HB hg;have GE1036:=gbpB HB hg;replace HB:=spB HB hb;clear hb hbox hg;have hcz19_0:=fun i_=>blk_cell BK1036.out i_;have hfz19_0:=fun i_=>blk_frozen BK1036.out i_))
  (try simp only [Act.put,List.setIfInBounds_toArray,List.set_cons_zero,List.set_cons_succ])
  go_cut [60] (fun v60 wc=>∃ (kq:Nat) (x60_16:Bool),v60=.bool x60_16∧Aside0 (spec_SynSeekerOk.j0 kq x60_16 a0_0 a0_1 a0_2 a0_3 a0_4 a0_5 a0_6 a0_7 a0_8 a0_9 a0_10 a0_11 a0_12 a0_13 a0_14 a0_15 a0_16 a0_17 a0_18 a0_19 a0_20 a0_21 a0_22 a0_23 a0_24 l0_25=some r)∧Aside0 (kq≤k)∧Aside0 (wc.heap[gb1036]?=some (.cells #[.int .i64 a0_0,.int .i64 a0_1,.int .i64 a0_2,.int .i64 a0_3,.int .i64 a0_4,.int .i64 a0_5,.int .i64 a0_6,.int .i64 a0_7,.int .i64 a0_8,.int .i64 a0_9,.int .i64 a0_10,.int .i64 a0_11,.int .i64 a0_12,.int .i64 a0_13,.int .i64 a0_14,.int .i64 a0_15,.int .i64 a0_16,.int .i64 a0_17,.int .i64 a0_18,.int .i64 a0_19,.int .i64 a0_20,.int .i64 a0_21,.int .i64 a0_22,.int .i64 a0_23,.int .i64 a0_24,(.slice A0_25 l0_25.length c0_25)] 66 (0,0)))∧Aside0 (Below w.heap.size w wc))
  case first =>
   have H:=HC17.out;clear HC17;obtain ⟨t1037,A20,H⟩:=bI H;(try dsimp only at H)
   by_cases c21:t1037=true
   ·subst c21;rw [if_pos rfl] at H;obtain ⟨t1038,A22,H⟩:=bI H;(try dsimp only at H)
    by_cases c23:t1038=true
    ·subst c23;rw [if_pos rfl] at H;obtain ⟨t1039,A24,H⟩:=bI H;(try dsimp only at H)
     by_cases c25:t1039=true
     ·subst c25;rw [if_pos rfl] at H;obtain ⟨t1040,A26,H⟩:=bI H;(try dsimp only at H)
      by_cases c27:t1040=true
      ·subst c27;rw [if_pos rfl] at H;have H':=mA H;clear H;have hcz28_0:=fun i_=>blk_cell BK1036.out i_;have hfz28_0:=fun i_=>blk_frozen BK1036.out i_
       go_wp2_with (first|((with_reducible refine gLd rfl rfl (by assumption) ?_);refine ldV ?_)|((with_reducible refine gSt rfl (by assumption) ?_);refine stV ?_)|((with_reducible refine gT 35 rfl ?_);refine gC (some 35) Try.func67 (spec_l6In.calls A20.out) ?_;rintro e w' ⟨rfl,⟨nd,rfl⟩⟩;refine ⟨_,rfl,?_⟩)|(go_at_call 67;(with_reducible refine (spec_l6In.calls A22.out).mono ?_);rintro e w' ⟨rfl,⟨nd,rfl⟩⟩)|(go_at_call 67;(with_reducible refine (spec_l6In.calls A24.out).mono ?_);rintro e w' ⟨rfl,⟨nd,rfl⟩⟩)|(go_at_call 69;(with_reducible refine (spec_l11CmdOk.calls A26.out).mono ?_);rintro e w29 ⟨rfl,hb⟩;replace BK1036:=bK BK1036 hb;replace HB:=spS HB hb;(try clear hb);have hcz30_0:=fun i_=>blk_cell BK1036.out i_;have hfz30_0:=fun i_=>blk_frozen BK1036.out i_))
       go_meet
       case rel=>exact ⟨_,(decide ((l0_25.length:Int) ≥ 2)),bZ,H',⟨by first|omega|exact Nat.le_refl _⟩,⟨pK BK1036.out⟩,⟨pS HB.out⟩⟩
      ·replace c27:=Bool.eq_false_iff.mpr c27;subst c27
       rw [if_neg nFT] at H
       have H':=mA H;clear H;have hcz31_0:=fun i_=>blk_cell BK1036.out i_;have hfz31_0:=fun i_=>blk_frozen BK1036.out i_
       go_wp2_with (first|((with_reducible refine gLd rfl rfl (by assumption) ?_);refine ldV ?_)|((with_reducible refine gSt rfl (by assumption) ?_);refine stV ?_)|((with_reducible refine gT 35 rfl ?_);refine gC (some 35) Try.func67 (spec_l6In.calls A20.out) ?_;rintro e w' ⟨rfl,⟨nd,rfl⟩⟩;refine ⟨_,rfl,?_⟩)|(go_at_call 67;(with_reducible refine (spec_l6In.calls A22.out).mono ?_);rintro e w' ⟨rfl,⟨nd,rfl⟩⟩)|(go_at_call 67;(with_reducible refine (spec_l6In.calls A24.out).mono ?_);rintro e w' ⟨rfl,⟨nd,rfl⟩⟩)|(go_at_call 69;(with_reducible refine (spec_l11CmdOk.calls A26.out).mono ?_);rintro e w32 ⟨rfl,hb⟩;replace BK1036:=bK BK1036 hb;replace HB:=spS HB hb;(try clear hb)))
       go_meet
       case rel=>exact ⟨_,(true),bZ,H',⟨by first|omega|exact Nat.le_refl _⟩,⟨pK BK1036.out⟩,⟨pS HB.out⟩⟩
     ·replace c25:=Bool.eq_false_iff.mpr c25;subst c25
      rw [if_neg nFT] at H
      have H':=mA H;clear H;have hcz33_0:=fun i_=>blk_cell BK1036.out i_;have hfz33_0:=fun i_=>blk_frozen BK1036.out i_
      go_wp2_with (first|((with_reducible refine gLd rfl rfl (by assumption) ?_);refine ldV ?_)|((with_reducible refine gSt rfl (by assumption) ?_);refine stV ?_)|((with_reducible refine gT 35 rfl ?_);refine gC (some 35) Try.func67 (spec_l6In.calls A20.out) ?_;rintro e w' ⟨rfl,⟨nd,rfl⟩⟩;refine ⟨_,rfl,?_⟩)|(go_at_call 67;(with_reducible refine (spec_l6In.calls A22.out).mono ?_);rintro e w' ⟨rfl,⟨nd,rfl⟩⟩)|(go_at_call 67;(with_reducible refine (spec_l6In.calls A24.out).mono ?_);rintro e w' ⟨rfl,⟨nd,rfl⟩⟩))
      go_meet
      case rel=>exact ⟨_,(true),bZ,H',⟨by first|omega|exact Nat.le_refl _⟩,⟨pK BK1036.out⟩,⟨pS HB.out⟩⟩
    ·replace c23:=Bool.eq_false_iff.mpr c23;subst c23
     rw [if_neg nFT] at H
     have H':=mA H;clear H;have hcz34_0:=fun i_=>blk_cell BK1036.out i_;have hfz34_0:=fun i_=>blk_frozen BK1036.out i_
     go_wp2_with (first|((with_reducible refine gLd rfl rfl (by assumption) ?_);refine ldV ?_)|((with_reducible refine gSt rfl (by assumption) ?_);refine stV ?_)|((with_reducible refine gT 35 rfl ?_);refine gC (some 35) Try.func67 (spec_l6In.calls A20.out) ?_;rintro e w' ⟨rfl,⟨nd,rfl⟩⟩;refine ⟨_,rfl,?_⟩)|(go_at_call 67;(with_reducible refine (spec_l6In.calls A22.out).mono ?_);rintro e w' ⟨rfl,⟨nd,rfl⟩⟩))
     go_meet
     case rel=>exact ⟨_,(true),bZ,H',⟨by first|omega|exact Nat.le_refl _⟩,⟨pK BK1036.out⟩,⟨pS HB.out⟩⟩
   ·replace c21:=Bool.eq_false_iff.mpr c21;subst c21
    rw [if_neg nFT] at H
    have H':=mA H;clear H;have hcz35_0:=fun i_=>blk_cell BK1036.out i_;have hfz35_0:=fun i_=>blk_frozen BK1036.out i_
    go_wp2_with (first|((with_reducible refine gLd rfl rfl (by assumption) ?_);refine ldV ?_)|((with_reducible refine gSt rfl (by assumption) ?_);refine stV ?_)|((with_reducible refine gT 35 rfl ?_);refine gC (some 35) Try.func67 (spec_l6In.calls A20.out) ?_;rintro e w' ⟨rfl,⟨nd,rfl⟩⟩;refine ⟨_,rfl,?_⟩))
    go_meet
    case rel=>exact ⟨_,(true),bZ,H',⟨by first|omega|exact Nat.le_refl _⟩,⟨pK BK1036.out⟩,⟨pS HB.out⟩⟩
  case rest =>
   clear HC17
   (try clear c2);(try clear c2b0);(try clear c2b1);(try clear hcz19_0);(try clear hfz19_0)
   obtain ⟨kq,x60_16,rfl,HA,HJ16,BK1036,HB⟩:=hcut
   cases kq with
   | zero=>exact absurd HA.out (by simp [spec_SynSeekerOk.j0])
   | succ kj16 =>
    have H:=HA.out;clear HA;simp only [spec_SynSeekerOk.j0] at H
    by_cases c36:x60_16=true
    ·subst c36;rw [if_pos rfl] at H;obtain rfl:=Option.some.inj H
     go_wp2_with (first|((with_reducible refine gLd rfl rfl (by assumption) ?_);refine ldV ?_)|((with_reducible refine gSt rfl (by assumption) ?_);refine stV ?_))
     go_ret
     exact rZ (pS HB.out)
    ·replace c36:=Bool.eq_false_iff.mpr c36;subst c36
     rw [if_neg nFT] at H
     have H':=mA H;clear H
     go_wp2_with (first|((with_reducible refine gLd rfl rfl (by assumption) ?_);refine ldV ?_)|((with_reducible refine gSt rfl (by assumption) ?_);refine stV ?_))
     go_loopg [3] kj16 (fun kq v3 w'=>∃ (x3_2:Int),v3=.int .i64 x3_2∧Aside0 (spec_SynSeekerOk.l0 kq x3_2 a0_0 a0_1 a0_2 a0_3 a0_4 a0_5 a0_6 a0_7 a0_8 a0_9 a0_10 a0_11 a0_12 a0_13 a0_14 a0_15 a0_16 a0_17 a0_18 a0_19 a0_20 a0_21 a0_22 a0_23 a0_24 l0_25=some r)∧Aside0 (kq≤kj16)∧Aside0 (w'.heap[gb1036]?=some (.cells #[.int .i64 a0_0,.int .i64 a0_1,.int .i64 a0_2,.int .i64 a0_3,.int .i64 a0_4,.int .i64 a0_5,.int .i64 a0_6,.int .i64 a0_7,.int .i64 a0_8,.int .i64 a0_9,.int .i64 a0_10,.int .i64 a0_11,.int .i64 a0_12,.int .i64 a0_13,.int .i64 a0_14,.int .i64 a0_15,.int .i64 a0_16,.int .i64 a0_17,.int .i64 a0_18,.int .i64 a0_19,.int .i64 a0_20,.int .i64 a0_21,.int .i64 a0_22,.int .i64 a0_23,.int .i64 a0_24,(.slice A0_25 l0_25.length c0_25)] 66 (0,0)))∧Aside0 (Below w.heap.size w w'))
     case atStart=>exact ⟨(0),bZ,H',⟨Nat.le_refl _⟩,⟨pK BK1036.out⟩,⟨pS HB.out⟩⟩
     case round =>
      clear H'
      (try clear c36);(try clear hcz19_0);(try clear hfz19_0)
      obtain ⟨x3_2,rfl,HA,HK2,BK1036,HB⟩:=hrel
      cases gk with
      | zero=>exact absurd HA.out (by simp [spec_SynSeekerOk.l0])
      | succ k2 =>
       have H:=HA.out;clear HA;simp only [spec_SynSeekerOk.l0] at H
       by_cases c37:x3_2<(l0_25.length:Int)
       ·rw [if_pos c37] at H;have c37b0:decide (x3_2<(l0_25.length:Int))=true:=decide_eq_true c37;clear c37
        by_cases c38:0≤x3_2
        ·rw [if_pos c38] at H;have c38b0:decide (0≤x3_2)=true:=decide_eq_true c38;clear c38;obtain ⟨t1042,A39,H⟩:=bI H;(try dsimp only at H)
         by_cases c40:t1042=true
         ·subst c40;rw [if_pos rfl] at H;have H':=mA H;clear H;have hcz41_0:=fun i_=>blk_cell BK1036.out i_;have hfz41_0:=fun i_=>blk_frozen BK1036.out i_;have p1041:0≤(x3_2:Int):=of_decide_eq_true bA;have q1041:x3_2<(l0_25.length:Int):=of_decide_eq_true bA;obtain ⟨ad1041,e1041,hx1041_0⟩:=Kd.at_int HR0_25.out x3_2 p1041 q1041;cases e1041;replace hx1041_0:=hC HB hx1041_0;replace p1041:=eq_true p1041;replace q1041:=eq_true q1041
          go_wp2_with (first|((with_reducible refine gLd rfl rfl (by assumption) ?_);refine ldV ?_)|((with_reducible refine gSt rfl (by assumption) ?_);refine stV ?_)|((with_reducible refine gT 73 rfl ?_);refine gC (some 73) Try.func67 (spec_l6In.calls A39.out) ?_;rintro e w' ⟨rfl,⟨nd,rfl⟩⟩;refine ⟨_,rfl,?_⟩))
          go_roundg k2
          case measure=>have:=HJ16.out;have:=HK2.out;omega
          case rel=>exact ⟨(wrap64 (x3_2+1)),bZ,H',⟨by have:=HJ16.out;have:=HK2.out;omega⟩,⟨pK BK1036.out⟩,⟨pS HB.out⟩⟩
         ·replace c40:=Bool.eq_false_iff.mpr c40;subst c40
          rw [if_neg nFT] at H
          obtain rfl:=Option.some.inj H;have hcz42_0:=fun i_=>blk_cell BK1036.out i_;have hfz42_0:=fun i_=>blk_frozen BK1036.out i_;have p1041:0≤(x3_2:Int):=of_decide_eq_true bA;have q1041:x3_2<(l0_25.length:Int):=of_decide_eq_true bA;obtain ⟨ad1041,e1041,hx1041_0⟩:=Kd.at_int HR0_25.out x3_2 p1041 q1041;cases e1041;replace hx1041_0:=hC HB hx1041_0;replace p1041:=eq_true p1041;replace q1041:=eq_true q1041
          go_wp2_with (first|((with_reducible refine gLd rfl rfl (by assumption) ?_);refine ldV ?_)|((with_reducible refine gSt rfl (by assumption) ?_);refine stV ?_)|((with_reducible refine gT 73 rfl ?_);refine gC (some 73) Try.func67 (spec_l6In.calls A39.out) ?_;rintro e w' ⟨rfl,⟨nd,rfl⟩⟩;refine ⟨_,rfl,?_⟩))
          go_ret
          exact rZ (pS HB.out)
        ·rw [if_neg c38] at H
         exact absurd H (by simp)
       ·rw [if_neg c37] at H;have c37b0:decide (x3_2<(l0_25.length:Int))=false:=decide_eq_false c37;clear c37
        by_cases c43:(a0_13 == 0 && (a0_14 == 0 && ((a0_15 == 0 && (a0_16 == 0 && (a0_17 == 0 && (a0_18 == 0 && (a0_19 == 0 && (a0_20 == 0 && (a0_21 == 0 && (a0_22 == 0 && (a0_23 == 0 && (a0_24 == 0)))))))))))))=true
        ·rw [if_pos c43] at H;have c43b0:(a0_13 == 0 && (a0_14 == 0 && ((a0_15 == 0 && (a0_16 == 0 && (a0_17 == 0 && (a0_18 == 0 && (a0_19 == 0 && (a0_20 == 0 && (a0_21 == 0 && (a0_22 == 0 && (a0_23 == 0 && (a0_24 == 0)))))))))))))=true:=c43
         (try (have c43b1:decide (a0_13=0 && (a0_14 == 0 && ((a0_15 == 0 && (a0_16 == 0 && (a0_17 == 0 && (a0_18 == 0 && (a0_19 == 0 && (a0_20 == 0 && (a0_21 == 0 && (a0_22 == 0 && (a0_23 == 0 && (a0_24 == 0)))))))))))))=true:=by simpa using c43))
         (try (have c43b2:(a0_13 == 0 && (a0_14 == 0 && ((a0_15 == 0 && (a0_16 == 0 && (a0_17 == 0 && (a0_18 == 0 && (a0_19 == 0 && (a0_20 == 0 && (a0_21 == 0 && (a0_22 == 0 && (a0_23 == 0 && (a0_24 == 0)))))))))))))=true:=by simpa using c43))
         clear c43;obtain rfl:=Option.some.inj H;have hcz44_0:=fun i_=>blk_cell BK1036.out i_;have hfz44_0:=fun i_=>blk_frozen BK1036.out i_
         go_wp2_with (first|((with_reducible refine gLd rfl rfl (by assumption) ?_);refine ldV ?_)|((with_reducible refine gSt rfl (by assumption) ?_);refine stV ?_))
         go_ret
         exact rZ (pS HB.out)
        ·rw [if_neg c43] at H
         have c43b0:(a0_13 == 0 && (a0_14 == 0 && ((a0_15 == 0 && (a0_16 == 0 && (a0_17 == 0 && (a0_18 == 0 && (a0_19 == 0 && (a0_20 == 0 && (a0_21 == 0 && (a0_22 == 0 && (a0_23 == 0 && (a0_24 == 0)))))))))))))=false:=by simpa using c43
         (try (have c43b1:decide (a0_13=0 && (a0_14 == 0 && ((a0_15 == 0 && (a0_16 == 0 && (a0_17 == 0 && (a0_18 == 0 && (a0_19 == 0 && (a0_20 == 0 && (a0_21 == 0 && (a0_22 == 0 && (a0_23 == 0 && (a0_24 == 0)))))))))))))=false:=by simpa using c43))
         (try (have c43b2:(a0_13 == 0 && (a0_14 == 0 && ((a0_15 == 0 && (a0_16 == 0 && (a0_17 == 0 && (a0_18 == 0 && (a0_19 == 0 && (a0_20 == 0 && (a0_21 == 0 && (a0_22 == 0 && (a0_23 == 0 && (a0_24 == 0)))))))))))))=false:=by simpa using c43))
         (try (have c43b3:¬ (a0_13=0 && (a0_14 == 0 && ((a0_15 == 0 && (a0_16 == 0 && (a0_17 == 0 && (a0_18 == 0 && (a0_19 == 0 && (a0_20 == 0 && (a0_21 == 0 && (a0_22 == 0 && (a0_23 == 0 && (a0_24 == 0))))))))))))):=by simpa using c43))
         clear c43;obtain ⟨t1043,A45,H⟩:=bI H;(try dsimp only at H)
         by_cases c46:t1043=true
         ·subst c46;rw [if_pos rfl] at H
          by_cases c47:a0_13=a0_0
          ·rw [if_pos c47] at H;obtain ⟨c47b0,c47b1⟩:=eqB c47;clear c47;obtain rfl:=Option.some.inj H;have hcz48_0:=fun i_=>blk_cell BK1036.out i_;have hfz48_0:=fun i_=>blk_frozen BK1036.out i_
           go_wp2_with (first|((with_reducible refine gLd rfl rfl (by assumption) ?_);refine ldV ?_)|((with_reducible refine gSt rfl (by assumption) ?_);refine stV ?_)|(go_at_call 86;(with_reducible refine (spec_l21PaperOk.calls A45.out).mono ?_);rintro e w49 ⟨rfl,hb⟩;replace BK1036:=bK BK1036 hb;replace HB:=spS HB hb;(try clear hb);have hcz50_0:=fun i_=>blk_cell BK1036.out i_;have hfz50_0:=fun i_=>blk_frozen BK1036.out i_))
           go_ret
           exact rZ (pS HB.out)
          ·rw [if_neg c47] at H;have c47b0:(a0_13 == a0_0)=false:=beq_eq_false_iff_ne.mpr c47;have c47b1:(a0_13 != a0_0)=true:=bne_iff_ne.mpr c47;obtain rfl:=Option.some.inj H;have hcz51_0:=fun i_=>blk_cell BK1036.out i_;have hfz51_0:=fun i_=>blk_frozen BK1036.out i_
           go_wp2_with (first|((with_reducible refine gLd rfl rfl (by assumption) ?_);refine ldV ?_)|((with_reducible refine gSt rfl (by assumption) ?_);refine stV ?_)|(go_at_call 86;(with_reducible refine (spec_l21PaperOk.calls A45.out).mono ?_);rintro e w52 ⟨rfl,hb⟩;replace BK1036:=bK BK1036 hb;replace HB:=spS HB hb;(try clear hb);have hcz53_0:=fun i_=>blk_cell BK1036.out i_;have hfz53_0:=fun i_=>blk_frozen BK1036.out i_))
           go_ret
           exact rZ (pS HB.out)
         ·replace c46:=Bool.eq_false_iff.mpr c46;subst c46
          rw [if_neg nFT] at H
          obtain rfl:=Option.some.inj H;have hcz54_0:=fun i_=>blk_cell BK1036.out i_;have hfz54_0:=fun i_=>blk_frozen BK1036.out i_
          go_wp2_with (first|((with_reducible refine gLd rfl rfl (by assumption) ?_);refine ldV ?_)|((with_reducible refine gSt rfl (by assumption) ?_);refine stV ?_)|(go_at_call 86;(with_reducible refine (spec_l21PaperOk.calls A45.out).mono ?_);rintro e w55 ⟨rfl,hb⟩;replace BK1036:=bK BK1036 hb;replace HB:=spS HB hb;(try clear hb)))
          go_ret
          exact rZ (pS HB.out)

/-! ### impl_seekerNone: function 93 -/
def impl_seekerNone.f (a0_0 : Int) (a0_1 : Int) (a0_2 : Int) (a0_3 : Int) (a0_4 : Int) (a0_5 : Int) (a0_6 : Int) (a0_7 : Int) (a0_8 : Int) (a0_9 : Int) (a0_10 : Int) (a0_11 : Int) (a0_12 : Int) (a0_13 : Int) (a0_14 : Int) (a0_15 : Int) (a0_16 : Int) (a0_17 : Int) (a0_18 : Int) (a0_19 : Int) (a0_20 : Int) (a0_21 : Int) (a0_22 : Int) (a0_23 : Int) (a0_24 : Int) (l0_25 : List Int) : Option (Bool) := if a0_0 = 0 then (if a0_1 = 0 then (if a0_2 = 0 then (if (a0_3 == 0 && (a0_4 == 0 && (a0_5 == 0 && (a0_6 == 0 && (a0_7 == 0 && (a0_8 == 0 && (a0_9 == 0 && (a0_10 == 0 && (a0_11 == 0 && (a0_12 == 0)))))))))) = true then (if (a0_13 == 0 && (a0_14 == 0 && ((a0_15 == 0 && (a0_16 == 0 && (a0_17 == 0 && (a0_18 == 0 && (a0_19 == 0 && (a0_20 == 0 && (a0_21 == 0 && (a0_22 == 0 && (a0_23 == 0 && (a0_24 == 0))))))))))))) = true then (some ((l0_25.length : Int) == 0)) else (some false)) else (some false)) else (some false)) else (some false)) else (some false)
set_option maxHeartbeats 8000000 in
set_option maxRecDepth 100000 in
theorem impl_seekerNone.calls {a0_0 : Int} {a0_1 : Int} {a0_2 : Int} {a0_3 : Int} {a0_4 : Int} {a0_5 : Int} {a0_6 : Int} {a0_7 : Int} {a0_8 : Int} {a0_9 : Int} {a0_10 : Int} {a0_11 : Int} {a0_12 : Int} {a0_13 : Int} {a0_14 : Int} {a0_15 : Int} {a0_16 : Int} {a0_17 : Int} {a0_18 : Int} {a0_19 : Int} {a0_20 : Int} {a0_21 : Int} {a0_22 : Int} {a0_23 : Int} {a0_24 : Int} {A0_25 : Option Addr} {c0_25 : Nat} {l0_25 : List Int} {r : Bool} {w : World} (hr0_25 : Kd.C (Kd.int .i64) w A0_25 l0_25.length l0_25) (hc0_25 : l0_25.length ≤ c0_25) (h : impl_seekerNone.f a0_0 a0_1 a0_2 a0_3 a0_4 a0_5 a0_6 a0_7 a0_8 a0_9 a0_10 a0_11 a0_12 a0_13 a0_14 a0_15 a0_16 a0_17 a0_18 a0_19 a0_20 a0_21 a0_22 a0_23 a0_24 l0_25 = some r) :
  Calls Try.prog 93 #[.agg #[.int .i64 a0_0,.int .i64 a0_1,.int .i64 a0_2,.int .i64 a0_3,.int .i64 a0_4,.int .i64 a0_5,.int .i64 a0_6,.int .i64 a0_7,.int .i64 a0_8,.int .i64 a0_9,.int .i64 a0_10,.int .i64 a0_11,.int .i64 a0_12,.int .i64 a0_13,.int .i64 a0_14,.int .i64 a0_15,.int .i64 a0_16,.int .i64 a0_17,.int .i64 a0_18,.int .i64 a0_19,.int .i64 a0_20,.int .i64 a0_21,.int .i64 a0_22,.int .i64 a0_23,.int .i64 a0_24,.slice A0_25 l0_25.length c0_25]] w fun e w'=>e=.returned (.bool r)∧Below w.heap.size w w':=by
 have hu66:=Try.underlying66;have hu24:=Try.underlying24;have hu64:=Try.underlying64;have HR0_25:=mA hr0_25;have HC0_25:=mA hc0_25;clear hr0_25 hc0_25;have HB:=mA (Below.refl w.heap.size w);have H:(if a0_0=0 then (if a0_1=0 then (if a0_2=0 then (if (a0_3 == 0 && (a0_4 == 0 && (a0_5 == 0 && (a0_6 == 0 && (a0_7 == 0 && (a0_8 == 0 && (a0_9 == 0 && (a0_10 == 0 && (a0_11 == 0 && (a0_12 == 0))))))))))=true then (if (a0_13 == 0 && (a0_14 == 0 && ((a0_15 == 0 && (a0_16 == 0 && (a0_17 == 0 && (a0_18 == 0 && (a0_19 == 0 && (a0_20 == 0 && (a0_21 == 0 && (a0_22 == 0 && (a0_23 == 0 && (a0_24 == 0)))))))))))))=true then (some ((l0_25.length:Int) == 0)) else (some false)) else (some false)) else (some false)) else (some false)) else (some false))=some r:=h;clear h
 by_cases c2:a0_0=0
 ·rw [if_pos c2] at H;obtain ⟨c2b0,c2b1⟩:=eqB c2;clear c2
  by_cases c3:a0_1=0
  ·rw [if_pos c3] at H;obtain ⟨c3b0,c3b1⟩:=eqB c3;clear c3
   by_cases c4:a0_2=0
   ·rw [if_pos c4] at H;obtain ⟨c4b0,c4b1⟩:=eqB c4;clear c4
    by_cases c5:(a0_3 == 0 && (a0_4 == 0 && (a0_5 == 0 && (a0_6 == 0 && (a0_7 == 0 && (a0_8 == 0 && (a0_9 == 0 && (a0_10 == 0 && (a0_11 == 0 && (a0_12 == 0))))))))))=true
    ·rw [if_pos c5] at H;have c5b0:(a0_3 == 0 && (a0_4 == 0 && (a0_5 == 0 && (a0_6 == 0 && (a0_7 == 0 && (a0_8 == 0 && (a0_9 == 0 && (a0_10 == 0 && (a0_11 == 0 && (a0_12 == 0))))))))))=true:=c5
     (try (have c5b1:decide (a0_3=0 && (a0_4 == 0 && (a0_5 == 0 && (a0_6 == 0 && (a0_7 == 0 && (a0_8 == 0 && (a0_9 == 0 && (a0_10 == 0 && (a0_11 == 0 && (a0_12 == 0))))))))))=true:=by simpa using c5))
     (try (have c5b2:(a0_3 == 0 && (a0_4 == 0 && (a0_5 == 0 && (a0_6 == 0 && (a0_7 == 0 && (a0_8 == 0 && (a0_9 == 0 && (a0_10 == 0 && (a0_11 == 0 && (a0_12 == 0))))))))))=true:=by simpa using c5))
     clear c5
     by_cases c6:(a0_13 == 0 && (a0_14 == 0 && ((a0_15 == 0 && (a0_16 == 0 && (a0_17 == 0 && (a0_18 == 0 && (a0_19 == 0 && (a0_20 == 0 && (a0_21 == 0 && (a0_22 == 0 && (a0_23 == 0 && (a0_24 == 0)))))))))))))=true
     ·rw [if_pos c6] at H;have c6b0:(a0_13 == 0 && (a0_14 == 0 && ((a0_15 == 0 && (a0_16 == 0 && (a0_17 == 0 && (a0_18 == 0 && (a0_19 == 0 && (a0_20 == 0 && (a0_21 == 0 && (a0_22 == 0 && (a0_23 == 0 && (a0_24 == 0)))))))))))))=true:=c6
      (try (have c6b1:decide (a0_13=0 && (a0_14 == 0 && ((a0_15 == 0 && (a0_16 == 0 && (a0_17 == 0 && (a0_18 == 0 && (a0_19 == 0 && (a0_20 == 0 && (a0_21 == 0 && (a0_22 == 0 && (a0_23 == 0 && (a0_24 == 0)))))))))))))=true:=by simpa using c6))
      (try (have c6b2:(a0_13 == 0 && (a0_14 == 0 && ((a0_15 == 0 && (a0_16 == 0 && (a0_17 == 0 && (a0_18 == 0 && (a0_19 == 0 && (a0_20 == 0 && (a0_21 == 0 && (a0_22 == 0 && (a0_23 == 0 && (a0_24 == 0)))))))))))))=true:=by simpa using c6))
      clear c6;obtain rfl:=Option.some.inj H
      go_enter Try.func93,Try.ntmps93
      go_wp2_with (first|((with_reducible refine gLd rfl rfl (by assumption) ?_);refine ldV ?_)|((with_reducible refine gSt rfl (by assumption) ?_);refine stV ?_)|((with_reducible refine gT 1 rfl ?_);(try (refine gate_guard (by rfl) ?_;dsimp only));refine bE 1 #[.int .i64 a0_0,.int .i64 a0_1,.int .i64 a0_2,.int .i64 a0_3,.int .i64 a0_4,.int .i64 a0_5,.int .i64 a0_6,.int .i64 a0_7,.int .i64 a0_8,.int .i64 a0_9,.int .i64 a0_10,.int .i64 a0_11,.int .i64 a0_12,.int .i64 a0_13,.int .i64 a0_14,.int .i64 a0_15,.int .i64 a0_16,.int .i64 a0_17,.int .i64 a0_18,.int .i64 a0_19,.int .i64 a0_20,.int .i64 a0_21,.int .i64 a0_22,.int .i64 a0_23,.int .i64 a0_24,.slice A0_25 l0_25.length c0_25] 66 ?_;intro gb1077 hg w7 hbox hb;have BK1077:=mA hbox;have GW1077:=gbpB HB hg;have GE1077:=gbpB HB hg;replace HB:=spB HB hb;clear hb hbox hg;have hcz8_0:=fun i_=>blk_cell BK1077.out i_;have hfz8_0:=fun i_=>blk_frozen BK1077.out i_))
      go_ret
      exact rZ (pS HB.out)
     ·rw [if_neg c6] at H
      have c6b0:(a0_13 == 0 && (a0_14 == 0 && ((a0_15 == 0 && (a0_16 == 0 && (a0_17 == 0 && (a0_18 == 0 && (a0_19 == 0 && (a0_20 == 0 && (a0_21 == 0 && (a0_22 == 0 && (a0_23 == 0 && (a0_24 == 0)))))))))))))=false:=by simpa using c6
      (try (have c6b1:decide (a0_13=0 && (a0_14 == 0 && ((a0_15 == 0 && (a0_16 == 0 && (a0_17 == 0 && (a0_18 == 0 && (a0_19 == 0 && (a0_20 == 0 && (a0_21 == 0 && (a0_22 == 0 && (a0_23 == 0 && (a0_24 == 0)))))))))))))=false:=by simpa using c6))
      (try (have c6b2:(a0_13 == 0 && (a0_14 == 0 && ((a0_15 == 0 && (a0_16 == 0 && (a0_17 == 0 && (a0_18 == 0 && (a0_19 == 0 && (a0_20 == 0 && (a0_21 == 0 && (a0_22 == 0 && (a0_23 == 0 && (a0_24 == 0)))))))))))))=false:=by simpa using c6))
      (try (have c6b3:¬ (a0_13=0 && (a0_14 == 0 && ((a0_15 == 0 && (a0_16 == 0 && (a0_17 == 0 && (a0_18 == 0 && (a0_19 == 0 && (a0_20 == 0 && (a0_21 == 0 && (a0_22 == 0 && (a0_23 == 0 && (a0_24 == 0))))))))))))):=by simpa using c6))
      clear c6;obtain rfl:=Option.some.inj H
      go_enter Try.func93,Try.ntmps93
      go_wp2_with (first|((with_reducible refine gLd rfl rfl (by assumption) ?_);refine ldV ?_)|((with_reducible refine gSt rfl (by assumption) ?_);refine stV ?_)|((with_reducible refine gT 1 rfl ?_);(try (refine gate_guard (by rfl) ?_;dsimp only));refine bE 1 #[.int .i64 a0_0,.int .i64 a0_1,.int .i64 a0_2,.int .i64 a0_3,.int .i64 a0_4,.int .i64 a0_5,.int .i64 a0_6,.int .i64 a0_7,.int .i64 a0_8,.int .i64 a0_9,.int .i64 a0_10,.int .i64 a0_11,.int .i64 a0_12,.int .i64 a0_13,.int .i64 a0_14,.int .i64 a0_15,.int .i64 a0_16,.int .i64 a0_17,.int .i64 a0_18,.int .i64 a0_19,.int .i64 a0_20,.int .i64 a0_21,.int .i64 a0_22,.int .i64 a0_23,.int .i64 a0_24,.slice A0_25 l0_25.length c0_25] 66 ?_;intro gb1077 hg w9 hbox hb;have BK1077:=mA hbox;have GW1077:=gbpB HB hg;have GE1077:=gbpB HB hg;replace HB:=spB HB hb;clear hb hbox hg;have hcz10_0:=fun i_=>blk_cell BK1077.out i_;have hfz10_0:=fun i_=>blk_frozen BK1077.out i_))
      go_ret
      exact rZ (pS HB.out)
    ·rw [if_neg c5] at H
     have c5b0:(a0_3 == 0 && (a0_4 == 0 && (a0_5 == 0 && (a0_6 == 0 && (a0_7 == 0 && (a0_8 == 0 && (a0_9 == 0 && (a0_10 == 0 && (a0_11 == 0 && (a0_12 == 0))))))))))=false:=by simpa using c5
     (try (have c5b1:decide (a0_3=0 && (a0_4 == 0 && (a0_5 == 0 && (a0_6 == 0 && (a0_7 == 0 && (a0_8 == 0 && (a0_9 == 0 && (a0_10 == 0 && (a0_11 == 0 && (a0_12 == 0))))))))))=false:=by simpa using c5))
     (try (have c5b2:(a0_3 == 0 && (a0_4 == 0 && (a0_5 == 0 && (a0_6 == 0 && (a0_7 == 0 && (a0_8 == 0 && (a0_9 == 0 && (a0_10 == 0 && (a0_11 == 0 && (a0_12 == 0))))))))))=false:=by simpa using c5))
     (try (have c5b3:¬ (a0_3=0 && (a0_4 == 0 && (a0_5 == 0 && (a0_6 == 0 && (a0_7 == 0 && (a0_8 == 0 && (a0_9 == 0 && (a0_10 == 0 && (a0_11 == 0 && (a0_12 == 0)))))))))):=by simpa using c5))
     clear c5;obtain rfl:=Option.some.inj H
     go_enter Try.func93,Try.ntmps93
     go_wp2_with (first|((with_reducible refine gLd rfl rfl (by assumption) ?_);refine ldV ?_)|((with_reducible refine gSt rfl (by assumption) ?_);refine stV ?_)|((with_reducible refine gT 1 rfl ?_);(try (refine gate_guard (by rfl) ?_;dsimp only));refine bE 1 #[.int .i64 a0_0,.int .i64 a0_1,.int .i64 a0_2,.int .i64 a0_3,.int .i64 a0_4,.int .i64 a0_5,.int .i64 a0_6,.int .i64 a0_7,.int .i64 a0_8,.int .i64 a0_9,.int .i64 a0_10,.int .i64 a0_11,.int .i64 a0_12,.int .i64 a0_13,.int .i64 a0_14,.int .i64 a0_15,.int .i64 a0_16,.int .i64 a0_17,.int .i64 a0_18,.int .i64 a0_19,.int .i64 a0_20,.int .i64 a0_21,.int .i64 a0_22,.int .i64 a0_23,.int .i64 a0_24,.slice A0_25 l0_25.length c0_25] 66 ?_;intro gb1077 hg w11 hbox hb;have BK1077:=mA hbox;have GW1077:=gbpB HB hg;have GE1077:=gbpB HB hg;replace HB:=spB HB hb;clear hb hbox hg;have hcz12_0:=fun i_=>blk_cell BK1077.out i_;have hfz12_0:=fun i_=>blk_frozen BK1077.out i_))
     go_ret
     exact rZ (pS HB.out)
   ·rw [if_neg c4] at H;have c4b0:(a0_2 == 0)=false:=beq_eq_false_iff_ne.mpr c4;have c4b1:(a0_2 != 0)=true:=bne_iff_ne.mpr c4;obtain rfl:=Option.some.inj H
    go_enter Try.func93,Try.ntmps93
    go_wp2_with (first|((with_reducible refine gLd rfl rfl (by assumption) ?_);refine ldV ?_)|((with_reducible refine gSt rfl (by assumption) ?_);refine stV ?_)|((with_reducible refine gT 1 rfl ?_);(try (refine gate_guard (by rfl) ?_;dsimp only));refine bE 1 #[.int .i64 a0_0,.int .i64 a0_1,.int .i64 a0_2,.int .i64 a0_3,.int .i64 a0_4,.int .i64 a0_5,.int .i64 a0_6,.int .i64 a0_7,.int .i64 a0_8,.int .i64 a0_9,.int .i64 a0_10,.int .i64 a0_11,.int .i64 a0_12,.int .i64 a0_13,.int .i64 a0_14,.int .i64 a0_15,.int .i64 a0_16,.int .i64 a0_17,.int .i64 a0_18,.int .i64 a0_19,.int .i64 a0_20,.int .i64 a0_21,.int .i64 a0_22,.int .i64 a0_23,.int .i64 a0_24,.slice A0_25 l0_25.length c0_25] 66 ?_;intro gb1077 hg w13 hbox hb;have BK1077:=mA hbox;have GW1077:=gbpB HB hg;have GE1077:=gbpB HB hg;replace HB:=spB HB hb;clear hb hbox hg;have hcz14_0:=fun i_=>blk_cell BK1077.out i_;have hfz14_0:=fun i_=>blk_frozen BK1077.out i_))
    go_ret
    exact rZ (pS HB.out)
  ·rw [if_neg c3] at H;have c3b0:(a0_1 == 0)=false:=beq_eq_false_iff_ne.mpr c3;have c3b1:(a0_1 != 0)=true:=bne_iff_ne.mpr c3;obtain rfl:=Option.some.inj H
   go_enter Try.func93,Try.ntmps93
   go_wp2_with (first|((with_reducible refine gLd rfl rfl (by assumption) ?_);refine ldV ?_)|((with_reducible refine gSt rfl (by assumption) ?_);refine stV ?_)|((with_reducible refine gT 1 rfl ?_);(try (refine gate_guard (by rfl) ?_;dsimp only));refine bE 1 #[.int .i64 a0_0,.int .i64 a0_1,.int .i64 a0_2,.int .i64 a0_3,.int .i64 a0_4,.int .i64 a0_5,.int .i64 a0_6,.int .i64 a0_7,.int .i64 a0_8,.int .i64 a0_9,.int .i64 a0_10,.int .i64 a0_11,.int .i64 a0_12,.int .i64 a0_13,.int .i64 a0_14,.int .i64 a0_15,.int .i64 a0_16,.int .i64 a0_17,.int .i64 a0_18,.int .i64 a0_19,.int .i64 a0_20,.int .i64 a0_21,.int .i64 a0_22,.int .i64 a0_23,.int .i64 a0_24,.slice A0_25 l0_25.length c0_25] 66 ?_;intro gb1077 hg w15 hbox hb;have BK1077:=mA hbox;have GW1077:=gbpB HB hg;have GE1077:=gbpB HB hg;replace HB:=spB HB hb;clear hb hbox hg;have hcz16_0:=fun i_=>blk_cell BK1077.out i_;have hfz16_0:=fun i_=>blk_frozen BK1077.out i_))
   go_ret
   exact rZ (pS HB.out)
 ·rw [if_neg c2] at H;have c2b0:(a0_0 == 0)=false:=beq_eq_false_iff_ne.mpr c2;have c2b1:(a0_0 != 0)=true:=bne_iff_ne.mpr c2;obtain rfl:=Option.some.inj H
  go_enter Try.func93,Try.ntmps93
  go_wp2_with (first|((with_reducible refine gLd rfl rfl (by assumption) ?_);refine ldV ?_)|((with_reducible refine gSt rfl (by assumption) ?_);refine stV ?_)|((with_reducible refine gT 1 rfl ?_);(try (refine gate_guard (by rfl) ?_;dsimp only));refine bE 1 #[.int .i64 a0_0,.int .i64 a0_1,.int .i64 a0_2,.int .i64 a0_3,.int .i64 a0_4,.int .i64 a0_5,.int .i64 a0_6,.int .i64 a0_7,.int .i64 a0_8,.int .i64 a0_9,.int .i64 a0_10,.int .i64 a0_11,.int .i64 a0_12,.int .i64 a0_13,.int .i64 a0_14,.int .i64 a0_15,.int .i64 a0_16,.int .i64 a0_17,.int .i64 a0_18,.int .i64 a0_19,.int .i64 a0_20,.int .i64 a0_21,.int .i64 a0_22,.int .i64 a0_23,.int .i64 a0_24,.slice A0_25 l0_25.length c0_25] 66 ?_;intro gb1077 hg w17 hbox hb;have BK1077:=mA hbox;have GW1077:=gbpB HB hg;have GE1077:=gbpB HB hg;replace HB:=spB HB hb;clear hb hbox hg;have hcz18_0:=fun i_=>blk_cell BK1077.out i_;have hfz18_0:=fun i_=>blk_frozen BK1077.out i_))
  go_ret
  exact rZ (pS HB.out)

/-! ### impl_SynSeekerOk: function 33 -/
mutual
def impl_SynSeekerOk.j0 : Nat → Int → Int → Int → Int → Int → Int → Int → Int → Int → Int → Int → Int → Int → Int → Int → Int → Int → Int → Int → Int → Int → Int → Int → Int → Int → List Int → Option (Bool)
 | 0,_,_,_,_,_,_,_,_,_,_,_,_,_,_,_,_,_,_,_,_,_,_,_,_,_,_=>none
 | k+1,x1080000,x1080001,x1080002,x1080003,x1080004,x1080005,x1080006,x1080007,x1080008,x1080009,x1080010,x1080011,x1080012,x1080013,x1080014,x1080015,x1080016,x1080017,x1080018,x1080019,x1080020,x1080021,x1080022,x1080023,x1080024,x1080025=>(impl_in.f x1080000 1 60).bind fun t1081=>(if t1081=true then ((impl_in.f x1080001 1 99999).bind fun t1082=>(if t1082=true then ((impl_in.f x1080002 1 2).bind fun t1083=>(if t1083=true then ((impl_cmdOk.f k x1080003 x1080004 x1080005 x1080006 x1080007 x1080008 x1080009 x1080010 x1080011 x1080012).bind fun t1084=>(if t1084=true then (if (x1080025.length:Int) > 1 then (impl_SynSeekerOk.j1 k true x1080000 x1080001 x1080002 x1080003 x1080004 x1080005 x1080006 x1080007 x1080008 x1080009 x1080010 x1080011 x1080012 x1080013 x1080014 x1080015 x1080016 x1080017 x1080018 x1080019 x1080020 x1080021 x1080022 x1080023 x1080024 x1080025) else (if (x1080025.length:Int)=1 then (if 0<(x1080025.length:Int) then ((impl_isVoter.f (rd x1080025 0)).bind fun t1086=>(impl_SynSeekerOk.j1 k (!t1086) x1080000 x1080001 x1080002 x1080003 x1080004 x1080005 x1080006 x1080007 x1080008 x1080009 x1080010 x1080011 x1080012 x1080013 x1080014 x1080015 x1080016 x1080017 x1080018 x1080019 x1080020 x1080021 x1080022 x1080023 x1080024 x1080025)) else (none)) else (impl_SynSeekerOk.j1 k false x1080000 x1080001 x1080002 x1080003 x1080004 x1080005 x1080006 x1080007 x1080008 x1080009 x1080010 x1080011 x1080012 x1080013 x1080014 x1080015 x1080016 x1080017 x1080018 x1080019 x1080020 x1080021 x1080022 x1080023 x1080024 x1080025))) else (impl_SynSeekerOk.j1 k true x1080000 x1080001 x1080002 x1080003 x1080004 x1080005 x1080006 x1080007 x1080008 x1080009 x1080010 x1080011 x1080012 x1080013 x1080014 x1080015 x1080016 x1080017 x1080018 x1080019 x1080020 x1080021 x1080022 x1080023 x1080024 x1080025))) else (impl_SynSeekerOk.j1 k true x1080000 x1080001 x1080002 x1080003 x1080004 x1080005 x1080006 x1080007 x1080008 x1080009 x1080010 x1080011 x1080012 x1080013 x1080014 x1080015 x1080016 x1080017 x1080018 x1080019 x1080020 x1080021 x1080022 x1080023 x1080024 x1080025))) else (impl_SynSeekerOk.j1 k true x1080000 x1080001 x1080002 x1080003 x1080004 x1080005 x1080006 x1080007 x1080008 x1080009 x1080010 x1080011 x1080012 x1080013 x1080014 x1080015 x1080016 x1080017 x1080018 x1080019 x1080020 x1080021 x1080022 x1080023 x1080024 x1080025))) else (impl_SynSeekerOk.j1 k true x1080000 x1080001 x1080002 x1080003 x1080004 x1080005 x1080006 x1080007 x1080008 x1080009 x1080010 x1080011 x1080012 x1080013 x1080014 x1080015 x1080016 x1080017 x1080018 x1080019 x1080020 x1080021 x1080022 x1080023 x1080024 x1080025))
def impl_SynSeekerOk.j1 : Nat → Bool → Int → Int → Int → Int → Int → Int → Int → Int → Int → Int → Int → Int → Int → Int → Int → Int → Int → Int → Int → Int → Int → Int → Int → Int → Int → List Int → Option (Bool)
 | 0,_,_,_,_,_,_,_,_,_,_,_,_,_,_,_,_,_,_,_,_,_,_,_,_,_,_,_=>none
 | k+1,x46,x1080000,x1080001,x1080002,x1080003,x1080004,x1080005,x1080006,x1080007,x1080008,x1080009,x1080010,x1080011,x1080012,x1080013,x1080014,x1080015,x1080016,x1080017,x1080018,x1080019,x1080020,x1080021,x1080022,x1080023,x1080024,x1080025=>if x46=true then (some false) else (if (x1080013 == 0 && (x1080014 == 0 && ((x1080015 == 0 && (x1080016 == 0 && (x1080017 == 0 && (x1080018 == 0 && (x1080019 == 0 && (x1080020 == 0 && (x1080021 == 0 && (x1080022 == 0 && (x1080023 == 0 && (x1080024 == 0)))))))))))))=true then (some true) else ((impl_paperOk.f k x1080013 x1080014 x1080015 x1080016 x1080017 x1080018 x1080019 x1080020 x1080021 x1080022 x1080023 x1080024).bind fun t1087=>(if t1087=true then (if x1080013=x1080000 then (some (decide (x1080014<x1080001))) else (some false)) else (some false))))
end
def impl_SynSeekerOk.f (k : Nat) (a0_0 : Int) (a0_1 : Int) (a0_2 : Int) (a0_3 : Int) (a0_4 : Int) (a0_5 : Int) (a0_6 : Int) (a0_7 : Int) (a0_8 : Int) (a0_9 : Int) (a0_10 : Int) (a0_11 : Int) (a0_12 : Int) (a0_13 : Int) (a0_14 : Int) (a0_15 : Int) (a0_16 : Int) (a0_17 : Int) (a0_18 : Int) (a0_19 : Int) (a0_20 : Int) (a0_21 : Int) (a0_22 : Int) (a0_23 : Int) (a0_24 : Int) (l0_25 : List Int) : Option (Bool) := (impl_seekerNone.f a0_0 a0_1 a0_2 a0_3 a0_4 a0_5 a0_6 a0_7 a0_8 a0_9 a0_10 a0_11 a0_12 a0_13 a0_14 a0_15 a0_16 a0_17 a0_18 a0_19 a0_20 a0_21 a0_22 a0_23 a0_24 l0_25).bind fun t1080 => (if t1080 = true then (some true) else (impl_SynSeekerOk.j0 k a0_0 a0_1 a0_2 a0_3 a0_4 a0_5 a0_6 a0_7 a0_8 a0_9 a0_10 a0_11 a0_12 a0_13 a0_14 a0_15 a0_16 a0_17 a0_18 a0_19 a0_20 a0_21 a0_22 a0_23 a0_24 l0_25))
theorem impl_SynSeekerOk.mono_l : ∀ k, (∀ y0 y1 y2 y3 y4 y5 y6 y7 y8 y9 y10 y11 y12 y13 y14 y15 y16 y17 y18 y19 y20 y21 y22 y23 y24 y25, LeO (impl_SynSeekerOk.j0 k y0 y1 y2 y3 y4 y5 y6 y7 y8 y9 y10 y11 y12 y13 y14 y15 y16 y17 y18 y19 y20 y21 y22 y23 y24 y25) (impl_SynSeekerOk.j0 (k + 1) y0 y1 y2 y3 y4 y5 y6 y7 y8 y9 y10 y11 y12 y13 y14 y15 y16 y17 y18 y19 y20 y21 y22 y23 y24 y25)) ∧ (∀ y0 y1 y2 y3 y4 y5 y6 y7 y8 y9 y10 y11 y12 y13 y14 y15 y16 y17 y18 y19 y20 y21 y22 y23 y24 y25 y26, LeO (impl_SynSeekerOk.j1 k y0 y1 y2 y3 y4 y5 y6 y7 y8 y9 y10 y11 y12 y13 y14 y15 y16 y17 y18 y19 y20 y21 y22 y23 y24 y25 y26) (impl_SynSeekerOk.j1 (k + 1) y0 y1 y2 y3 y4 y5 y6 y7 y8 y9 y10 y11 y12 y13 y14 y15 y16 y17 y18 y19 y20 y21 y22 y23 y24 y25 y26))
 | 0=>⟨fun _ _ _ _ _ _ _ _ _ _ _ _ _ _ _ _ _ _ _ _ _ _ _ _ _ _ r h=>by simp [impl_SynSeekerOk.j0] at h,fun _ _ _ _ _ _ _ _ _ _ _ _ _ _ _ _ _ _ _ _ _ _ _ _ _ _ _ r h=>by simp [impl_SynSeekerOk.j1] at h⟩
 | k+1=>by
  obtain ⟨ih0,ih1⟩:=impl_SynSeekerOk.mono_l k;refine ⟨?_,?_⟩
  ·intros
   unfold impl_SynSeekerOk.j0
   repeat' first
   | (with_reducible first|apply ih0|apply ih1|apply impl_cmdOk.mono|apply impl_paperOk.mono|exact LeO.refl _|exact LeO.none _|refine LeO.ite ?_ ?_|refine LeO.bind ?_ (fun _=>?_))|exact LeO.none _|refine LeO.ite ?_ ?_|refine LeO.bind ?_ (fun _=>?_)
  ·intros
   unfold impl_SynSeekerOk.j1
   repeat' first
   | (with_reducible first|apply ih0|apply ih1|apply impl_cmdOk.mono|apply impl_paperOk.mono|exact LeO.refl _|exact LeO.none _|refine LeO.ite ?_ ?_|refine LeO.bind ?_ (fun _=>?_))|exact LeO.none _|refine LeO.ite ?_ ?_|refine LeO.bind ?_ (fun _=>?_)
theorem impl_SynSeekerOk.mono : ∀ a0 a1 a2 a3 a4 a5 a6 a7 a8 a9 a10 a11 a12 a13 a14 a15 a16 a17 a18 a19 a20 a21 a22 a23 a24 a25 k, LeO (impl_SynSeekerOk.f k a0 a1 a2 a3 a4 a5 a6 a7 a8 a9 a10 a11 a12 a13 a14 a15 a16 a17 a18 a19 a20 a21 a22 a23 a24 a25) (impl_SynSeekerOk.f (k + 1) a0 a1 a2 a3 a4 a5 a6 a7 a8 a9 a10 a11 a12 a13 a14 a15 a16 a17 a18 a19 a20 a21 a22 a23 a24 a25) := by
 intro a0 a1 a2 a3 a4 a5 a6 a7 a8 a9 a10 a11 a12 a13 a14 a15 a16 a17 a18 a19 a20 a21 a22 a23 a24 a25 k;obtain ⟨ih0,ih1⟩:=impl_SynSeekerOk.mono_l k
 unfold impl_SynSeekerOk.f
 repeat' first
   | (with_reducible first|apply ih0|apply ih1|apply impl_cmdOk.mono|apply impl_paperOk.mono|exact LeO.refl _|exact LeO.none _|refine LeO.ite ?_ ?_|refine LeO.bind ?_ (fun _=>?_))|exact LeO.none _|refine LeO.ite ?_ ?_|refine LeO.bind ?_ (fun _=>?_)
set_option maxHeartbeats 8000000 in
set_option maxRecDepth 100000 in
theorem impl_SynSeekerOk.calls {k : Nat} {a0_0 : Int} {a0_1 : Int} {a0_2 : Int} {a0_3 : Int} {a0_4 : Int} {a0_5 : Int} {a0_6 : Int} {a0_7 : Int} {a0_8 : Int} {a0_9 : Int} {a0_10 : Int} {a0_11 : Int} {a0_12 : Int} {a0_13 : Int} {a0_14 : Int} {a0_15 : Int} {a0_16 : Int} {a0_17 : Int} {a0_18 : Int} {a0_19 : Int} {a0_20 : Int} {a0_21 : Int} {a0_22 : Int} {a0_23 : Int} {a0_24 : Int} {A0_25 : Option Addr} {c0_25 : Nat} {l0_25 : List Int} {r : Bool} {w : World} (hr0_25 : Kd.C (Kd.int .i64) w A0_25 l0_25.length l0_25) (hc0_25 : l0_25.length ≤ c0_25) (h : impl_SynSeekerOk.f k a0_0 a0_1 a0_2 a0_3 a0_4 a0_5 a0_6 a0_7 a0_8 a0_9 a0_10 a0_11 a0_12 a0_13 a0_14 a0_15 a0_16 a0_17 a0_18 a0_19 a0_20 a0_21 a0_22 a0_23 a0_24 l0_25 = some r) :
  Calls Try.prog 33 #[.agg #[.int .i64 a0_0,.int .i64 a0_1,.int .i64 a0_2,.int .i64 a0_3,.int .i64 a0_4,.int .i64 a0_5,.int .i64 a0_6,.int .i64 a0_7,.int .i64 a0_8,.int .i64 a0_9,.int .i64 a0_10,.int .i64 a0_11,.int .i64 a0_12,.int .i64 a0_13,.int .i64 a0_14,.int .i64 a0_15,.int .i64 a0_16,.int .i64 a0_17,.int .i64 a0_18,.int .i64 a0_19,.int .i64 a0_20,.int .i64 a0_21,.int .i64 a0_22,.int .i64 a0_23,.int .i64 a0_24,.slice A0_25 l0_25.length c0_25]] w fun e w'=>e=.returned (.bool r)∧Below w.heap.size w w':=by
 have hu66:=Try.underlying66;have hu24:=Try.underlying24;have hu64:=Try.underlying64;have HR0_25:=mA hr0_25;have HC0_25:=mA hc0_25;clear hr0_25 hc0_25;have HB:=mA (Below.refl w.heap.size w);have H:((impl_seekerNone.f a0_0 a0_1 a0_2 a0_3 a0_4 a0_5 a0_6 a0_7 a0_8 a0_9 a0_10 a0_11 a0_12 a0_13 a0_14 a0_15 a0_16 a0_17 a0_18 a0_19 a0_20 a0_21 a0_22 a0_23 a0_24 l0_25).bind fun t1080=>(if t1080=true then (some true) else (impl_SynSeekerOk.j0 k a0_0 a0_1 a0_2 a0_3 a0_4 a0_5 a0_6 a0_7 a0_8 a0_9 a0_10 a0_11 a0_12 a0_13 a0_14 a0_15 a0_16 a0_17 a0_18 a0_19 a0_20 a0_21 a0_22 a0_23 a0_24 l0_25)))=some r:=h;clear h;obtain ⟨t1080,A2,H⟩:=bI H;(try dsimp only at H);have HC3:=mA H;clear H
 go_enter Try.func33,Try.ntmps33
 go_upto_if 4 with (first|((with_reducible refine gLd rfl rfl (by assumption) ?_);refine ldV ?_)|((with_reducible refine gSt rfl (by assumption) ?_);refine stV ?_)|((with_reducible refine gT 1 rfl ?_);(try (refine gate_guard (by rfl) ?_;dsimp only));refine bE 1 #[.int .i64 a0_0,.int .i64 a0_1,.int .i64 a0_2,.int .i64 a0_3,.int .i64 a0_4,.int .i64 a0_5,.int .i64 a0_6,.int .i64 a0_7,.int .i64 a0_8,.int .i64 a0_9,.int .i64 a0_10,.int .i64 a0_11,.int .i64 a0_12,.int .i64 a0_13,.int .i64 a0_14,.int .i64 a0_15,.int .i64 a0_16,.int .i64 a0_17,.int .i64 a0_18,.int .i64 a0_19,.int .i64 a0_20,.int .i64 a0_21,.int .i64 a0_22,.int .i64 a0_23,.int .i64 a0_24,.slice A0_25 l0_25.length c0_25] 66 ?_;intro gb1079 hg w4 hbox hb;have BK1079:=mA hbox;have GW1079:=gbpB HB hg;have GE1079:=gbpB HB hg;replace HB:=spB HB hb;clear hb hbox hg;have hcz5_0:=fun i_=>blk_cell BK1079.out i_;have hfz5_0:=fun i_=>blk_frozen BK1079.out i_)|((with_reducible refine gT 4 rfl ?_);refine gC (some 4) Try.func93 (impl_seekerNone.calls (cB HR0_25 HB) HC0_25.out A2.out) ?_;rintro e w6 ⟨rfl,hb⟩;refine ⟨_,rfl,?_⟩;replace BK1079:=bK BK1079 hb;replace HB:=spS HB hb;(try clear hb)))
 (try simp only [Act.put,List.setIfInBounds_toArray,List.set_cons_zero,List.set_cons_succ])
 go_cut [] (fun wc=>∃ (kq:Nat),Aside0 (impl_SynSeekerOk.j0 kq a0_0 a0_1 a0_2 a0_3 a0_4 a0_5 a0_6 a0_7 a0_8 a0_9 a0_10 a0_11 a0_12 a0_13 a0_14 a0_15 a0_16 a0_17 a0_18 a0_19 a0_20 a0_21 a0_22 a0_23 a0_24 l0_25=some r)∧Aside0 (kq≤k)∧Aside0 (wc.heap[gb1079]?=some (.cells #[.int .i64 a0_0,.int .i64 a0_1,.int .i64 a0_2,.int .i64 a0_3,.int .i64 a0_4,.int .i64 a0_5,.int .i64 a0_6,.int .i64 a0_7,.int .i64 a0_8,.int .i64 a0_9,.int .i64 a0_10,.int .i64 a0_11,.int .i64 a0_12,.int .i64 a0_13,.int .i64 a0_14,.int .i64 a0_15,.int .i64 a0_16,.int .i64 a0_17,.int .i64 a0_18,.int .i64 a0_19,.int .i64 a0_20,.int .i64 a0_21,.int .i64 a0_22,.int .i64 a0_23,.int .i64 a0_24,(.slice A0_25 l0_25.length c0_25)] 66 (0,0)))∧Aside0 (Below w.heap.size w wc))
 case first =>
  have H:=HC3.out;clear HC3
  by_cases c7:t1080=true
  ·subst c7;rw [if_pos rfl] at H;obtain rfl:=Option.some.inj H
   go_wp2_with (first|((with_reducible refine gLd rfl rfl (by assumption) ?_);refine ldV ?_)|((with_reducible refine gSt rfl (by assumption) ?_);refine stV ?_))
   go_ret
   exact rZ (pS HB.out)
  ·replace c7:=Bool.eq_false_iff.mpr c7;subst c7
   rw [if_neg nFT] at H
   have H':=mA H;clear H
   go_wp2_with (first|((with_reducible refine gLd rfl rfl (by assumption) ?_);refine ldV ?_)|((with_reducible refine gSt rfl (by assumption) ?_);refine stV ?_))
   go_meet
   case rel=>exact ⟨_,H',⟨by first|omega|exact Nat.le_refl _⟩,⟨pK BK1079.out⟩,⟨pS HB.out⟩⟩
 case rest =>
  clear HC3
  (try clear hcz5_0);(try clear hfz5_0)
  obtain ⟨kq,HA,HJ2,BK1079,HB⟩:=hcut
  cases kq with
  | zero=>exact absurd HA.out (by simp [impl_SynSeekerOk.j0])
  | succ kj2 =>
   have H:=HA.out;clear HA;simp only [impl_SynSeekerOk.j0] at H;have HC8:=mA H;clear H
   go_upto_region 3 with (fail)
   go_cut [46] (fun v46 wc=>∃ (kq:Nat) (x46_7:Bool),v46=.bool x46_7∧Aside0 (impl_SynSeekerOk.j1 kq x46_7 a0_0 a0_1 a0_2 a0_3 a0_4 a0_5 a0_6 a0_7 a0_8 a0_9 a0_10 a0_11 a0_12 a0_13 a0_14 a0_15 a0_16 a0_17 a0_18 a0_19 a0_20 a0_21 a0_22 a0_23 a0_24 l0_25=some r)∧Aside0 (kq≤kj2)∧Aside0 (wc.heap[gb1079]?=some (.cells #[.int .i64 a0_0,.int .i64 a0_1,.int .i64 a0_2,.int .i64 a0_3,.int .i64 a0_4,.int .i64 a0_5,.int .i64 a0_6,.int .i64 a0_7,.int .i64 a0_8,.int .i64 a0_9,.int .i64 a0_10,.int .i64 a0_11,.int .i64 a0_12,.int .i64 a0_13,.int .i64 a0_14,.int .i64 a0_15,.int .i64 a0_16,.int .i64 a0_17,.int .i64 a0_18,.int .i64 a0_19,.int .i64 a0_20,.int .i64 a0_21,.int .i64 a0_22,.int .i64 a0_23,.int .i64 a0_24,(.slice A0_25 l0_25.length c0_25)] 66 (0,0)))∧Aside0 (Below w.heap.size w wc))
   case first =>
    have H:=HC8.out;clear HC8;obtain ⟨t1081,A9,H⟩:=bI H;(try dsimp only at H)
    by_cases c10:t1081=true
    ·subst c10;rw [if_pos rfl] at H;obtain ⟨t1082,A11,H⟩:=bI H;(try dsimp only at H)
     by_cases c12:t1082=true
     ·subst c12;rw [if_pos rfl] at H;obtain ⟨t1083,A13,H⟩:=bI H;(try dsimp only at H)
      by_cases c14:t1083=true
      ·subst c14;rw [if_pos rfl] at H;obtain ⟨t1084,A15,H⟩:=bI H;(try dsimp only at H)
       by_cases c16:t1084=true
       ·subst c16;rw [if_pos rfl] at H
        by_cases c17:(l0_25.length:Int) > 1
        ·rw [if_pos c17] at H;have c17b0:decide (1<(l0_25.length:Int))=true:=decide_eq_true c17
         have c17b1:decide (1<l0_25.length)=true:=decide_eq_true (by omega)
         clear c17
         (first|rw [c17b0]|(simp only [i64_w,i32_w];rw [c17b0])|skip)
         have H':=mA H;clear H;have hcz18_0:=fun i_=>blk_cell BK1079.out i_;have hfz18_0:=fun i_=>blk_frozen BK1079.out i_
         go_wp2_with (first|((with_reducible refine gLd rfl rfl (by assumption) ?_);refine ldV ?_)|((with_reducible refine gSt rfl (by assumption) ?_);refine stV ?_)|((with_reducible refine gT 7 rfl ?_);refine gC (some 7) Try.func74 (impl_in.calls A9.out) ?_;rintro e w' ⟨rfl,⟨nd,rfl⟩⟩;refine ⟨_,rfl,?_⟩)|(go_at_call 74;(with_reducible refine (impl_in.calls A11.out).mono ?_);rintro e w' ⟨rfl,⟨nd,rfl⟩⟩)|(go_at_call 74;(with_reducible refine (impl_in.calls A13.out).mono ?_);rintro e w' ⟨rfl,⟨nd,rfl⟩⟩)|(go_at_call 76;(with_reducible refine (impl_cmdOk.calls A15.out).mono ?_);rintro e w19 ⟨rfl,hb⟩;replace BK1079:=bK BK1079 hb;replace HB:=spS HB hb;(try clear hb);have hcz20_0:=fun i_=>blk_cell BK1079.out i_;have hfz20_0:=fun i_=>blk_frozen BK1079.out i_))
         go_meet
         case rel=>exact ⟨_,(true),bZ,H',⟨by have:=HJ2.out;first|omega|exact Nat.le_refl _⟩,⟨pK BK1079.out⟩,⟨pS HB.out⟩⟩
        ·rw [if_neg c17] at H;have c17b0:decide (1<(l0_25.length:Int))=false:=decide_eq_false c17
         have c17b1:decide (1<l0_25.length)=false:=decide_eq_false (by omega)
         clear c17
         (first|rw [c17b0]|(simp only [i64_w,i32_w];rw [c17b0])|skip)
         by_cases c21:(l0_25.length:Int)=1
         ·rw [if_pos c21] at H;obtain ⟨c21b0,c21b1⟩:=eqB c21;clear c21
          by_cases c22:0<(l0_25.length:Int)
          ·rw [if_pos c22] at H;have c22b0:decide (0<(l0_25.length:Int))=true:=decide_eq_true c22
           have c22b1:decide (0<l0_25.length)=true:=decide_eq_true (by omega)
           clear c22;obtain ⟨t1086,A23,H⟩:=bI H;(try dsimp only at H);have H':=mA H;clear H;have hcz24_0:=fun i_=>blk_cell BK1079.out i_;have hfz24_0:=fun i_=>blk_frozen BK1079.out i_
           go_wp2_with (first|((with_reducible refine gLd rfl rfl (by assumption) ?_);refine ldV ?_)|((with_reducible refine gSt rfl (by assumption) ?_);refine stV ?_)|((with_reducible refine gT 7 rfl ?_);refine gC (some 7) Try.func74 (impl_in.calls A9.out) ?_;rintro e w' ⟨rfl,⟨nd,rfl⟩⟩;refine ⟨_,rfl,?_⟩)|(go_at_call 74;(with_reducible refine (impl_in.calls A11.out).mono ?_);rintro e w' ⟨rfl,⟨nd,rfl⟩⟩)|(go_at_call 74;(with_reducible refine (impl_in.calls A13.out).mono ?_);rintro e w' ⟨rfl,⟨nd,rfl⟩⟩)|(go_at_call 76;(with_reducible refine (impl_cmdOk.calls A15.out).mono ?_);rintro e w25 ⟨rfl,hb⟩;replace BK1079:=bK BK1079 hb;replace HB:=spS HB hb;(try clear hb);have hcz26_0:=fun i_=>blk_cell BK1079.out i_;have hfz26_0:=fun i_=>blk_frozen BK1079.out i_;have p1085:0≤(0:Int):=(by omega);have q1085:0<(l0_25.length:Int):=of_decide_eq_true bA;obtain ⟨ad1085,e1085,hx1085_0⟩:=Kd.at_int HR0_25.out 0 p1085 q1085;cases e1085;have qi1085:(0<l0_25.length)=True:=eq_true (by omega);(try rw [show ((0:Int)).toNat=0 from rfl] at hx1085_0);(try rw [Addr.add_zero'] at hx1085_0);replace hx1085_0:=hC HB hx1085_0;replace p1085:=eq_true p1085;replace q1085:=eq_true q1085)|(go_at_call 94;(with_reducible refine (impl_isVoter.calls A23.out).mono ?_);rintro e w' ⟨rfl,⟨nd,rfl⟩⟩))
           go_meet
           case rel=>exact ⟨_,(!t1086),bZ,H',⟨by have:=HJ2.out;first|omega|exact Nat.le_refl _⟩,⟨pK BK1079.out⟩,⟨pS HB.out⟩⟩
          ·rw [if_neg c22] at H
           exact absurd H (by simp)
         ·rw [if_neg c21] at H;have c21b0:((l0_25.length:Int) == 1)=false:=beq_eq_false_iff_ne.mpr c21;have c21b1:((l0_25.length:Int) != 1)=true:=bne_iff_ne.mpr c21;have H':=mA H;clear H;have hcz27_0:=fun i_=>blk_cell BK1079.out i_;have hfz27_0:=fun i_=>blk_frozen BK1079.out i_
          go_wp2_with (first|((with_reducible refine gLd rfl rfl (by assumption) ?_);refine ldV ?_)|((with_reducible refine gSt rfl (by assumption) ?_);refine stV ?_)|((with_reducible refine gT 7 rfl ?_);refine gC (some 7) Try.func74 (impl_in.calls A9.out) ?_;rintro e w' ⟨rfl,⟨nd,rfl⟩⟩;refine ⟨_,rfl,?_⟩)|(go_at_call 74;(with_reducible refine (impl_in.calls A11.out).mono ?_);rintro e w' ⟨rfl,⟨nd,rfl⟩⟩)|(go_at_call 74;(with_reducible refine (impl_in.calls A13.out).mono ?_);rintro e w' ⟨rfl,⟨nd,rfl⟩⟩)|(go_at_call 76;(with_reducible refine (impl_cmdOk.calls A15.out).mono ?_);rintro e w28 ⟨rfl,hb⟩;replace BK1079:=bK BK1079 hb;replace HB:=spS HB hb;(try clear hb);have hcz29_0:=fun i_=>blk_cell BK1079.out i_;have hfz29_0:=fun i_=>blk_frozen BK1079.out i_))
          go_meet
          case rel=>exact ⟨_,(false),bZ,H',⟨by have:=HJ2.out;first|omega|exact Nat.le_refl _⟩,⟨pK BK1079.out⟩,⟨pS HB.out⟩⟩
       ·replace c16:=Bool.eq_false_iff.mpr c16;subst c16
        rw [if_neg nFT] at H
        have H':=mA H;clear H;have hcz30_0:=fun i_=>blk_cell BK1079.out i_;have hfz30_0:=fun i_=>blk_frozen BK1079.out i_
        go_wp2_with (first|((with_reducible refine gLd rfl rfl (by assumption) ?_);refine ldV ?_)|((with_reducible refine gSt rfl (by assumption) ?_);refine stV ?_)|((with_reducible refine gT 7 rfl ?_);refine gC (some 7) Try.func74 (impl_in.calls A9.out) ?_;rintro e w' ⟨rfl,⟨nd,rfl⟩⟩;refine ⟨_,rfl,?_⟩)|(go_at_call 74;(with_reducible refine (impl_in.calls A11.out).mono ?_);rintro e w' ⟨rfl,⟨nd,rfl⟩⟩)|(go_at_call 74;(with_reducible refine (impl_in.calls A13.out).mono ?_);rintro e w' ⟨rfl,⟨nd,rfl⟩⟩)|(go_at_call 76;(with_reducible refine (impl_cmdOk.calls A15.out).mono ?_);rintro e w31 ⟨rfl,hb⟩;replace BK1079:=bK BK1079 hb;replace HB:=spS HB hb;(try clear hb)))
        go_meet
        case rel=>exact ⟨_,(true),bZ,H',⟨by have:=HJ2.out;first|omega|exact Nat.le_refl _⟩,⟨pK BK1079.out⟩,⟨pS HB.out⟩⟩
      ·replace c14:=Bool.eq_false_iff.mpr c14;subst c14
       rw [if_neg nFT] at H
       have H':=mA H;clear H;have hcz32_0:=fun i_=>blk_cell BK1079.out i_;have hfz32_0:=fun i_=>blk_frozen BK1079.out i_
       go_wp2_with (first|((with_reducible refine gLd rfl rfl (by assumption) ?_);refine ldV ?_)|((with_reducible refine gSt rfl (by assumption) ?_);refine stV ?_)|((with_reducible refine gT 7 rfl ?_);refine gC (some 7) Try.func74 (impl_in.calls A9.out) ?_;rintro e w' ⟨rfl,⟨nd,rfl⟩⟩;refine ⟨_,rfl,?_⟩)|(go_at_call 74;(with_reducible refine (impl_in.calls A11.out).mono ?_);rintro e w' ⟨rfl,⟨nd,rfl⟩⟩)|(go_at_call 74;(with_reducible refine (impl_in.calls A13.out).mono ?_);rintro e w' ⟨rfl,⟨nd,rfl⟩⟩))
       go_meet
       case rel=>exact ⟨_,(true),bZ,H',⟨by have:=HJ2.out;first|omega|exact Nat.le_refl _⟩,⟨pK BK1079.out⟩,⟨pS HB.out⟩⟩
     ·replace c12:=Bool.eq_false_iff.mpr c12;subst c12
      rw [if_neg nFT] at H
      have H':=mA H;clear H;have hcz33_0:=fun i_=>blk_cell BK1079.out i_;have hfz33_0:=fun i_=>blk_frozen BK1079.out i_
      go_wp2_with (first|((with_reducible refine gLd rfl rfl (by assumption) ?_);refine ldV ?_)|((with_reducible refine gSt rfl (by assumption) ?_);refine stV ?_)|((with_reducible refine gT 7 rfl ?_);refine gC (some 7) Try.func74 (impl_in.calls A9.out) ?_;rintro e w' ⟨rfl,⟨nd,rfl⟩⟩;refine ⟨_,rfl,?_⟩)|(go_at_call 74;(with_reducible refine (impl_in.calls A11.out).mono ?_);rintro e w' ⟨rfl,⟨nd,rfl⟩⟩))
      go_meet
      case rel=>exact ⟨_,(true),bZ,H',⟨by have:=HJ2.out;first|omega|exact Nat.le_refl _⟩,⟨pK BK1079.out⟩,⟨pS HB.out⟩⟩
    ·replace c10:=Bool.eq_false_iff.mpr c10;subst c10
     rw [if_neg nFT] at H
     have H':=mA H;clear H;have hcz34_0:=fun i_=>blk_cell BK1079.out i_;have hfz34_0:=fun i_=>blk_frozen BK1079.out i_
     go_wp2_with (first|((with_reducible refine gLd rfl rfl (by assumption) ?_);refine ldV ?_)|((with_reducible refine gSt rfl (by assumption) ?_);refine stV ?_)|((with_reducible refine gT 7 rfl ?_);refine gC (some 7) Try.func74 (impl_in.calls A9.out) ?_;rintro e w' ⟨rfl,⟨nd,rfl⟩⟩;refine ⟨_,rfl,?_⟩))
     go_meet
     case rel=>exact ⟨_,(true),bZ,H',⟨by have:=HJ2.out;first|omega|exact Nat.le_refl _⟩,⟨pK BK1079.out⟩,⟨pS HB.out⟩⟩
   case rest =>
    clear HC8
    (try clear hcz5_0);(try clear hfz5_0)
    obtain ⟨kq,x46_7,rfl,HA,HJ7,BK1079,HB⟩:=hcut
    cases kq with
    | zero=>exact absurd HA.out (by simp [impl_SynSeekerOk.j1])
    | succ kj7 =>
     have H:=HA.out;clear HA;simp only [impl_SynSeekerOk.j1] at H
     by_cases c35:x46_7=true
     ·subst c35;rw [if_pos rfl] at H;obtain rfl:=Option.some.inj H
      go_wp2_with (first|((with_reducible refine gLd rfl rfl (by assumption) ?_);refine ldV ?_)|((with_reducible refine gSt rfl (by assumption) ?_);refine stV ?_))
      go_ret
      exact rZ (pS HB.out)
     ·replace c35:=Bool.eq_false_iff.mpr c35;subst c35
      rw [if_neg nFT] at H
      by_cases c36:(a0_13 == 0 && (a0_14 == 0 && ((a0_15 == 0 && (a0_16 == 0 && (a0_17 == 0 && (a0_18 == 0 && (a0_19 == 0 && (a0_20 == 0 && (a0_21 == 0 && (a0_22 == 0 && (a0_23 == 0 && (a0_24 == 0)))))))))))))=true
      ·rw [if_pos c36] at H;have c36b0:(a0_13 == 0 && (a0_14 == 0 && ((a0_15 == 0 && (a0_16 == 0 && (a0_17 == 0 && (a0_18 == 0 && (a0_19 == 0 && (a0_20 == 0 && (a0_21 == 0 && (a0_22 == 0 && (a0_23 == 0 && (a0_24 == 0)))))))))))))=true:=c36
       (try (have c36b1:decide (a0_13=0 && (a0_14 == 0 && ((a0_15 == 0 && (a0_16 == 0 && (a0_17 == 0 && (a0_18 == 0 && (a0_19 == 0 && (a0_20 == 0 && (a0_21 == 0 && (a0_22 == 0 && (a0_23 == 0 && (a0_24 == 0)))))))))))))=true:=by simpa using c36))
       (try (have c36b2:(a0_13 == 0 && (a0_14 == 0 && ((a0_15 == 0 && (a0_16 == 0 && (a0_17 == 0 && (a0_18 == 0 && (a0_19 == 0 && (a0_20 == 0 && (a0_21 == 0 && (a0_22 == 0 && (a0_23 == 0 && (a0_24 == 0)))))))))))))=true:=by simpa using c36))
       clear c36;obtain rfl:=Option.some.inj H;have hcz37_0:=fun i_=>blk_cell BK1079.out i_;have hfz37_0:=fun i_=>blk_frozen BK1079.out i_
       go_wp2_with (first|((with_reducible refine gLd rfl rfl (by assumption) ?_);refine ldV ?_)|((with_reducible refine gSt rfl (by assumption) ?_);refine stV ?_))
       go_ret
       exact rZ (pS HB.out)
      ·rw [if_neg c36] at H
       have c36b0:(a0_13 == 0 && (a0_14 == 0 && ((a0_15 == 0 && (a0_16 == 0 && (a0_17 == 0 && (a0_18 == 0 && (a0_19 == 0 && (a0_20 == 0 && (a0_21 == 0 && (a0_22 == 0 && (a0_23 == 0 && (a0_24 == 0)))))))))))))=false:=by simpa using c36
       (try (have c36b1:decide (a0_13=0 && (a0_14 == 0 && ((a0_15 == 0 && (a0_16 == 0 && (a0_17 == 0 && (a0_18 == 0 && (a0_19 == 0 && (a0_20 == 0 && (a0_21 == 0 && (a0_22 == 0 && (a0_23 == 0 && (a0_24 == 0)))))))))))))=false:=by simpa using c36))
       (try (have c36b2:(a0_13 == 0 && (a0_14 == 0 && ((a0_15 == 0 && (a0_16 == 0 && (a0_17 == 0 && (a0_18 == 0 && (a0_19 == 0 && (a0_20 == 0 && (a0_21 == 0 && (a0_22 == 0 && (a0_23 == 0 && (a0_24 == 0)))))))))))))=false:=by simpa using c36))
       (try (have c36b3:¬ (a0_13=0 && (a0_14 == 0 && ((a0_15 == 0 && (a0_16 == 0 && (a0_17 == 0 && (a0_18 == 0 && (a0_19 == 0 && (a0_20 == 0 && (a0_21 == 0 && (a0_22 == 0 && (a0_23 == 0 && (a0_24 == 0))))))))))))):=by simpa using c36))
       clear c36;obtain ⟨t1087,A38,H⟩:=bI H;(try dsimp only at H)
       by_cases c39:t1087=true
       ·subst c39;rw [if_pos rfl] at H
        by_cases c40:a0_13=a0_0
        ·rw [if_pos c40] at H;obtain ⟨c40b0,c40b1⟩:=eqB c40;clear c40;obtain rfl:=Option.some.inj H;have hcz41_0:=fun i_=>blk_cell BK1079.out i_;have hfz41_0:=fun i_=>blk_frozen BK1079.out i_
         go_wp2_with (first|((with_reducible refine gLd rfl rfl (by assumption) ?_);refine ldV ?_)|((with_reducible refine gSt rfl (by assumption) ?_);refine stV ?_)|(go_at_call 88;(with_reducible refine (impl_paperOk.calls A38.out).mono ?_);rintro e w42 ⟨rfl,hb⟩;replace BK1079:=bK BK1079 hb;replace HB:=spS HB hb;(try clear hb);have hcz43_0:=fun i_=>blk_cell BK1079.out i_;have hfz43_0:=fun i_=>blk_frozen BK1079.out i_))
         go_ret
         exact rZ (pS HB.out)
        ·rw [if_neg c40] at H;have c40b0:(a0_13 == a0_0)=false:=beq_eq_false_iff_ne.mpr c40;have c40b1:(a0_13 != a0_0)=true:=bne_iff_ne.mpr c40;obtain rfl:=Option.some.inj H;have hcz44_0:=fun i_=>blk_cell BK1079.out i_;have hfz44_0:=fun i_=>blk_frozen BK1079.out i_
         go_wp2_with (first|((with_reducible refine gLd rfl rfl (by assumption) ?_);refine ldV ?_)|((with_reducible refine gSt rfl (by assumption) ?_);refine stV ?_)|(go_at_call 88;(with_reducible refine (impl_paperOk.calls A38.out).mono ?_);rintro e w45 ⟨rfl,hb⟩;replace BK1079:=bK BK1079 hb;replace HB:=spS HB hb;(try clear hb);have hcz46_0:=fun i_=>blk_cell BK1079.out i_;have hfz46_0:=fun i_=>blk_frozen BK1079.out i_))
         go_ret
         exact rZ (pS HB.out)
       ·replace c39:=Bool.eq_false_iff.mpr c39;subst c39
        rw [if_neg nFT] at H
        obtain rfl:=Option.some.inj H;have hcz47_0:=fun i_=>blk_cell BK1079.out i_;have hfz47_0:=fun i_=>blk_frozen BK1079.out i_
        go_wp2_with (first|((with_reducible refine gLd rfl rfl (by assumption) ?_);refine ldV ?_)|((with_reducible refine gSt rfl (by assumption) ?_);refine stV ?_)|(go_at_call 88;(with_reducible refine (impl_paperOk.calls A38.out).mono ?_);rintro e w48 ⟨rfl,hb⟩;replace BK1079:=bK BK1079 hb;replace HB:=spS HB hb;(try clear hb)))
        go_ret
        exact rZ (pS HB.out)

end Go.Proofs.Ytoieojmfkkidnaa.P
