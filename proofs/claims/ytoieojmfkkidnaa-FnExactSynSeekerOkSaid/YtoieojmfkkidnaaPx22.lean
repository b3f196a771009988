-- printed by pprint.py (this session's program over the kit's printer) out of the translation. Lean checks it.
import Derived.Test.YtoieojmfkkidnaaPx0
import Derived.Test.YtoieojmfkkidnaaPx9
import Derived.Test.YtoieojmfkkidnaaPx12
namespace Go.Proofs.Ytoieojmfkkidnaa.P
open Go.RowKit Go.Proofs.YtoieojmfkkidnaaX Go.Proofs.YtoieojmfkkidnaaW.PrintWords Go.Proofs.YtoieojmfkkidnaaW.PrintLast Go.Proofs.YtoieojmfkkidnaaW.PrintMore
attribute [local go_sem] max2_int min2_int max_two min_two max_three min_three max_four min_four   -- for this text's walks alone
set_option linter.unusedVariables false
set_option linter.unusedSimpArgs false

/-! ### laws_eqIntS: function 96 -/
def laws_eqIntS.l0 : Nat → List Int → List Int → Int → Option (Bool)
 | 0,_,_,_=>none
 | k+1,x0,x1,x5=>if x5<(x0.length:Int) then (if 0≤x5 then (if x5<(x1.length:Int) then (if (rd x0 x5)=(rd x1 x5) then (laws_eqIntS.l0 k x0 x1 (wrap64 (x5+1))) else (some false)) else (none)) else (none)) else (some true)
def laws_eqIntS.f (k : Nat) (l0 : List Int) (l1 : List Int) : Option (Bool) := if (l0.length : Int) = (l1.length : Int) then (laws_eqIntS.l0 k l0 l1 0) else (some false)
theorem laws_eqIntS.mono_l : ∀ k, (∀ y0 y1 y2, LeO (laws_eqIntS.l0 k y0 y1 y2) (laws_eqIntS.l0 (k + 1) y0 y1 y2))
 | 0=>fun _ _ _ r h=>by simp [laws_eqIntS.l0] at h
 | k+1=>by
  have ih0:=laws_eqIntS.mono_l k
  ·intros
   unfold laws_eqIntS.l0
   repeat' first
   | (with_reducible first|apply ih0|exact LeO.refl _|exact LeO.none _|refine LeO.ite ?_ ?_|refine LeO.bind ?_ (fun _=>?_))|exact LeO.none _|refine LeO.ite ?_ ?_|refine LeO.bind ?_ (fun _=>?_)
theorem laws_eqIntS.mono : ∀ a0 a1 k, LeO (laws_eqIntS.f k a0 a1) (laws_eqIntS.f (k + 1) a0 a1) := by
 intro a0 a1 k;have ih0:=laws_eqIntS.mono_l k
 unfold laws_eqIntS.f
 repeat' first
   | (with_reducible first|apply ih0|exact LeO.refl _|exact LeO.none _|refine LeO.ite ?_ ?_|refine LeO.bind ?_ (fun _=>?_))|exact LeO.none _|refine LeO.ite ?_ ?_|refine LeO.bind ?_ (fun _=>?_)
set_option maxHeartbeats 8000000 in
set_option maxRecDepth 100000 in
theorem laws_eqIntS.calls {k : Nat} {A0 : Option Addr} {c0 : Nat} {l0 : List Int} {A1 : Option Addr} {c1 : Nat} {l1 : List Int} {r : Bool} {w : World} (hr0 : Kd.C (Kd.int .i64) w A0 l0.length l0) (hc0 : l0.length ≤ c0) (hr1 : Kd.C (Kd.int .i64) w A1 l1.length l1) (hc1 : l1.length ≤ c1) (h : laws_eqIntS.f k l0 l1 = some r) :
  Calls Try.prog 96 #[.slice A0 l0.length c0,.slice A1 l1.length c1] w fun e w'=>e=.returned (.bool r)∧Drawn0 w w':=by
 have HR0:=mA hr0;have HC0:=mA hc0;clear hr0 hc0;have HR1:=mA hr1;have HC1:=mA hc1;clear hr1 hc1;have H:(if (l0.length:Int)=(l1.length:Int) then (laws_eqIntS.l0 k l0 l1 0) else (some false))=some r:=h;clear h
 by_cases c3:(l0.length:Int)=(l1.length:Int)
 ·rw [if_pos c3] at H;have c3b0:((l0.length:Int) == (l1.length:Int))=true:=beq_iff_eq.mpr c3;have c3b1:((l0.length:Int) != (l1.length:Int))=false:=bne_eq_false_iff_eq.mpr c3
  have c3b2:(l0.length == l1.length)=true:=by first|simpa using c3|(simp at c3 ⊢;omega)
  clear c3;have H':=mA H;clear H
  go_enter Try.func96,Try.ntmps96
  go_wp2
  repeat (go_quiet (fail);try go_wp2)
  go_loopg [5] k (fun kq v5 w'=>∃ (x5_1:Int),v5=.int .i64 x5_1∧Aside0 (laws_eqIntS.l0 kq l0 l1 x5_1=some r)∧Aside0 (kq≤k)∧Drawn0 w w')
  case atStart=>exact ⟨(0),bZ,H',⟨Nat.le_refl _⟩,by repeat (first|exact Drawn0.refl _|apply Drawn0.step)⟩
  case round =>
   clear H'
   (try clear c3);(try clear c3b0);(try clear c3b1);(try clear c3b2)
   obtain ⟨x5_1,rfl,HA,HK1,⟨m1,rfl⟩⟩:=hrel
   cases gk with
   | zero=>exact absurd HA.out (by simp [laws_eqIntS.l0])
   | succ k1 =>
    have H:=HA.out;clear HA;simp only [laws_eqIntS.l0] at H
    by_cases c4:x5_1<(l0.length:Int)
    ·rw [if_pos c4] at H;have c4b0:decide (x5_1<(l0.length:Int))=true:=decide_eq_true c4;clear c4
     by_cases c5:0≤x5_1
     ·rw [if_pos c5] at H;have c5b0:decide (0≤x5_1)=true:=decide_eq_true c5;clear c5
      by_cases c6:x5_1<(l1.length:Int)
      ·rw [if_pos c6] at H;have c6b0:decide (x5_1<(l1.length:Int))=true:=decide_eq_true c6;clear c6
       by_cases c7:(rd l0 x5_1)=(rd l1 x5_1)
       ·rw [if_pos c7] at H;obtain ⟨c7b0,c7b1⟩:=eqB c7;clear c7;have H':=mA H;clear H;have p1088:0≤(x5_1:Int):=of_decide_eq_true bA;have q1088:x5_1<(l0.length:Int):=of_decide_eq_true bA;obtain ⟨ad1088,e1088,hx1088_0⟩:=Kd.at_int HR0.out x5_1 p1088 q1088;cases e1088;replace p1088:=eq_true p1088;replace q1088:=eq_true q1088;have p1089:0≤(x5_1:Int):=of_decide_eq_true bA;have q1089:x5_1<(l1.length:Int):=of_decide_eq_true bA;obtain ⟨ad1089,e1089,hx1089_0⟩:=Kd.at_int HR1.out x5_1 p1089 q1089;cases e1089;replace p1089:=eq_true p1089;replace q1089:=eq_true q1089
        go_wp2
        repeat (go_quiet (fail);try go_wp2)
        go_roundg k1
        case measure=>have:=HK1.out;omega
        case rel=>exact ⟨(wrap64 (x5_1+1)),bZ,H',⟨by have:=HK1.out;omega⟩,by repeat (first|exact Drawn0.refl _|apply Drawn0.step)⟩
       ·rw [if_neg c7] at H;have c7b0:((rd l0 x5_1) == (rd l1 x5_1))=false:=beq_eq_false_iff_ne.mpr c7;have c7b1:((rd l0 x5_1) != (rd l1 x5_1))=true:=bne_iff_ne.mpr c7;obtain rfl:=Option.some.inj H;have p1088:0≤(x5_1:Int):=of_decide_eq_true bA;have q1088:x5_1<(l0.length:Int):=of_decide_eq_true bA;obtain ⟨ad1088,e1088,hx1088_0⟩:=Kd.at_int HR0.out x5_1 p1088 q1088;cases e1088;replace p1088:=eq_true p1088;replace q1088:=eq_true q1088;have p1089:0≤(x5_1:Int):=of_decide_eq_true bA;have q1089:x5_1<(l1.length:Int):=of_decide_eq_true bA;obtain ⟨ad1089,e1089,hx1089_0⟩:=Kd.at_int HR1.out x5_1 p1089 q1089;cases e1089;replace p1089:=eq_true p1089;replace q1089:=eq_true q1089
        go_wp2
        repeat (go_quiet (fail);try go_wp2)
        go_ret
        exact ⟨by first|rfl|(simp;done)|(simp [*];done),by repeat (first|exact Drawn0.refl _|apply Drawn0.step)⟩
      ·rw [if_neg c6] at H
       exact absurd H (by simp)
     ·rw [if_neg c5] at H
      exact absurd H (by simp)
    ·rw [if_neg c4] at H;have c4b0:decide (x5_1<(l0.length:Int))=false:=decide_eq_false c4;clear c4;obtain rfl:=Option.some.inj H
     go_wp2
     repeat (go_quiet (fail);try go_wp2)
     go_ret
     exact ⟨by first|rfl|(simp;done)|(simp [*];done),by repeat (first|exact Drawn0.refl _|apply Drawn0.step)⟩
 ·rw [if_neg c3] at H;have c3b0:((l0.length:Int) == (l1.length:Int))=false:=beq_eq_false_iff_ne.mpr c3;have c3b1:((l0.length:Int) != (l1.length:Int))=true:=bne_iff_ne.mpr c3
  have c3b2:(l0.length == l1.length)=false:=by first|simpa using c3|(simp at c3 ⊢;omega)
  obtain rfl:=Option.some.inj H
  go_enter Try.func96,Try.ntmps96
  go_wp2
  repeat (go_quiet (fail);try go_wp2)
  go_ret
  exact ⟨by first|rfl|(simp;done)|(simp [*];done),by repeat (first|exact Drawn0.refl _|apply Drawn0.step)⟩

/-! ### laws_eqSynSeeker: function 34 -/
def laws_eqSynSeeker.f (k : Nat) (a0_0 : Int) (a0_1 : Int) (a0_2 : Int) (a0_3 : Int) (a0_4 : Int) (a0_5 : Int) (a0_6 : Int) (a0_7 : Int) (a0_8 : Int) (a0_9 : Int) (a0_10 : Int) (a0_11 : Int) (a0_12 : Int) (a0_13 : Int) (a0_14 : Int) (a0_15 : Int) (a0_16 : Int) (a0_17 : Int) (a0_18 : Int) (a0_19 : Int) (a0_20 : Int) (a0_21 : Int) (a0_22 : Int) (a0_23 : Int) (a0_24 : Int) (l0_25 : List Int) (a1_0 : Int) (a1_1 : Int) (a1_2 : Int) (a1_3 : Int) (a1_4 : Int) (a1_5 : Int) (a1_6 : Int) (a1_7 : Int) (a1_8 : Int) (a1_9 : Int) (a1_10 : Int) (a1_11 : Int) (a1_12 : Int) (a1_13 : Int) (a1_14 : Int) (a1_15 : Int) (a1_16 : Int) (a1_17 : Int) (a1_18 : Int) (a1_19 : Int) (a1_20 : Int) (a1_21 : Int) (a1_22 : Int) (a1_23 : Int) (a1_24 : Int) (l1_25 : List Int) : Option (Bool) := if a0_0 = a1_0 then (if a0_1 = a1_1 then (if a0_2 = a1_2 then ((laws_eqCmd.f a0_3 a0_4 a0_5 a0_6 a0_7 a0_8 a0_9 a0_10 a0_11 a0_12 a1_3 a1_4 a1_5 a1_6 a1_7 a1_8 a1_9 a1_10 a1_11 a1_12).bind fun t1092 => (if t1092 = true then ((laws_eqSynPaper.f a0_13 a0_14 a0_15 a0_16 a0_17 a0_18 a0_19 a0_20 a0_21 a0_22 a0_23 a0_24 a1_13 a1_14 a1_15 a1_16 a1_17 a1_18 a1_19 a1_20 a1_21 a1_22 a1_23 a1_24).bind fun t1093 => (if t1093 = true then ((laws_eqIntS.f k l0_25 l1_25).bind fun t1094 => (if t1094 = true then (some true) else (some false))) else (some false))) else (some false))) else (some false)) else (some false)) else (some false)
theorem laws_eqSynSeeker.mono : ∀ a0 a1 a2 a3 a4 a5 a6 a7 a8 a9 a10 a11 a12 a13 a14 a15 a16 a17 a18 a19 a20 a21 a22 a23 a24 a25 a26 a27 a28 a29 a30 a31 a32 a33 a34 a35 a36 a37 a38 a39 a40 a41 a42 a43 a44 a45 a46 a47 a48 a49 a50 a51 k, LeO (laws_eqSynSeeker.f k a0 a1 a2 a3 a4 a5 a6 a7 a8 a9 a10 a11 a12 a13 a14 a15 a16 a17 a18 a19 a20 a21 a22 a23 a24 a25 a26 a27 a28 a29 a30 a31 a32 a33 a34 a35 a36 a37 a38 a39 a40 a41 a42 a43 a44 a45 a46 a47 a48 a49 a50 a51) (laws_eqSynSeeker.f (k + 1) a0 a1 a2 a3 a4 a5 a6 a7 a8 a9 a10 a11 a12 a13 a14 a15 a16 a17 a18 a19 a20 a21 a22 a23 a24 a25 a26 a27 a28 a29 a30 a31 a32 a33 a34 a35 a36 a37 a38 a39 a40 a41 a42 a43 a44 a45 a46 a47 a48 a49 a50 a51) := by
 intro a0 a1 a2 a3 a4 a5 a6 a7 a8 a9 a10 a11 a12 a13 a14 a15 a16 a17 a18 a19 a20 a21 a22 a23 a24 a25 a26 a27 a28 a29 a30 a31 a32 a33 a34 a35 a36 a37 a38 a39 a40 a41 a42 a43 a44 a45 a46 a47 a48 a49 a50 a51 k
 unfold laws_eqSynSeeker.f
 repeat' first
   | (with_reducible first|apply laws_eqIntS.mono|exact LeO.refl _|exact LeO.none _|refine LeO.ite ?_ ?_|refine LeO.bind ?_ (fun _=>?_))|exact LeO.none _|refine LeO.ite ?_ ?_|refine LeO.bind ?_ (fun _=>?_)
set_option maxHeartbeats 8000000 in
set_option maxRecDepth 100000 in
theorem laws_eqSynSeeker.calls {k : Nat} {a0_0 : Int} {a0_1 : Int} {a0_2 : Int} {a0_3 : Int} {a0_4 : Int} {a0_5 : Int} {a0_6 : Int} {a0_7 : Int} {a0_8 : Int} {a0_9 : Int} {a0_10 : Int} {a0_11 : Int} {a0_12 : Int} {a0_13 : Int} {a0_14 : Int} {a0_15 : Int} {a0_16 : Int} {a0_17 : Int} {a0_18 : Int} {a0_19 : Int} {a0_20 : Int} {a0_21 : Int} {a0_22 : Int} {a0_23 : Int} {a0_24 : Int} {A0_25 : Option Addr} {c0_25 : Nat} {l0_25 : List Int} {a1_0 : Int} {a1_1 : Int} {a1_2 : Int} {a1_3 : Int} {a1_4 : Int} {a1_5 : Int} {a1_6 : Int} {a1_7 : Int} {a1_8 : Int} {a1_9 : Int} {a1_10 : Int} {a1_11 : Int} {a1_12 : Int} {a1_13 : Int} {a1_14 : Int} {a1_15 : Int} {a1_16 : Int} {a1_17 : Int} {a1_18 : Int} {a1_19 : Int} {a1_20 : Int} {a1_21 : Int} {a1_22 : Int} {a1_23 : Int} {a1_24 : Int} {A1_25 : Option Addr} {c1_25 : Nat} {l1_25 : List Int} {r : Bool} {w : World} (hr0_25 : Kd.C (Kd.int .i64) w A0_25 l0_25.length l0_25) (hc0_25 : l0_25.length ≤ c0_25) (hr1_25 : Kd.C (Kd.int .i64) w A1_25 l1_25.length l1_25) (hc1_25 : l1_25.length ≤ c1_25) (h : laws_eqSynSeeker.f k a0_0 a0_1 a0_2 a0_3 a0_4 a0_5 a0_6 a0_7 a0_8 a0_9 a0_10 a0_11 a0_12 a0_13 a0_14 a0_15 a0_16 a0_17 a0_18 a0_19 a0_20 a0_21 a0_22 a0_23 a0_24 l0_25 a1_0 a1_1 a1_2 a1_3 a1_4 a1_5 a1_6 a1_7 a1_8 a1_9 a1_10 a1_11 a1_12 a1_13 a1_14 a1_15 a1_16 a1_17 a1_18 a1_19 a1_20 a1_21 a1_22 a1_23 a1_24 l1_25 = some r) :
  Calls Try.prog 34 #[.agg #[.int .i64 a0_0,.int .i64 a0_1,.int .i64 a0_2,.int .i64 a0_3,.int .i64 a0_4,.int .i64 a0_5,.int .i64 a0_6,.int .i64 a0_7,.int .i64 a0_8,.int .i64 a0_9,.int .i64 a0_10,.int .i64 a0_11,.int .i64 a0_12,.int .i64 a0_13,.int .i64 a0_14,.int .i64 a0_15,.int .i64 a0_16,.int .i64 a0_17,.int .i64 a0_18,.int .i64 a0_19,.int .i64 a0_20,.int .i64 a0_21,.int .i64 a0_22,.int .i64 a0_23,.int .i64 a0_24,.slice A0_25 l0_25.length c0_25],.agg #[.int .i64 a1_0,.int .i64 a1_1,.int .i64 a1_2,.int .i64 a1_3,.int .i64 a1_4,.int .i64 a1_5,.int .i64 a1_6,.int .i64 a1_7,.int .i64 a1_8,.int .i64 a1_9,.int .i64 a1_10,.int .i64 a1_11,.int .i64 a1_12,.int .i64 a1_13,.int .i64 a1_14,.int .i64 a1_15,.int .i64 a1_16,.int .i64 a1_17,.int .i64 a1_18,.int .i64 a1_19,.int .i64 a1_20,.int .i64 a1_21,.int .i64 a1_22,.int .i64 a1_23,.int .i64 a1_24,.slice A1_25 l1_25.length c1_25]] w fun e w'=>e=.returned (.bool r)∧Below w.heap.size w w':=by
 have hu66:=Try.underlying66;have hu24:=Try.underlying24;have hu64:=Try.underlying64;have HR0_25:=mA hr0_25;have HC0_25:=mA hc0_25;clear hr0_25 hc0_25;have HR1_25:=mA hr1_25;have HC1_25:=mA hc1_25;clear hr1_25 hc1_25;have HB:=mA (Below.refl w.heap.size w);have H:(if a0_0=a1_0 then (if a0_1=a1_1 then (if a0_2=a1_2 then ((laws_eqCmd.f a0_3 a0_4 a0_5 a0_6 a0_7 a0_8 a0_9 a0_10 a0_11 a0_12 a1_3 a1_4 a1_5 a1_6 a1_7 a1_8 a1_9 a1_10 a1_11 a1_12).bind fun t1092=>(if t1092=true then ((laws_eqSynPaper.f a0_13 a0_14 a0_15 a0_16 a0_17 a0_18 a0_19 a0_20 a0_21 a0_22 a0_23 a0_24 a1_13 a1_14 a1_15 a1_16 a1_17 a1_18 a1_19 a1_20 a1_21 a1_22 a1_23 a1_24).bind fun t1093=>(if t1093=true then ((laws_eqIntS.f k l0_25 l1_25).bind fun t1094=>(if t1094=true then (some true) else (some false))) else (some false))) else (some false))) else (some false)) else (some false)) else (some false))=some r:=h;clear h
 by_cases c3:a0_0=a1_0
 ·rw [if_pos c3] at H;obtain ⟨c3b0,c3b1⟩:=eqB c3;clear c3
  by_cases c4:a0_1=a1_1
  ·rw [if_pos c4] at H;obtain ⟨c4b0,c4b1⟩:=eqB c4;clear c4
   by_cases c5:a0_2=a1_2
   ·rw [if_pos c5] at H;obtain ⟨c5b0,c5b1⟩:=eqB c5;clear c5;obtain ⟨t1092,A6,H⟩:=bI H;(try dsimp only at H)
    by_cases c7:t1092=true
    ·subst c7;rw [if_pos rfl] at H;obtain ⟨t1093,A8,H⟩:=bI H;(try dsimp only at H)
     by_cases c9:t1093=true
     ·subst c9;rw [if_pos rfl] at H;obtain ⟨t1094,A10,H⟩:=bI H;(try dsimp only at H)
      by_cases c11:t1094=true
      ·subst c11;rw [if_pos rfl] at H;obtain rfl:=Option.some.inj H
       go_enter Try.func34,Try.ntmps34
       go_wp2_with (first|((with_reducible refine gLg rfl (by assumption) ?_);refine ldV ?_)|((with_reducible refine gSt rfl (by assumption) ?_);refine stV ?_)|((with_reducible refine gT 2 rfl ?_);refine bE 2 #[.int .i64 a0_0,.int .i64 a0_1,.int .i64 a0_2,.int .i64 a0_3,.int .i64 a0_4,.int .i64 a0_5,.int .i64 a0_6,.int .i64 a0_7,.int .i64 a0_8,.int .i64 a0_9,.int .i64 a0_10,.int .i64 a0_11,.int .i64 a0_12,.int .i64 a0_13,.int .i64 a0_14,.int .i64 a0_15,.int .i64 a0_16,.int .i64 a0_17,.int .i64 a0_18,.int .i64 a0_19,.int .i64 a0_20,.int .i64 a0_21,.int .i64 a0_22,.int .i64 a0_23,.int .i64 a0_24,.slice A0_25 l0_25.length c0_25] 66 ?_;intro gb1090 hg w12 hbox hb;have BK1090:=mA hbox;have GW1090:=gbpB HB hg;have GE1090:=gbpB HB hg;replace HB:=spB HB hb;clear hb hbox hg)|((with_reducible refine gT 3 rfl ?_);refine bE 3 #[.int .i64 a1_0,.int .i64 a1_1,.int .i64 a1_2,.int .i64 a1_3,.int .i64 a1_4,.int .i64 a1_5,.int .i64 a1_6,.int .i64 a1_7,.int .i64 a1_8,.int .i64 a1_9,.int .i64 a1_10,.int .i64 a1_11,.int .i64 a1_12,.int .i64 a1_13,.int .i64 a1_14,.int .i64 a1_15,.int .i64 a1_16,.int .i64 a1_17,.int .i64 a1_18,.int .i64 a1_19,.int .i64 a1_20,.int .i64 a1_21,.int .i64 a1_22,.int .i64 a1_23,.int .i64 a1_24,.slice A1_25 l1_25.length c1_25] 66 ?_;intro gb1091 hg w13 hbox hb;have BK1091:=mA hbox;have GW1091:=gbpS HB hg;have GE1091:=gbpS HB hg;replace HB:=spS HB hb;have NB1090_1091:=mA (lN (blk_lt (pK BK1090.out)) hg);have NB1091_1090:=nS NB1090_1091;replace BK1090:=bK BK1090 hb;clear hb hbox hg;have hnb14:=NB1090_1091.out;have hnc14:=NB1091_1090.out;have hcz15_0:=fun i_=>blk_cell BK1090.out i_;have hfz15_0:=fun i_=>blk_frozen BK1090.out i_;have hcz16_0:=fun i_=>blk_cell BK1091.out i_;have hfz16_0:=fun i_=>blk_frozen BK1091.out i_)|((with_reducible refine gT 24 rfl ?_);refine gC (some 24) Try.func80 (laws_eqCmd.calls A6.out) ?_;rintro e w17 ⟨rfl,hb⟩;refine ⟨_,rfl,?_⟩;replace BK1090:=bK BK1090 hb;replace BK1091:=bK BK1091 hb;replace HB:=spS HB hb;(try clear hb);have hcz18_0:=fun i_=>blk_cell BK1090.out i_;have hfz18_0:=fun i_=>blk_frozen BK1090.out i_;have hcz19_0:=fun i_=>blk_cell BK1091.out i_;have hfz19_0:=fun i_=>blk_frozen BK1091.out i_)|((with_reducible refine gT 30 rfl ?_);refine gC (some 30) Try.func95 (laws_eqSynPaper.calls A8.out) ?_;rintro e w20 ⟨rfl,hb⟩;refine ⟨_,rfl,?_⟩;replace BK1090:=bK BK1090 hb;replace BK1091:=bK BK1091 hb;replace HB:=spS HB hb;(try clear hb);have hcz21_0:=fun i_=>blk_cell BK1090.out i_;have hfz21_0:=fun i_=>blk_frozen BK1090.out i_;have hcz22_0:=fun i_=>blk_cell BK1091.out i_;have hfz22_0:=fun i_=>blk_frozen BK1091.out i_)|((with_reducible refine gT 36 rfl ?_);refine gC (some 36) Try.func96 (laws_eqIntS.calls (cB HR0_25 HB) HC0_25.out (cB HR1_25 HB) HC1_25.out A10.out) ?_;rintro e w' ⟨rfl,⟨nd,rfl⟩⟩;refine ⟨_,rfl,?_⟩))
       go_ret
       exact rZ (pS HB.out)
      ·replace c11:=Bool.eq_false_iff.mpr c11;subst c11
       rw [if_neg nFT] at H
       obtain rfl:=Option.some.inj H
       go_enter Try.func34,Try.ntmps34
       go_wp2_with (first|((with_reducible refine gLg rfl (by assumption) ?_);refine ldV ?_)|((with_reducible refine gSt rfl (by assumption) ?_);refine stV ?_)|((with_reducible refine gT 2 rfl ?_);refine bE 2 #[.int .i64 a0_0,.int .i64 a0_1,.int .i64 a0_2,.int .i64 a0_3,.int .i64 a0_4,.int .i64 a0_5,.int .i64 a0_6,.int .i64 a0_7,.int .i64 a0_8,.int .i64 a0_9,.int .i64 a0_10,.int .i64 a0_11,.int .i64 a0_12,.int .i64 a0_13,.int .i64 a0_14,.int .i64 a0_15,.int .i64 a0_16,.int .i64 a0_17,.int .i64 a0_18,.int .i64 a0_19,.int .i64 a0_20,.int .i64 a0_21,.int .i64 a0_22,.int .i64 a0_23,.int .i64 a0_24,.slice A0_25 l0_25.length c0_25] 66 ?_;intro gb1090 hg w23 hbox hb;have BK1090:=mA hbox;have GW1090:=gbpB HB hg;have GE1090:=gbpB HB hg;replace HB:=spB HB hb;clear hb hbox hg)|((with_reducible refine gT 3 rfl ?_);refine bE 3 #[.int .i64 a1_0,.int .i64 a1_1,.int .i64 a1_2,.int .i64 a1_3,.int .i64 a1_4,.int .i64 a1_5,.int .i64 a1_6,.int .i64 a1_7,.int .i64 a1_8,.int .i64 a1_9,.int .i64 a1_10,.int .i64 a1_11,.int .i64 a1_12,.int .i64 a1_13,.int .i64 a1_14,.int .i64 a1_15,.int .i64 a1_16,.int .i64 a1_17,.int .i64 a1_18,.int .i64 a1_19,.int .i64 a1_20,.int .i64 a1_21,.int .i64 a1_22,.int .i64 a1_23,.int .i64 a1_24,.slice A1_25 l1_25.length c1_25] 66 ?_;intro gb1091 hg w24 hbox hb;have BK1091:=mA hbox;have GW1091:=gbpS HB hg;have GE1091:=gbpS HB hg;replace HB:=spS HB hb;have NB1090_1091:=mA (lN (blk_lt (pK BK1090.out)) hg);have NB1091_1090:=nS NB1090_1091;replace BK1090:=bK BK1090 hb;clear hb hbox hg;have hnb25:=NB1090_1091.out;have hnc25:=NB1091_1090.out;have hcz26_0:=fun i_=>blk_cell BK1090.out i_;have hfz26_0:=fun i_=>blk_frozen BK1090.out i_;have hcz27_0:=fun i_=>blk_cell BK1091.out i_;have hfz27_0:=fun i_=>blk_frozen BK1091.out i_)|((with_reducible refine gT 24 rfl ?_);refine gC (some 24) Try.func80 (laws_eqCmd.calls A6.out) ?_;rintro e w28 ⟨rfl,hb⟩;refine ⟨_,rfl,?_⟩;replace BK1090:=bK BK1090 hb;replace BK1091:=bK BK1091 hb;replace HB:=spS HB hb;(try clear hb);have hcz29_0:=fun i_=>blk_cell BK1090.out i_;have hfz29_0:=fun i_=>blk_frozen BK1090.out i_;have hcz30_0:=fun i_=>blk_cell BK1091.out i_;have hfz30_0:=fun i_=>blk_frozen BK1091.out i_)|((with_reducible refine gT 30 rfl ?_);refine gC (some 30) Try.func95 (laws_eqSynPaper.calls A8.out) ?_;rintro e w31 ⟨rfl,hb⟩;refine ⟨_,rfl,?_⟩;replace BK1090:=bK BK1090 hb;replace BK1091:=bK BK1091 hb;replace HB:=spS HB hb;(try clear hb);have hcz32_0:=fun i_=>blk_cell BK1090.out i_;have hfz32_0:=fun i_=>blk_frozen BK1090.out i_;have hcz33_0:=fun i_=>blk_cell BK1091.out i_;have hfz33_0:=fun i_=>blk_frozen BK1091.out i_)|((with_reducible refine gT 36 rfl ?_);refine gC (some 36) Try.func96 (laws_eqIntS.calls (cB HR0_25 HB) HC0_25.out (cB HR1_25 HB) HC1_25.out A10.out) ?_;rintro e w' ⟨rfl,⟨nd,rfl⟩⟩;refine ⟨_,rfl,?_⟩))
       go_ret
       exact rZ (pS HB.out)
     ·replace c9:=Bool.eq_false_iff.mpr c9;subst c9
      rw [if_neg nFT] at H
      obtain rfl:=Option.some.inj H
      go_enter Try.func34,Try.ntmps34
      go_wp2_with (first|((with_reducible refine gLg rfl (by assumption) ?_);refine ldV ?_)|((with_reducible refine gSt rfl (by assumption) ?_);refine stV ?_)|((with_reducible refine gT 2 rfl ?_);refine bE 2 #[.int .i64 a0_0,.int .i64 a0_1,.int .i64 a0_2,.int .i64 a0_3,.int .i64 a0_4,.int .i64 a0_5,.int .i64 a0_6,.int .i64 a0_7,.int .i64 a0_8,.int .i64 a0_9,.int .i64 a0_10,.int .i64 a0_11,.int .i64 a0_12,.int .i64 a0_13,.int .i64 a0_14,.int .i64 a0_15,.int .i64 a0_16,.int .i64 a0_17,.int .i64 a0_18,.int .i64 a0_19,.int .i64 a0_20,.int .i64 a0_21,.int .i64 a0_22,.int .i64 a0_23,.int .i64 a0_24,.slice A0_25 l0_25.length c0_25] 66 ?_;intro gb1090 hg w34 hbox hb;have BK1090:=mA hbox;have GW1090:=gbpB HB hg;have GE1090:=gbpB HB hg;replace HB:=spB HB hb;clear hb hbox hg)|((with_reducible refine gT 3 rfl ?_);refine bE 3 #[.int .i64 a1_0,.int .i64 a1_1,.int .i64 a1_2,.int .i64 a1_3,.int .i64 a1_4,.int .i64 a1_5,.int .i64 a1_6,.int .i64 a1_7,.int .i64 a1_8,.int .i64 a1_9,.int .i64 a1_10,.int .i64 a1_11,.int .i64 a1_12,.int .i64 a1_13,.int .i64 a1_14,.int .i64 a1_15,.int .i64 a1_16,.int .i64 a1_17,.int .i64 a1_18,.int .i64 a1_19,.int .i64 a1_20,.int .i64 a1_21,.int .i64 a1_22,.int .i64 a1_23,.int .i64 a1_24,.slice A1_25 l1_25.length c1_25] 66 ?_;intro gb1091 hg w35 hbox hb;have BK1091:=mA hbox;have GW1091:=gbpS HB hg;have GE1091:=gbpS HB hg;replace HB:=spS HB hb;have NB1090_1091:=mA (lN (blk_lt (pK BK1090.out)) hg);have NB1091_1090:=nS NB1090_1091;replace BK1090:=bK BK1090 hb;clear hb hbox hg;have hnb36:=NB1090_1091.out;have hnc36:=NB1091_1090.out;have hcz37_0:=fun i_=>blk_cell BK1090.out i_;have hfz37_0:=fun i_=>blk_frozen BK1090.out i_;have hcz38_0:=fun i_=>blk_cell BK1091.out i_;have hfz38_0:=fun i_=>blk_frozen BK1091.out i_)|((with_reducible refine gT 24 rfl ?_);refine gC (some 24) Try.func80 (laws_eqCmd.calls A6.out) ?_;rintro e w39 ⟨rfl,hb⟩;refine ⟨_,rfl,?_⟩;replace BK1090:=bK BK1090 hb;replace BK1091:=bK BK1091 hb;replace HB:=spS HB hb;(try clear hb);have hcz40_0:=fun i_=>blk_cell BK1090.out i_;have hfz40_0:=fun i_=>blk_frozen BK1090.out i_;have hcz41_0:=fun i_=>blk_cell BK1091.out i_;have hfz41_0:=fun i_=>blk_frozen BK1091.out i_)|((with_reducible refine gT 30 rfl ?_);refine gC (some 30) Try.func95 (laws_eqSynPaper.calls A8.out) ?_;rintro e w42 ⟨rfl,hb⟩;refine ⟨_,rfl,?_⟩;replace BK1090:=bK BK1090 hb;replace BK1091:=bK BK1091 hb;replace HB:=spS HB hb;(try clear hb)))
      go_ret
      exact rZ (pS HB.out)
    ·replace c7:=Bool.eq_false_iff.mpr c7;subst c7
     rw [if_neg nFT] at H
     obtain rfl:=Option.some.inj H
     go_enter Try.func34,Try.ntmps34
     go_wp2_with (first|((with_reducible refine gLg rfl (by assumption) ?_);refine ldV ?_)|((with_reducible refine gSt rfl (by assumption) ?_);refine stV ?_)|((with_reducible refine gT 2 rfl ?_);refine bE 2 #[.int .i64 a0_0,.int .i64 a0_1,.int .i64 a0_2,.int .i64 a0_3,.int .i64 a0_4,.int .i64 a0_5,.int .i64 a0_6,.int .i64 a0_7,.int .i64 a0_8,.int .i64 a0_9,.int .i64 a0_10,.int .i64 a0_11,.int .i64 a0_12,.int .i64 a0_13,.int .i64 a0_14,.int .i64 a0_15,.int .i64 a0_16,.int .i64 a0_17,.int .i64 a0_18,.int .i64 a0_19,.int .i64 a0_20,.int .i64 a0_21,.int .i64 a0_22,.int .i64 a0_23,.int .i64 a0_24,.slice A0_25 l0_25.length c0_25] 66 ?_;intro gb1090 hg w43 hbox hb;have BK1090:=mA hbox;have GW1090:=gbpB HB hg;have GE1090:=gbpB HB hg;replace HB:=spB HB hb;clear hb hbox hg)|((with_reducible refine gT 3 rfl ?_);refine bE 3 #[.int .i64 a1_0,.int .i64 a1_1,.int .i64 a1_2,.int .i64 a1_3,.int .i64 a1_4,.int .i64 a1_5,.int .i64 a1_6,.int .i64 a1_7,.int .i64 a1_8,.int .i64 a1_9,.int .i64 a1_10,.int .i64 a1_11,.int .i64 a1_12,.int .i64 a1_13,.int .i64 a1_14,.int .i64 a1_15,.int .i64 a1_16,.int .i64 a1_17,.int .i64 a1_18,.int .i64 a1_19,.int .i64 a1_20,.int .i64 a1_21,.int .i64 a1_22,.int .i64 a1_23,.int .i64 a1_24,.slice A1_25 l1_25.length c1_25] 66 ?_;intro gb1091 hg w44 hbox hb;have BK1091:=mA hbox;have GW1091:=gbpS HB hg;have GE1091:=gbpS HB hg;replace HB:=spS HB hb;have NB1090_1091:=mA (lN (blk_lt (pK BK1090.out)) hg);have NB1091_1090:=nS NB1090_1091;replace BK1090:=bK BK1090 hb;clear hb hbox hg;have hnb45:=NB1090_1091.out;have hnc45:=NB1091_1090.out;have hcz46_0:=fun i_=>blk_cell BK1090.out i_;have hfz46_0:=fun i_=>blk_frozen BK1090.out i_;have hcz47_0:=fun i_=>blk_cell BK1091.out i_;have hfz47_0:=fun i_=>blk_frozen BK1091.out i_)|((with_reducible refine gT 24 rfl ?_);refine gC (some 24) Try.func80 (laws_eqCmd.calls A6.out) ?_;rintro e w48 ⟨rfl,hb⟩;refine ⟨_,rfl,?_⟩;replace BK1090:=bK BK1090 hb;replace BK1091:=bK BK1091 hb;replace HB:=spS HB hb;(try clear hb)))
     go_ret
     exact rZ (pS HB.out)
   ·rw [if_neg c5] at H;have c5b0:(a0_2 == a1_2)=false:=beq_eq_false_iff_ne.mpr c5;have c5b1:(a0_2 != a1_2)=true:=bne_iff_ne.mpr c5;obtain rfl:=Option.some.inj H
    go_enter Try.func34,Try.ntmps34
    go_wp2_with (first|((with_reducible refine gLg rfl (by assumption) ?_);refine ldV ?_)|((with_reducible refine gSt rfl (by assumption) ?_);refine stV ?_)|((with_reducible refine gT 2 rfl ?_);refine bE 2 #[.int .i64 a0_0,.int .i64 a0_1,.int .i64 a0_2,.int .i64 a0_3,.int .i64 a0_4,.int .i64 a0_5,.int .i64 a0_6,.int .i64 a0_7,.int .i64 a0_8,.int .i64 a0_9,.int .i64 a0_10,.int .i64 a0_11,.int .i64 a0_12,.int .i64 a0_13,.int .i64 a0_14,.int .i64 a0_15,.int .i64 a0_16,.int .i64 a0_17,.int .i64 a0_18,.int .i64 a0_19,.int .i64 a0_20,.int .i64 a0_21,.int .i64 a0_22,.int .i64 a0_23,.int .i64 a0_24,.slice A0_25 l0_25.length c0_25] 66 ?_;intro gb1090 hg w49 hbox hb;have BK1090:=mA hbox;have GW1090:=gbpB HB hg;have GE1090:=gbpB HB hg;replace HB:=spB HB hb;clear hb hbox hg)|((with_reducible refine gT 3 rfl ?_);refine bE 3 #[.int .i64 a1_0,.int .i64 a1_1,.int .i64 a1_2,.int .i64 a1_3,.int .i64 a1_4,.int .i64 a1_5,.int .i64 a1_6,.int .i64 a1_7,.int .i64 a1_8,.int .i64 a1_9,.int .i64 a1_10,.int .i64 a1_11,.int .i64 a1_12,.int .i64 a1_13,.int .i64 a1_14,.int .i64 a1_15,.int .i64 a1_16,.int .i64 a1_17,.int .i64 a1_18,.int .i64 a1_19,.int .i64 a1_20,.int .i64 a1_21,.int .i64 a1_22,.int .i64 a1_23,.int .i64 a1_24,.slice A1_25 l1_25.length c1_25] 66 ?_;intro gb1091 hg w50 hbox hb;have BK1091:=mA hbox;have GW1091:=gbpS HB hg;have GE1091:=gbpS HB hg;replace HB:=spS HB hb;have NB1090_1091:=mA (lN (blk_lt (pK BK1090.out)) hg);have NB1091_1090:=nS NB1090_1091;replace BK1090:=bK BK1090 hb;clear hb hbox hg;have hnb51:=NB1090_1091.out;have hnc51:=NB1091_1090.out;have hcz52_0:=fun i_=>blk_cell BK1090.out i_;have hfz52_0:=fun i_=>blk_frozen BK1090.out i_;have hcz53_0:=fun i_=>blk_cell BK1091.out i_;have hfz53_0:=fun i_=>blk_frozen BK1091.out i_))
    go_ret
    exact rZ (pS HB.out)
  ·rw [if_neg c4] at H;have c4b0:(a0_1 == a1_1)=false:=beq_eq_false_iff_ne.mpr c4;have c4b1:(a0_1 != a1_1)=true:=bne_iff_ne.mpr c4;obtain rfl:=Option.some.inj H
   go_enter Try.func34,Try.ntmps34
   go_wp2_with (first|((with_reducible refine gLg rfl (by assumption) ?_);refine ldV ?_)|((with_reducible refine gSt rfl (by assumption) ?_);refine stV ?_)|((with_reducible refine gT 2 rfl ?_);refine bE 2 #[.int .i64 a0_0,.int .i64 a0_1,.int .i64 a0_2,.int .i64 a0_3,.int .i64 a0_4,.int .i64 a0_5,.int .i64 a0_6,.int .i64 a0_7,.int .i64 a0_8,.int .i64 a0_9,.int .i64 a0_10,.int .i64 a0_11,.int .i64 a0_12,.int .i64 a0_13,.int .i64 a0_14,.int .i64 a0_15,.int .i64 a0_16,.int .i64 a0_17,.int .i64 a0_18,.int .i64 a0_19,.int .i64 a0_20,.int .i64 a0_21,.int .i64 a0_22,.int .i64 a0_23,.int .i64 a0_24,.slice A0_25 l0_25.length c0_25] 66 ?_;intro gb1090 hg w54 hbox hb;have BK1090:=mA hbox;have GW1090:=gbpB HB hg;have GE1090:=gbpB HB hg;replace HB:=spB HB hb;clear hb hbox hg)|((with_reducible refine gT 3 rfl ?_);refine bE 3 #[.int .i64 a1_0,.int .i64 a1_1,.int .i64 a1_2,.int .i64 a1_3,.int .i64 a1_4,.int .i64 a1_5,.int .i64 a1_6,.int .i64 a1_7,.int .i64 a1_8,.int .i64 a1_9,.int .i64 a1_10,.int .i64 a1_11,.int .i64 a1_12,.int .i64 a1_13,.int .i64 a1_14,.int .i64 a1_15,.int .i64 a1_16,.int .i64 a1_17,.int .i64 a1_18,.int .i64 a1_19,.int .i64 a1_20,.int .i64 a1_21,.int .i64 a1_22,.int .i64 a1_23,.int .i64 a1_24,.slice A1_25 l1_25.length c1_25] 66 ?_;intro gb1091 hg w55 hbox hb;have BK1091:=mA hbox;have GW1091:=gbpS HB hg;have GE1091:=gbpS HB hg;replace HB:=spS HB hb;have NB1090_1091:=mA (lN (blk_lt (pK BK1090.out)) hg);have NB1091_1090:=nS NB1090_1091;replace BK1090:=bK BK1090 hb;clear hb hbox hg;have hnb56:=NB1090_1091.out;have hnc56:=NB1091_1090.out;have hcz57_0:=fun i_=>blk_cell BK1090.out i_;have hfz57_0:=fun i_=>blk_frozen BK1090.out i_;have hcz58_0:=fun i_=>blk_cell BK1091.out i_;have hfz58_0:=fun i_=>blk_frozen BK1091.out i_))
   go_ret
   exact rZ (pS HB.out)
 ·rw [if_neg c3] at H;have c3b0:(a0_0 == a1_0)=false:=beq_eq_false_iff_ne.mpr c3;have c3b1:(a0_0 != a1_0)=true:=bne_iff_ne.mpr c3;obtain rfl:=Option.some.inj H
  go_enter Try.func34,Try.ntmps34
  go_wp2_with (first|((with_reducible refine gLg rfl (by assumption) ?_);refine ldV ?_)|((with_reducible refine gSt rfl (by assumption) ?_);refine stV ?_)|((with_reducible refine gT 2 rfl ?_);refine bE 2 #[.int .i64 a0_0,.int .i64 a0_1,.int .i64 a0_2,.int .i64 a0_3,.int .i64 a0_4,.int .i64 a0_5,.int .i64 a0_6,.int .i64 a0_7,.int .i64 a0_8,.int .i64 a0_9,.int .i64 a0_10,.int .i64 a0_11,.int .i64 a0_12,.int .i64 a0_13,.int .i64 a0_14,.int .i64 a0_15,.int .i64 a0_16,.int .i64 a0_17,.int .i64 a0_18,.int .i64 a0_19,.int .i64 a0_20,.int .i64 a0_21,.int .i64 a0_22,.int .i64 a0_23,.int .i64 a0_24,.slice A0_25 l0_25.length c0_25] 66 ?_;intro gb1090 hg w59 hbox hb;have BK1090:=mA hbox;have GW1090:=gbpB HB hg;have GE1090:=gbpB HB hg;replace HB:=spB HB hb;clear hb hbox hg)|((with_reducible refine gT 3 rfl ?_);refine bE 3 #[.int .i64 a1_0,.int .i64 a1_1,.int .i64 a1_2,.int .i64 a1_3,.int .i64 a1_4,.int .i64 a1_5,.int .i64 a1_6,.int .i64 a1_7,.int .i64 a1_8,.int .i64 a1_9,.int .i64 a1_10,.int .i64 a1_11,.int .i64 a1_12,.int .i64 a1_13,.int .i64 a1_14,.int .i64 a1_15,.int .i64 a1_16,.int .i64 a1_17,.int .i64 a1_18,.int .i64 a1_19,.int .i64 a1_20,.int .i64 a1_21,.int .i64 a1_22,.int .i64 a1_23,.int .i64 a1_24,.slice A1_25 l1_25.length c1_25] 66 ?_;intro gb1091 hg w60 hbox hb;have BK1091:=mA hbox;have GW1091:=gbpS HB hg;have GE1091:=gbpS HB hg;replace HB:=spS HB hb;have NB1090_1091:=mA (lN (blk_lt (pK BK1090.out)) hg);have NB1091_1090:=nS NB1090_1091;replace BK1090:=bK BK1090 hb;clear hb hbox hg;have hnb61:=NB1090_1091.out;have hnc61:=NB1091_1090.out;have hcz62_0:=fun i_=>blk_cell BK1090.out i_;have hfz62_0:=fun i_=>blk_frozen BK1090.out i_;have hcz63_0:=fun i_=>blk_cell BK1091.out i_;have hfz63_0:=fun i_=>blk_frozen BK1091.out i_))
  go_ret
  exact rZ (pS HB.out)

end Go.Proofs.Ytoieojmfkkidnaa.P
