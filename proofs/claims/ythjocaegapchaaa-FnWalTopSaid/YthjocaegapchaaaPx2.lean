-- printed by pprint.py (this session's program over the kit's printer) out of the translation. Lean checks it.
import Derived.Test.YthjocaegapchaaaPx0
namespace Go.Proofs.Ythjocaegapchaaa.P
open Go.RowKit Go.Proofs.YthjocaegapchaaaX Go.Proofs.YthjocaegapchaaaW.PrintWords Go.Proofs.YthjocaegapchaaaW.PrintLast Go.Proofs.YthjocaegapchaaaW.PrintMore
attribute [local go_sem] max2_int min2_int max_two min_two max_three min_three max_four min_four   -- for this text's walks alone
set_option linter.unusedVariables false
set_option linter.unusedSimpArgs false

/-! ### spec_l6In: function 84 -/
def spec_l6In.f (a0 : Int) (a1 : Int) (a2 : Int) : Option (Bool) := if a0 ≥ a1 then (some (decide (a0 ≤ a2))) else (some false)
set_option maxHeartbeats 8000000 in
set_option maxRecDepth 100000 in
theorem spec_l6In.calls (a0 : Int) (a1 : Int) (a2 : Int) (r : Bool) (w : World) (h : spec_l6In.f a0 a1 a2 = some r) :
  Calls Try.prog 84 #[.int .i64 a0,.int .i64 a1,.int .i64 a2] w fun e w'=>e=.returned (.bool r)∧Drawn0 w w':=by
 have H:(if a0 ≥ a1 then (some (decide (a0≤a2))) else (some false))=some r:=h;clear h
 by_cases c4:a0 ≥ a1
 ·rw [if_pos c4] at H;have c4b0:decide (a1≤a0)=true:=decide_eq_true c4;clear c4;obtain rfl:=Option.some.inj H
  go_enter Try.func84,Try.ntmps84
  go_wp2
  go_ret
  exact ⟨by first|rfl|(simp;done)|(simp [*];done),by repeat (first|exact Drawn0.refl _|apply Drawn0.step)⟩
 ·rw [if_neg c4] at H;have c4b0:decide (a1≤a0)=false:=decide_eq_false c4;clear c4;obtain rfl:=Option.some.inj H
  go_enter Try.func84,Try.ntmps84
  go_wp2
  go_ret
  exact ⟨by first|rfl|(simp;done)|(simp [*];done),by repeat (first|exact Drawn0.refl _|apply Drawn0.step)⟩

/-! ### spec_l1WriteOk: function 89 -/
def spec_l1WriteOk.f (a0 : Int) (a1 : Int) (a2 : ByteArray) : Option (Bool) := (spec_l6In.f a1 0 (wrap64 (a0 - 1))).bind fun t108 => (if t108 = true then (some (decide ((a2.size : Int) ≤ 16))) else (some false))
set_option maxHeartbeats 8000000 in
set_option maxRecDepth 100000 in
theorem spec_l1WriteOk.calls (a0 : Int) (a1 : Int) (a2 : ByteArray) (r : Bool) (w : World) (h : spec_l1WriteOk.f a0 a1 a2 = some r) :
  Calls Try.prog 89 #[.int .i64 a0,.int .i64 a1,.string a2] w fun e w'=>e=.returned (.bool r)∧Drawn0 w w':=by
 have H:((spec_l6In.f a1 0 (wrap64 (a0 - 1))).bind fun t108=>(if t108=true then (some (decide ((a2.size:Int)≤16))) else (some false)))=some r:=h;clear h;obtain ⟨t108,A4,H⟩:=bI H;(try dsimp only at H)
 by_cases c5:t108=true
 ·subst c5;rw [if_pos rfl] at H;obtain rfl:=Option.some.inj H
  go_enter Try.func89,Try.ntmps89
  go_wp2_with (first|(refine gL (some 10) Try.func84 #[.int .i64 a1,.int .i64 0,.int .i64 (wrap64 (a0 - 1))] ?_;(with_reducible refine (spec_l6In.calls a1 0 (wrap64 (a0 - 1)) true _ A4.out).mono ?_);rintro e w' ⟨rfl,⟨nd,rfl⟩⟩;refine ⟨_,rfl,?_⟩))
  go_ret
  exact ⟨by first|rfl|(simp;done)|(simp [*];done),by repeat (first|exact Drawn0.refl _|apply Drawn0.step)⟩
 ·replace c5:=Bool.eq_false_iff.mpr c5;subst c5
  rw [if_neg nFT] at H
  obtain rfl:=Option.some.inj H
  go_enter Try.func89,Try.ntmps89
  go_wp2_with (first|(refine gL (some 10) Try.func84 #[.int .i64 a1,.int .i64 0,.int .i64 (wrap64 (a0 - 1))] ?_;(with_reducible refine (spec_l6In.calls a1 0 (wrap64 (a0 - 1)) false _ A4.out).mono ?_);rintro e w' ⟨rfl,⟨nd,rfl⟩⟩;refine ⟨_,rfl,?_⟩))
  go_ret
  exact ⟨by first|rfl|(simp;done)|(simp [*];done),by repeat (first|exact Drawn0.refl _|apply Drawn0.step)⟩

/-! ### spec_SecOk: function 68 -/
mutual
def spec_SecOk.j0 : Nat → Bool → List ByteArray → List (S75) → Option (Bool)
 | 0,_,_,_=>none
 | k+1,x14,x110000,x110001=>if x14=true then (some false) else (spec_SecOk.l0 k 0 x110000 x110001)
def spec_SecOk.l0 : Nat → Int → List ByteArray → List (S75) → Option (Bool)
 | 0,_,_,_=>none
 | k+1,x3,x110000,x110001=>if x3<(x110000.length:Int) then (if 0≤x3 then (if ((rdOf ByteArray.empty x110000 x3).size:Int) > 16 then (some false) else (spec_SecOk.l0 k (wrap64 (x3+1)) x110000 x110001)) else (none)) else (spec_SecOk.l1 k 0 x110000 x110001)
def spec_SecOk.l1 : Nat → Int → List ByteArray → List (S75) → Option (Bool)
 | 0,_,_,_=>none
 | k+1,x4,x110000,x110001=>if x4<(x110001.length:Int) then (if 0≤x4 then ((spec_l1WriteOk.f (x110000.length:Int) ((rd_T75 x110001 x4).f0) ((rd_T75 x110001 x4).f1)).bind fun t113=>(if t113=true then (spec_SecOk.l1 k (wrap64 (x4+1)) x110000 x110001) else (some false))) else (none)) else (some true)
end
def spec_SecOk.f (k : Nat) (l0_0 : List ByteArray) (l0_1 : List (S75)) : Option (Bool) := if (l0_0.length : Int) > 512 then (spec_SecOk.j0 k true l0_0 l0_1) else (spec_SecOk.j0 k (decide ((l0_1.length : Int) > 600)) l0_0 l0_1)
theorem spec_SecOk.mono_l : ∀ k, (∀ y0 y1 y2, LeO (spec_SecOk.j0 k y0 y1 y2) (spec_SecOk.j0 (k + 1) y0 y1 y2)) ∧ (∀ y0 y1 y2, LeO (spec_SecOk.l0 k y0 y1 y2) (spec_SecOk.l0 (k + 1) y0 y1 y2)) ∧ (∀ y0 y1 y2, LeO (spec_SecOk.l1 k y0 y1 y2) (spec_SecOk.l1 (k + 1) y0 y1 y2))
 | 0=>⟨fun _ _ _ r h=>by simp [spec_SecOk.j0] at h,fun _ _ _ r h=>by simp [spec_SecOk.l0] at h,fun _ _ _ r h=>by simp [spec_SecOk.l1] at h⟩
 | k+1=>by
  obtain ⟨ih0,ih1,ih2⟩:=spec_SecOk.mono_l k;refine ⟨?_,?_,?_⟩
  ·intro y0 y1 y2
   unfold spec_SecOk.j0
   repeat' first
   | (with_reducible first|exact ih0 _ _ _|exact ih1 _ _ _|exact ih2 _ _ _|exact LeO.refl _|exact LeO.none _|refine LeO.ite ?_ ?_|refine LeO.bind ?_ (fun _=>?_))|exact ih0 _ _ _|exact ih1 _ _ _|exact ih2 _ _ _|exact LeO.none _|refine LeO.ite ?_ ?_|refine LeO.bind ?_ (fun _=>?_)
  ·intro y0 y1 y2
   unfold spec_SecOk.l0
   repeat' first
   | (with_reducible first|exact ih0 _ _ _|exact ih1 _ _ _|exact ih2 _ _ _|exact LeO.refl _|exact LeO.none _|refine LeO.ite ?_ ?_|refine LeO.bind ?_ (fun _=>?_))|exact ih0 _ _ _|exact ih1 _ _ _|exact ih2 _ _ _|exact LeO.none _|refine LeO.ite ?_ ?_|refine LeO.bind ?_ (fun _=>?_)
  ·intro y0 y1 y2
   unfold spec_SecOk.l1
   repeat' first
   | (with_reducible first|exact ih0 _ _ _|exact ih1 _ _ _|exact ih2 _ _ _|exact LeO.refl _|exact LeO.none _|refine LeO.ite ?_ ?_|refine LeO.bind ?_ (fun _=>?_))|exact ih0 _ _ _|exact ih1 _ _ _|exact ih2 _ _ _|exact LeO.none _|refine LeO.ite ?_ ?_|refine LeO.bind ?_ (fun _=>?_)
theorem spec_SecOk.mono : ∀ a0 a1 k, LeO (spec_SecOk.f k a0 a1) (spec_SecOk.f (k + 1) a0 a1) := by
 intro a0 a1 k;obtain ⟨ih0,ih1,ih2⟩:=spec_SecOk.mono_l k
 unfold spec_SecOk.f
 repeat' first
   | (with_reducible first|exact ih0 _ _ _|exact ih1 _ _ _|exact ih2 _ _ _|exact LeO.refl _|exact LeO.none _|refine LeO.ite ?_ ?_|refine LeO.bind ?_ (fun _=>?_))|exact ih0 _ _ _|exact ih1 _ _ _|exact ih2 _ _ _|exact LeO.none _|refine LeO.ite ?_ ?_|refine LeO.bind ?_ (fun _=>?_)
set_option maxHeartbeats 8000000 in
set_option maxRecDepth 100000 in
theorem spec_SecOk.calls (k : Nat) (A0_0 : Option Addr) (c0_0 : Nat) (l0_0 : List ByteArray) (A0_1 : Option Addr) (c0_1 : Nat) (l0_1 : List (S75)) (r : Bool) (w : World) (hr0_0 : Kd.C Kd.string w A0_0 l0_0.length l0_0) (hc0_0 : l0_0.length ≤ c0_0) (hr0_1 : Kd.C k75 w A0_1 l0_1.length l0_1) (hc0_1 : l0_1.length ≤ c0_1) (h : spec_SecOk.f k l0_0 l0_1 = some r) :
  Calls Try.prog 68 #[.agg #[.slice A0_0 l0_0.length c0_0,.slice A0_1 l0_1.length c0_1]] w fun e w'=>e=.returned (.bool r)∧Below w.heap.size w w':=by
 have hu31:=Try.underlying31;have HR0_0:=mA hr0_0;have HC0_0:=mA hc0_0;clear hr0_0 hc0_0;have HR0_1:=mA hr0_1;have HC0_1:=mA hc0_1;clear hr0_1 hc0_1;have HB:=mA (Below.refl w.heap.size w);have H:(if (l0_0.length:Int) > 512 then (spec_SecOk.j0 k true l0_0 l0_1) else (spec_SecOk.j0 k (decide ((l0_1.length:Int) > 600)) l0_0 l0_1))=some r:=h;clear h;have HC2:=mA H;clear H
 go_enter Try.func68,Try.ntmps68
 go_upto_region 1 with (first|((with_reducible refine gate_dst (N:=1) rfl ?_);(try (refine gate_guard (by rfl) ?_;dsimp only));refine bE 1 #[.slice A0_0 l0_0.length c0_0,.slice A0_1 l0_1.length c0_1] 31 ?_;intro gb109 hg w3 hbox hb;have BK109:=mA hbox;have GW109:=gbpB HB hg;have GE109:=gbpB HB hg;replace HB:=spB HB hb;clear hb hbox hg))
 repeat (go_quiet (first|((with_reducible refine gate_dst (N:=1) rfl ?_);(try (refine gate_guard (by rfl) ?_;dsimp only));refine bE 1 #[.slice A0_0 l0_0.length c0_0,.slice A0_1 l0_1.length c0_1] 31 ?_;intro gb109 hg w3 hbox hb;have BK109:=mA hbox;have GW109:=gbpB HB hg;have GE109:=gbpB HB hg;replace HB:=spB HB hb;clear hb hbox hg));go_upto_region 1 with (first|((with_reducible refine gate_dst (N:=1) rfl ?_);(try (refine gate_guard (by rfl) ?_;dsimp only));refine bE 1 #[.slice A0_0 l0_0.length c0_0,.slice A0_1 l0_1.length c0_1] 31 ?_;intro gb109 hg w3 hbox hb;have BK109:=mA hbox;have GW109:=gbpB HB hg;have GE109:=gbpB HB hg;replace HB:=spB HB hb;clear hb hbox hg)))
 (try simp only [Act.put,List.setIfInBounds_toArray,List.set_cons_zero,List.set_cons_succ])
 go_cut [14] (fun v14 wc=>∃ (kq:Nat) (x14_1:Bool),v14=.bool x14_1∧Aside0 (spec_SecOk.j0 kq x14_1 l0_0 l0_1=some r)∧Aside0 (kq≤k)∧Aside0 (wc.heap[gb109]?=some (.cells #[(.slice A0_0 l0_0.length c0_0),(.slice A0_1 l0_1.length c0_1)] 31 (0,0)))∧Aside0 (Below w.heap.size w wc))
 case first =>
  have H:=HC2.out;clear HC2
  by_cases c4:(l0_0.length:Int) > 512
  ·rw [if_pos c4] at H;have c4b0:decide (512<(l0_0.length:Int))=true:=decide_eq_true c4
   have c4b1:decide (512<l0_0.length)=true:=decide_eq_true (by omega)
   clear c4
   (first|rw [c4b0]|(simp only [i64_w,i32_w];rw [c4b0])|skip)
   have H':=mA H;clear H;obtain ⟨hcz5_0,hcz5_1,hfz5_0,hfz5_1⟩:=box2 BK109.out
   go_wp2
   repeat (go_quiet (fail);try go_wp2)
   go_meet
   case rel=>exact ⟨_,(true),bZ,H',⟨by first|omega|exact Nat.le_refl _⟩,⟨pK BK109.out⟩,⟨pS HB.out⟩⟩
  ·rw [if_neg c4] at H;have c4b0:decide (512<(l0_0.length:Int))=false:=decide_eq_false c4
   have c4b1:decide (512<l0_0.length)=false:=decide_eq_false (by omega)
   clear c4
   (first|rw [c4b0]|(simp only [i64_w,i32_w];rw [c4b0])|skip)
   have H':=mA H;clear H;obtain ⟨hcz6_0,hcz6_1,hfz6_0,hfz6_1⟩:=box2 BK109.out
   go_wp2
   repeat (go_quiet (fail);try go_wp2)
   go_meet
   case rel=>exact ⟨_,(decide ((l0_1.length:Int) > 600)),bZ,H',⟨by first|omega|exact Nat.le_refl _⟩,⟨pK BK109.out⟩,⟨pS HB.out⟩⟩
 case rest =>
  clear HC2
  obtain ⟨kq,x14_1,rfl,HA,HJ1,BK109,HB⟩:=hcut
  cases kq with
  | zero=>exact absurd HA.out (by simp [spec_SecOk.j0])
  | succ kj1 =>
   have H:=HA.out;clear HA;simp only [spec_SecOk.j0] at H
   by_cases c7:x14_1=true
   ·subst c7;rw [if_pos rfl] at H;obtain rfl:=Option.some.inj H
    go_wp2
    repeat (go_quiet (fail);try go_wp2)
    go_ret
    exact ⟨by first|rfl|(simp [errW_none,errW_some]<;>rfl)|(simp [*,errW_none,errW_some]<;>rfl),pS HB.out⟩
   ·replace c7:=Bool.eq_false_iff.mpr c7;subst c7
    rw [if_neg nFT] at H
    have H':=mA H;clear H
    go_wp2
    repeat (go_quiet (fail);try go_wp2)
    go_loopg [3] kj1 (fun kq v3 w'=>∃ (x3_2:Int),v3=.int .i64 x3_2∧Aside0 (spec_SecOk.l0 kq x3_2 l0_0 l0_1=some r)∧Aside0 (kq≤kj1)∧Aside0 (w'.heap[gb109]?=some (.cells #[(.slice A0_0 l0_0.length c0_0),(.slice A0_1 l0_1.length c0_1)] 31 (0,0)))∧Aside0 (Below w.heap.size w w'))
    case atStart=>exact ⟨(0),bZ,H',⟨Nat.le_refl _⟩,⟨pK BK109.out⟩,⟨pS HB.out⟩⟩
    case round =>
     clear H'
     (try clear c7)
     obtain ⟨x3_2,rfl,HA,HK2,BK109,HB⟩:=hrel
     cases gk with
     | zero=>exact absurd HA.out (by simp [spec_SecOk.l0])
     | succ k2 =>
      have H:=HA.out;clear HA;simp only [spec_SecOk.l0] at H
      by_cases c8:x3_2<(l0_0.length:Int)
      ·rw [if_pos c8] at H;have c8b0:decide (x3_2<(l0_0.length:Int))=true:=decide_eq_true c8;clear c8
       by_cases c9:0≤x3_2
       ·rw [if_pos c9] at H;have c9b0:decide (0≤x3_2)=true:=decide_eq_true c9;clear c9
        by_cases c10:((rdOf ByteArray.empty l0_0 x3_2).size:Int) > 16
        ·rw [if_pos c10] at H;have c10b0:decide (16<((rdOf ByteArray.empty l0_0 x3_2).size:Int))=true:=decide_eq_true c10
         have c10b1:decide (16<(rdOf ByteArray.empty l0_0 x3_2).size)=true:=decide_eq_true (by omega)
         clear c10;obtain rfl:=Option.some.inj H;obtain ⟨hcz11_0,hcz11_1,hfz11_0,hfz11_1⟩:=box2 BK109.out;have p110:0≤(x3_2:Int):=of_decide_eq_true bA;have q110:x3_2<(l0_0.length:Int):=of_decide_eq_true bA;obtain ⟨ad110,e110,hx110_0⟩:=Kd.at_string HR0_0.out x3_2 p110 q110;cases e110;replace hx110_0:=hC HB hx110_0;replace p110:=eq_true p110;replace q110:=eq_true q110
         go_wp2
         repeat (go_quiet (fail);try go_wp2)
         go_ret
         exact ⟨by first|rfl|(simp [errW_none,errW_some]<;>rfl)|(simp [*,errW_none,errW_some]<;>rfl),pS HB.out⟩
        ·rw [if_neg c10] at H;have c10b0:decide (16<((rdOf ByteArray.empty l0_0 x3_2).size:Int))=false:=decide_eq_false c10
         have c10b1:decide (16<(rdOf ByteArray.empty l0_0 x3_2).size)=false:=decide_eq_false (by omega)
         clear c10;have H':=mA H;clear H;obtain ⟨hcz12_0,hcz12_1,hfz12_0,hfz12_1⟩:=box2 BK109.out;have p110:0≤(x3_2:Int):=of_decide_eq_true bA;have q110:x3_2<(l0_0.length:Int):=of_decide_eq_true bA;obtain ⟨ad110,e110,hx110_0⟩:=Kd.at_string HR0_0.out x3_2 p110 q110;cases e110;replace hx110_0:=hC HB hx110_0;replace p110:=eq_true p110;replace q110:=eq_true q110
         go_wp2
         repeat (go_quiet (fail);try go_wp2)
         go_roundg k2
         case measure=>have:=HJ1.out;have:=HK2.out;omega
         case rel=>exact ⟨(wrap64 (x3_2+1)),bZ,H',⟨by have:=HJ1.out;have:=HK2.out;omega⟩,⟨pK BK109.out⟩,⟨pS HB.out⟩⟩
       ·rw [if_neg c9] at H
        exact absurd H (by simp)
      ·rw [if_neg c8] at H;have c8b0:decide (x3_2<(l0_0.length:Int))=false:=decide_eq_false c8;clear c8;have H':=mA H;clear H;obtain ⟨hcz13_0,hcz13_1,hfz13_0,hfz13_1⟩:=box2 BK109.out
       go_wp2
       repeat (go_quiet (fail);try go_wp2)
       go_loopg [4] k2 (fun kq v4 w'=>∃ (x4_3:Int),v4=.int .i64 x4_3∧Aside0 (spec_SecOk.l1 kq x4_3 l0_0 l0_1=some r)∧Aside0 (kq≤k2)∧Aside0 (w'.heap[gb109]?=some (.cells #[(.slice A0_0 l0_0.length c0_0),(.slice A0_1 l0_1.length c0_1)] 31 (0,0)))∧Aside0 (Below w.heap.size w w'))
       case atStart=>exact ⟨(0),bZ,H',⟨Nat.le_refl _⟩,⟨pK BK109.out⟩,⟨pS HB.out⟩⟩
       case round =>
        clear H'
        (try clear c7);(try clear c8);(try clear c8b0);(try clear hcz13_0);(try clear hcz13_1);(try clear hfz13_0);(try clear hfz13_1)
        obtain ⟨x4_3,rfl,HA,HK3,BK109,HB⟩:=hrel
        cases gk with
        | zero=>exact absurd HA.out (by simp [spec_SecOk.l1])
        | succ k3 =>
         have H:=HA.out;clear HA;simp only [spec_SecOk.l1] at H
         by_cases c14:x4_3<(l0_1.length:Int)
         ·rw [if_pos c14] at H;have c14b0:decide (x4_3<(l0_1.length:Int))=true:=decide_eq_true c14;clear c14
          by_cases c15:0≤x4_3
          ·rw [if_pos c15] at H;have c15b0:decide (0≤x4_3)=true:=decide_eq_true c15;clear c15;obtain ⟨t113,A16,H⟩:=bI H;(try dsimp only at H)
           by_cases c17:t113=true
           ·subst c17;rw [if_pos rfl] at H;have H':=mA H;clear H;obtain ⟨hcz18_0,hcz18_1,hfz18_0,hfz18_1⟩:=box2 BK109.out;have p111:0≤(x4_3:Int):=of_decide_eq_true bA;have q111:x4_3<(l0_1.length:Int):=of_decide_eq_true bA;obtain ⟨ad111,e111,hx111_0,hx111_1⟩:=at_T75 HR0_1.out x4_3 p111 q111;cases e111;replace hx111_0:=hC HB hx111_0;replace hx111_1:=hC HB hx111_1;replace p111:=eq_true p111;replace q111:=eq_true q111;have p112:0≤(x4_3:Int):=of_decide_eq_true bA;have q112:x4_3<(l0_1.length:Int):=of_decide_eq_true bA;obtain ⟨ad112,e112,hx112_0,hx112_1⟩:=at_T75 HR0_1.out x4_3 p112 q112
            obtain rfl:ad111=ad112:=(by injection e112)
            replace hx112_0:=hC HB hx112_0;replace hx112_1:=hC HB hx112_1;replace p112:=eq_true p112;replace q112:=eq_true q112
            go_wp2_with (first|(go_at_call 89;(with_reducible refine (spec_l1WriteOk.calls (l0_0.length:Int) ((rd_T75 l0_1 x4_3).f0) ((rd_T75 l0_1 x4_3).f1) true _ A16.out).mono ?_);rintro e w' ⟨rfl,⟨nd,rfl⟩⟩;(try first|exact ⟨rfl,_,World.drewN_drewN _ _ _⟩|exact ⟨rfl,_,Eq.trans (World.drewN_drewN _ _ _) (congrArg (World.drewN _) (Nat.add_assoc _ _ _))⟩)))
            repeat (go_quiet (first|(go_at_call 89;(with_reducible refine (spec_l1WriteOk.calls (l0_0.length:Int) ((rd_T75 l0_1 x4_3).f0) ((rd_T75 l0_1 x4_3).f1) true _ A16.out).mono ?_);rintro e w' ⟨rfl,⟨nd,rfl⟩⟩;(try first|exact ⟨rfl,_,World.drewN_drewN _ _ _⟩|exact ⟨rfl,_,Eq.trans (World.drewN_drewN _ _ _) (congrArg (World.drewN _) (Nat.add_assoc _ _ _))⟩)));try go_wp2_with (first|(go_at_call 89;(with_reducible refine (spec_l1WriteOk.calls (l0_0.length:Int) ((rd_T75 l0_1 x4_3).f0) ((rd_T75 l0_1 x4_3).f1) true _ A16.out).mono ?_);rintro e w' ⟨rfl,⟨nd,rfl⟩⟩;(try first|exact ⟨rfl,_,World.drewN_drewN _ _ _⟩|exact ⟨rfl,_,Eq.trans (World.drewN_drewN _ _ _) (congrArg (World.drewN _) (Nat.add_assoc _ _ _))⟩))))
            go_roundg k3
            case measure=>have:=HJ1.out;have:=HK2.out;have:=HK3.out;omega
            case rel=>exact ⟨(wrap64 (x4_3+1)),bZ,H',⟨by have:=HJ1.out;have:=HK2.out;have:=HK3.out;omega⟩,⟨pK BK109.out⟩,⟨pS HB.out⟩⟩
           ·replace c17:=Bool.eq_false_iff.mpr c17;subst c17
            rw [if_neg nFT] at H
            obtain rfl:=Option.some.inj H;obtain ⟨hcz19_0,hcz19_1,hfz19_0,hfz19_1⟩:=box2 BK109.out;have p111:0≤(x4_3:Int):=of_decide_eq_true bA;have q111:x4_3<(l0_1.length:Int):=of_decide_eq_true bA;obtain ⟨ad111,e111,hx111_0,hx111_1⟩:=at_T75 HR0_1.out x4_3 p111 q111;cases e111;replace hx111_0:=hC HB hx111_0;replace hx111_1:=hC HB hx111_1;replace p111:=eq_true p111;replace q111:=eq_true q111;have p112:0≤(x4_3:Int):=of_decide_eq_true bA;have q112:x4_3<(l0_1.length:Int):=of_decide_eq_true bA;obtain ⟨ad112,e112,hx112_0,hx112_1⟩:=at_T75 HR0_1.out x4_3 p112 q112
            obtain rfl:ad111=ad112:=(by injection e112)
            replace hx112_0:=hC HB hx112_0;replace hx112_1:=hC HB hx112_1;replace p112:=eq_true p112;replace q112:=eq_true q112
            go_wp2_with (first|(go_at_call 89;(with_reducible refine (spec_l1WriteOk.calls (l0_0.length:Int) ((rd_T75 l0_1 x4_3).f0) ((rd_T75 l0_1 x4_3).f1) false _ A16.out).mono ?_);rintro e w' ⟨rfl,⟨nd,rfl⟩⟩;(try first|exact ⟨rfl,_,World.drewN_drewN _ _ _⟩|exact ⟨rfl,_,Eq.trans (World.drewN_drewN _ _ _) (congrArg (World.drewN _) (Nat.add_assoc _ _ _))⟩)))
            repeat (go_quiet (first|(go_at_call 89;(with_reducible refine (spec_l1WriteOk.calls (l0_0.length:Int) ((rd_T75 l0_1 x4_3).f0) ((rd_T75 l0_1 x4_3).f1) false _ A16.out).mono ?_);rintro e w' ⟨rfl,⟨nd,rfl⟩⟩;(try first|exact ⟨rfl,_,World.drewN_drewN _ _ _⟩|exact ⟨rfl,_,Eq.trans (World.drewN_drewN _ _ _) (congrArg (World.drewN _) (Nat.add_assoc _ _ _))⟩)));try go_wp2_with (first|(go_at_call 89;(with_reducible refine (spec_l1WriteOk.calls (l0_0.length:Int) ((rd_T75 l0_1 x4_3).f0) ((rd_T75 l0_1 x4_3).f1) false _ A16.out).mono ?_);rintro e w' ⟨rfl,⟨nd,rfl⟩⟩;(try first|exact ⟨rfl,_,World.drewN_drewN _ _ _⟩|exact ⟨rfl,_,Eq.trans (World.drewN_drewN _ _ _) (congrArg (World.drewN _) (Nat.add_assoc _ _ _))⟩))))
            go_ret
            exact ⟨by first|rfl|(simp [errW_none,errW_some]<;>rfl)|(simp [*,errW_none,errW_some]<;>rfl),pS HB.out⟩
          ·rw [if_neg c15] at H
           exact absurd H (by simp)
         ·rw [if_neg c14] at H;have c14b0:decide (x4_3<(l0_1.length:Int))=false:=decide_eq_false c14;clear c14;obtain rfl:=Option.some.inj H;obtain ⟨hcz20_0,hcz20_1,hfz20_0,hfz20_1⟩:=box2 BK109.out
          go_wp2
          repeat (go_quiet (fail);try go_wp2)
          go_ret
          exact ⟨by first|rfl|(simp [errW_none,errW_some]<;>rfl)|(simp [*,errW_none,errW_some]<;>rfl),pS HB.out⟩

/-! ### spec_SecFlush: function 45 -/
def spec_SecFlush.l0 : Nat → Int → List ByteArray → List (S75) → List ByteArray → Option (List ByteArray × (List (S75)))
 | 0,_,_,_,_=>none
 | k+1,x4,x117000,x117001,x126000=>if x4<(x117001.length:Int) then (if 0≤x4 then (if 0≤((rd_T75 x117001 x4).f0) then (if ((rd_T75 x117001 x4).f0)<(x126000.length:Int) then (spec_SecFlush.l0 k (wrap64 (x4+1)) x117000 x117001 (x126000.set (((rd_T75 x117001 x4).f0):Int).toNat ((rd_T75 x117001 x4).f1))) else (none)) else (none)) else (none)) else (some (x126000,([]:List (S75))))
def spec_SecFlush.f (k : Nat) (l0_0 : List ByteArray) (l0_1 : List (S75)) : Option (List ByteArray × (List (S75))) := (spec_SecOk.f k l0_0 l0_1).bind fun t118 => (if t118 = true then ((some (([] : List ByteArray) : List ByteArray)).bind fun y119 => (if y119.length + l0_0.length < 8796093022208 then (spec_SecFlush.l0 k 0 l0_0 l0_1 (y119 ++ l0_0)) else (none))) else (some (([] : List ByteArray), ([] : List (S75)))))
theorem spec_SecFlush.mono_l : ∀ k, (∀ y0 y1 y2 y3, LeO (spec_SecFlush.l0 k y0 y1 y2 y3) (spec_SecFlush.l0 (k + 1) y0 y1 y2 y3))
 | 0=>fun _ _ _ _ r h=>by simp [spec_SecFlush.l0] at h
 | k+1=>by
  have ih0:=spec_SecFlush.mono_l k
  ·intro y0 y1 y2 y3
   unfold spec_SecFlush.l0
   repeat' first
   | (with_reducible first|exact ih0 _ _ _ _|exact spec_SecOk.mono _ _ _|exact LeO.refl _|exact LeO.none _|refine LeO.ite ?_ ?_|refine LeO.bind ?_ (fun _=>?_))|exact ih0 _ _ _ _|exact spec_SecOk.mono _ _ _|exact LeO.none _|refine LeO.ite ?_ ?_|refine LeO.bind ?_ (fun _=>?_)
theorem spec_SecFlush.mono : ∀ a0 a1 k, LeO (spec_SecFlush.f k a0 a1) (spec_SecFlush.f (k + 1) a0 a1) := by
 intro a0 a1 k;have ih0:=spec_SecFlush.mono_l k
 unfold spec_SecFlush.f
 repeat' first
   | (with_reducible first|exact ih0 _ _ _ _|exact spec_SecOk.mono _ _ _|exact LeO.refl _|exact LeO.none _|refine LeO.ite ?_ ?_|refine LeO.bind ?_ (fun _=>?_))|exact ih0 _ _ _ _|exact spec_SecOk.mono _ _ _|exact LeO.none _|refine LeO.ite ?_ ?_|refine LeO.bind ?_ (fun _=>?_)
def spec_SecFlush.T7 : Bool × List (List Nat × List Nat) := (true, [([], []), ([0], [0]), ([], []), ([2], [2]), ([], []), ([3, 4], [3, 4]), ([5], [5]), ([6], [6]), ([], []), ([8], [8]), ([], []), ([9, 10], [9, 10]), ([11], [11]), ([12], [12]), ([1, 7, 0, 1, 2, 3, 4, 5, 6, 7, 8, 9, 10, 11, 12, 13], [1, 7]), ([14, 13, 0, 1, 2, 3, 4, 5, 6, 7, 8, 9, 10, 11, 12, 13], [13, 14])])
def spec_SecFlush.B7 : List Nat := [0, 1, 0, 4, 0, 28, 60, 124, 0, 256, 0, 1792, 3840, 7936, 16383, 32767]
theorem spec_SecFlush.tab7 : rtab .any (opsOf Try.f45 7) = spec_SecFlush.T7 := by kernel_rfl
theorem spec_SecFlush.bits7 : waitsOk spec_SecFlush.T7.2 spec_SecFlush.B7 = true := by kernel_rfl
set_option maxHeartbeats 8000000 in
set_option maxRecDepth 100000 in
theorem spec_SecFlush.calls (k : Nat) (A0_0 : Option Addr) (c0_0 : Nat) (l0_0 : List ByteArray) (A0_1 : Option Addr) (c0_1 : Nat) (l0_1 : List (S75)) (r1 : List ByteArray) (r2 : List (S75)) (w : World) (hr0_0 : Kd.C Kd.string w A0_0 l0_0.length l0_0) (hc0_0 : l0_0.length ≤ c0_0) (hr0_1 : Kd.C k75 w A0_1 l0_1.length l0_1) (hc0_1 : l0_1.length ≤ c0_1) (h : spec_SecFlush.f k l0_0 l0_1 = some (r1, r2)) :
  Calls Try.prog 45 #[.agg #[.slice A0_0 l0_0.length c0_0,.slice A0_1 l0_1.length c0_1]] w fun e w'=>∃ v0_ v1_:Value,e=.returned (.agg #[v0_,v1_])∧Kd.R Kd.string 9 w' w.heap.size (fun _=>True) v0_ r1∧Kd.R k75 75 w' w.heap.size (fun _=>True) v1_ r2∧Below w.heap.size w w':=by
 have hu31:=Try.underlying31;have HR0_0:=mA hr0_0;have HC0_0:=mA hc0_0;clear hr0_0 hc0_0;have HR0_1:=mA hr0_1;have HC0_1:=mA hc0_1;clear hr0_1 hc0_1;have HB:=mA (Below.refl w.heap.size w);have H:((spec_SecOk.f k l0_0 l0_1).bind fun t118=>(if t118=true then ((some (([]:List ByteArray):List ByteArray)).bind fun y119=>(if y119.length+l0_0.length<8796093022208 then (spec_SecFlush.l0 k 0 l0_0 l0_1 (y119 ++ l0_0)) else (none))) else (some (([]:List ByteArray),([]:List (S75))))))=some (r1,r2):=h;clear h;obtain ⟨t118,A2,H⟩:=bI H;(try dsimp only at H)
 by_cases c3:t118=true
 ·subst c3;rw [if_pos rfl] at H;obtain ⟨y119,hy119⟩:∃ y_:List ByteArray,y_=(([]:List ByteArray)):=⟨_,rfl⟩
  replace H:(if y119.length+l0_0.length<8796093022208 then (spec_SecFlush.l0 k 0 l0_0 l0_1 (y119 ++ l0_0)) else (none))=some (r1,r2):=qH hy119 H
  have Ny119:=mA hy119;clear hy119
  by_cases c4:y119.length+l0_0.length<8796093022208
  ·rw [if_pos c4] at H;have LMc4:=mA c4;clear c4;obtain ⟨y122,hy122⟩:∃ y_:List ByteArray,y_=(y119 ++ l0_0):=⟨_,rfl⟩
   replace H:(spec_SecFlush.l0 k 0 l0_0 l0_1 y122)=some (r1,r2):=qH hy122 H
   have Ny122:=mA hy122;clear hy122;have H':=mA H;clear H
   go_enter Try.func45,Try.ntmps45
   go_wp2_with (first|(refine bE 1 #[.slice A0_0 l0_0.length c0_0,.slice A0_1 l0_1.length c0_1] 31 ?_;intro gb116 hg w5 hbox hb;have BK116:=mA hbox;have GW116:=gbpB HB hg;have GE116:=gbpB HB hg;replace HB:=spB HB hb;clear hb hbox hg)|(refine bE 2 #[.slice none 0 0,.slice none 0 0] 31 ?_;intro gb117 hg w6 hbox hb;have BK117:=mA hbox;have GW117:=gbpS HB hg;have GE117:=gbpS HB hg;replace HB:=spS HB hb;have NB116_117:=mA (lN (blk_lt (pK BK116.out)) hg);have NB117_116:=nS NB116_117;replace BK116:=bK BK116 hb;clear hb hbox hg;have hnb7:=NB116_117.out;have hnc7:=NB117_116.out;obtain ⟨hcz8_0,hcz8_1,hfz8_0,hfz8_1⟩:=box2 BK116.out)|(refine gL (some 6) Try.func68 #[.agg #[.slice A0_0 l0_0.length c0_0,.slice A0_1 l0_1.length c0_1]] ?_;(with_reducible refine (spec_SecOk.calls k _ _ l0_0 _ _ l0_1 true _ ?s1 ?s2 ?s3 ?s4 A2.out).mono ?_);(case s1=>exact cB HR0_0 HB);(case s2=>exact HC0_0.out);(case s3=>exact cB HR0_1 HB);(case s4=>exact HC0_1.out);rintro e w9 ⟨rfl,hb⟩;refine ⟨_,rfl,?_⟩;replace BK116:=bK BK116 hb;replace BK117:=bK BK117 hb;replace HB:=spS HB hb;(try clear hb))|((with_reducible refine gate_dst (N:=9) rfl ?_);refine Kd.R_lit Kd.string _ 9 ?hg (N:=9) ?hd (xs:=([]:List ByteArray)) (inner:=[]) (ok:=fun _=>True) (okp:=fun _=>True) ?hr ?hp (fun _ hk=>hk) trivial (Below.refl _ _) (Nat.le_refl _) (by simp) ?_;(case hd=>rfl);(case hg=>rfl);(case hr=>first|(go_simp;done)|(go_simp;rfl));(case hp=>exact (Reps.none _ _));intro v120 w10 ho11 hb hg_ hnew_;clear hg_ hnew_;(first|rw [← Ny119.out] at ho11|(simp only [Int.reduceToNat] at ho11;rw [← Ny119.out] at ho11));have HO121:=mA (Kd.R_lower ho11 (bpS HB));replace BK116:=bK BK116 hb;replace BK117:=bK BK117 hb;replace HB:=spS HB hb;clear hb ho11;obtain ⟨hcz12_0,hcz12_1,hfz12_0,hfz12_1⟩:=box2 BK116.out)|((with_reducible refine gate_builtin (b:=.append) (xs:=#[.tmp 9,.tmp 11]) rfl ?_);at_builtin;refine Kd.R_append_rows Kd.string (w0:=w) w.heap.size rfl (.tmp 9) (.tmp 11) 22 9 (.string ⟨#[]⟩) 16 rfl Try.underlying22 info9 rfl aD (by omega) v120 y119 l0_0 _ _ _ (fun _=>True) (fun _=>False) rfl rfl ?aO ?aR (fun _ _ h=>h) (fun _ h=>h.elim) ?aF ?aB ?aS ?aL ?_;(case aR=>exact cB HR0_0 HB);(case aB=>exact (pS HB.out));(case aF=>exact (fun _ _=>trivial));(case aO=>exact (pR HO121.out));(case aS=>exact (bpS HB));(case aL=>have:=LMc4.out;omega);intro v123 w13 ho hb hg hat;rw [← Ny122.out] at ho;have HO124:=mA ho;replace BK116:=mA (blk_grown (pK BK116.out) hg (rN HO121 BK116));replace BK117:=mA (blk_grown (pK BK117.out) hg (rN HO121 BK117));replace HB:=mA hb;clear HO121;clear ho hb hg hat;obtain ⟨Ao14,co14,rfl⟩:=Kd.R_slice HO124.out)|(refine bE 3 #[.slice none 0 0,.slice none 0 0] 31 ?_;intro gb125 hg w15 hbox hb;replace HO124:=rB HO124 hb;have BK125:=mA hbox;have GW125:=gbpS HB hg;have GE125:=gbpS HB hg;replace HB:=spS HB hb;have NB116_125:=mA (lN (blk_lt (pK BK116.out)) hg);have NB125_116:=nS NB116_125;replace BK116:=bK BK116 hb;have NB117_125:=mA (lN (blk_lt (pK BK117.out)) hg);have NB125_117:=nS NB117_125;replace BK117:=bK BK117 hb;clear hb hbox hg;have hnb16:=NB125_116.out;have hnc16:=NB116_125.out;have hnb17:=NB125_117.out;have hnc17:=NB117_125.out;obtain ⟨hcz18_0,hcz18_1,hfz18_0,hfz18_1⟩:=box2 BK125.out))
   go_loopg [4] k (fun kq v4 w'=>∃ (x4_1:Int) (x126000_1:List ByteArray) (u126000:Value),v4=.int .i64 x4_1∧Aside0 (spec_SecFlush.l0 kq x4_1 l0_0 l0_1 x126000_1=some (r1,r2))∧Aside0 (kq≤k)∧Aside0 (Kd.R Kd.string 9 w' w.heap.size (fun _=>True) u126000 x126000_1)∧Aside0 (w'.heap[gb116]?=some (.cells #[(.slice A0_0 l0_0.length c0_0),(.slice A0_1 l0_1.length c0_1)] 31 (0,0)))∧Aside0 (w'.heap[gb117]?=some (.cells #[(.slice none 0 0),(.slice none 0 0)] 31 (0,0)))∧Aside0 (w'.heap[gb125]?=some (.cells #[u126000,(.slice none 0 0)] 31 (0,0)))∧Aside0 (Below w.heap.size w w'))
   case atStart=>exact ⟨(0),(y122),(.slice Ao14 y122.length co14),bZ,H',⟨Nat.le_refl _⟩,⟨pU HO124 BK125⟩,⟨pF BK116.out⟩,⟨pF BK117.out⟩,⟨pP BK125⟩,⟨pS HB.out⟩⟩
   case round =>
    clear H'
    (try clear c3);(try clear c4);(try clear hcz12_0);(try clear hcz12_1);(try clear hcz18_0);(try clear hcz18_1);(try clear hcz8_0);(try clear hcz8_1);(try clear hfz12_0);(try clear hfz12_1);(try clear hfz18_0);(try clear hfz18_1);(try clear hfz8_0);(try clear hfz8_1)
    obtain ⟨x4_1,x126000_1,u126000,rfl,HA,HK1,HO_126000,BK116,BK117,BK125,HB⟩:=hrel
    cases gk with
    | zero=>exact absurd HA.out (by simp [spec_SecFlush.l0])
    | succ k1 =>
     have H:=HA.out;clear HA;simp only [spec_SecFlush.l0] at H
     by_cases c19:x4_1<(l0_1.length:Int)
     ·rw [if_pos c19] at H;have c19b0:decide (x4_1<(l0_1.length:Int))=true:=decide_eq_true c19;clear c19
      by_cases c20:0≤x4_1
      ·rw [if_pos c20] at H;have c20b0:decide (0≤x4_1)=true:=decide_eq_true c20;clear c20
       by_cases c21:0≤((rd_T75 l0_1 x4_1).f0)
       ·rw [if_pos c21] at H;have c21b0:decide (0≤((rd_T75 l0_1 x4_1).f0))=true:=decide_eq_true c21;clear c21
        by_cases c22:((rd_T75 l0_1 x4_1).f0)<(x126000_1.length:Int)
        ·rw [if_pos c22] at H;have c22b0:decide (((rd_T75 l0_1 x4_1).f0)<(x126000_1.length:Int))=true:=decide_eq_true c22;clear c22;obtain ⟨y128,hy128⟩:∃ y_:List ByteArray,y_=(x126000_1.set (((rd_T75 l0_1 x4_1).f0):Int).toNat ((rd_T75 l0_1 x4_1).f1)):=⟨_,rfl⟩
         replace H:(spec_SecFlush.l0 k1 (wrap64 (x4_1+1)) l0_0 l0_1 y128)=some (r1,r2):=qH hy128 H
         have Ny128:=mA hy128;clear hy128;have H':=mA H;clear H;have hnb24:=NB116_117.out;have hnc24:=NB117_116.out;have hnb25:=NB116_125.out;have hnc25:=NB125_116.out;obtain ⟨hcz26_0,hcz26_1,hfz26_0,hfz26_1⟩:=box2 BK116.out
         try go_wp2
         replace HO_126000:=rD HO_126000;replace BK116:=mA (blk_drew BK116.out);replace BK117:=mA (blk_drew BK117.out);replace BK125:=mA (blk_drew BK125.out);replace HB:=mA (below_drew1 HB.out);have p126:0≤(x4_1:Int):=of_decide_eq_true bA;have q126:x4_1<(l0_1.length:Int):=of_decide_eq_true bA;obtain ⟨ad126,e126,hx126_0,hx126_1⟩:=at_T75 HR0_1.out x4_1 p126 q126;have hw126_1:=hx126_1;have hw126_0:=hx126_0;cases e126;replace hx126_0:=hC HB hx126_0;replace hx126_1:=hC HB hx126_1;replace p126:=eq_true p126;replace q126:=eq_true q126;have p127:0≤(x4_1:Int):=of_decide_eq_true bA;have q127:x4_1<(l0_1.length:Int):=of_decide_eq_true bA;obtain ⟨ad127,e127,hx127_0,hx127_1⟩:=at_T75 HR0_1.out x4_1 p127 q127;have hw127_1:=hx127_1;have hw127_0:=hx127_0
         obtain rfl:ad126=ad127:=(by injection e127)
         replace hx127_0:=hC HB hx127_0;replace hx127_1:=hC HB hx127_1;replace p127:=eq_true p127;replace q127:=eq_true q127;have p23:0≤(((rd_T75 l0_1 x4_1).f0):Int):=of_decide_eq_true bA;have q23:(((rd_T75 l0_1 x4_1).f0):Int)<((x126000_1.length:Int):Int):=of_decide_eq_true bA
         obtain ⟨go23,co23,eo23,gb23,gl23,cl23,HG23⟩:=Kd.R_form HO_126000.out (by omega)
         (first|cases eo23|(injection eo23 with ea_ en_ ec_;(first|subst ea_|(injection ea_ with ea_;subst ea_));subst ec_;clear en_))
         have GB23:=mA gb23;have GG23:=mA HG23;clear gb23 gl23 HG23;obtain ⟨hx23_0,hf23_0⟩:=Kd.R_celln (⟨#[]⟩:ByteArray) HO_126000.out (((rd_T75 l0_1 x4_1).f0):Int) p23 q23;replace p23:=eq_true p23;replace q23:=eq_true q23;have HP28:=Kd.R_putn HO_126000.out (((rd_T75 l0_1 x4_1).f0):Int) ((rd_T75 l0_1 x4_1).f1);rw [← Ny128.out] at HP28;have HQ28:=mA HP28;clear HP28
         refine start_ (n:=16) (S:=fun w'=>w'.cell? ⟨gb125,0,none⟩=some (.slice (some ⟨go23,0,none⟩) x126000_1.length co23)∧w'.cell? ⟨gb125,1,none⟩=some (.slice none 0 0)∧w'.cell? ⟨gb116,0,none⟩=some (.slice A0_0 l0_0.length c0_0)∧w'.cell? ⟨gb116,1,none⟩=some (.slice (some ad126) l0_1.length c0_1)∧w'.cell? (ad126.add ((x4_1).toNat * 2))=some (.int .i64 ((rd_T75 l0_1 x4_1).f0))∧w'.cell? ⟨(ad126.add ((x4_1).toNat * 2)).block,(ad126.add ((x4_1).toNat * 2)).off+1,none⟩=some (.string ((rd_T75 l0_1 x4_1).f1))∧w'.cell? (ad126.add ((x4_1).toNat * 2))=some (.int .i64 ((rd_T75 l0_1 x4_1).f0))∧w'.cell? ⟨(ad126.add ((x4_1).toNat * 2)).block,(ad126.add ((x4_1).toNat * 2)).off+1,none⟩=some (.string ((rd_T75 l0_1 x4_1).f1))) (ds:=[15]) _ aK rfl rfl ⟨eC BK125 0,eC BK125 1,eC BK116 0,eC BK116 1,((HB.out.cell (World.block_lt_of_cell? w _ hw126_0)).trans hw126_0),((HB.out.cell (World.block_lt_of_cell? w _ hw126_1)).trans hw126_1),((HB.out.cell (World.block_lt_of_cell? w _ hw127_0)).trans hw127_0),((HB.out.cell (World.block_lt_of_cell? w _ hw127_1)).trans hw127_1)⟩ (fun hHeld=>?_);refine with_tabW spec_SecFlush.tab7 spec_SecFlush.bits7 (fun HT_ HW_=>?_)
         generalize wr.drew=w27 at HO_126000 BK116 BK117 BK125 HB GG23 HQ28 hf23_0 hx126_0 hx126_1 hx127_0 hx127_1 hx23_0 hHeld ⊢
         refine pu_ 0 (some 21) (aT HT_) ?_
         refine pu_ 2 (some 23) (aT HT_) ?_
         refine pu_ 4 (some 25) (aT HT_) ?_
         refine pu_ 8 (some 29) (aT HT_) ?_
         refine pu_ 10 (some 31) (aT HT_) ?_
         refine ta8_ 1 (some 22) (tT HT_ HW_) hHeld ?_
         refine ta8_ 3 (some 24) (tT HT_ HW_) hHeld ?_
         refine pu_ 5 (some 26) (aT HT_) ?_
         refine pu_ 6 (some 27) (aT HT_) ?_
         refine ta8_ 7 (some 28) (tT HT_ HW_) hHeld ?_
         refine ta8_ 9 (some 30) (tT HT_ HW_) hHeld ?_
         refine pu_ 11 (some 32) (aT HT_) ?_
         refine pu_ 12 (some 33) (aT HT_) ?_
         refine ta8_ 13 (some 34) (tT HT_ HW_) hHeld ?_
         refine pu_ 14 (some 35) (aT HT_) ?_
         refine last_ (i:=15) (N:=none) #[true,true,true,true,true,true,true,true,true,true,true,true,true,true,true,true] rfl rfl (oT HT_) aD (fun K hK=>?_)
         refine skip_ (w1:=?_) (by rfl) rfl ?_ ?_
         rotate_left
         ·go_simp;rfl
         refine hK.out _ _ ?_;clear hK K
         refine done_ (done_of HT_.out aK) ?_
         try go_wp2
         go_roundg k1
         case measure=>have:=HK1.out;omega
         case rel=>exact ⟨(wrap64 (x4_1+1)),(y128),(.slice (some ⟨go23,0,none⟩) x126000_1.length co23),bZ,H',⟨by have:=HK1.out;omega⟩,⟨pR HQ28.out⟩,⟨by (with_reducible repeat (first|refine blk_drewN ?_ _|refine blk_drew ?_|refine blk_alloc ?_ _));refine blk_far ?_ (by have h_:=Kd.R_ne HO_126000.out BK116.out aD;intro e_;exact h_ (by rw [e_];rfl)) _;(with_reducible repeat (first|refine blk_drewN ?_ _|refine blk_drew ?_|refine blk_alloc ?_ _));exact BK116.out⟩,⟨by (with_reducible repeat (first|refine blk_drewN ?_ _|refine blk_drew ?_|refine blk_alloc ?_ _));refine blk_far ?_ (by have h_:=Kd.R_ne HO_126000.out BK117.out aD;intro e_;exact h_ (by rw [e_];rfl)) _;(with_reducible repeat (first|refine blk_drewN ?_ _|refine blk_drew ?_|refine blk_alloc ?_ _));exact BK117.out⟩,⟨by (with_reducible repeat (first|refine blk_drewN ?_ _|refine blk_drew ?_|refine blk_alloc ?_ _));refine blk_far ?_ (by have h_:=Kd.R_ne HO_126000.out BK125.out aD;intro e_;exact h_ (by rw [e_];rfl)) _;(with_reducible repeat (first|refine blk_drewN ?_ _|refine blk_drew ?_|refine blk_alloc ?_ _));exact BK125.out⟩,⟨by repeat (first|(with_reducible first|exact HB.out|apply below_alloc|apply pw_below_drewN|apply below_drew1|refine below_set ?_ GB23.out|refine below_set ?_ GE116.out|refine below_set ?_ GE117.out|refine below_set ?_ GE125.out)|exact HB.out)⟩⟩
        ·rw [if_neg c22] at H
         exact absurd H (by simp)
       ·rw [if_neg c21] at H
        exact absurd H (by simp)
      ·rw [if_neg c20] at H
       exact absurd H (by simp)
     ·rw [if_neg c19] at H;have c19b0:decide (x4_1<(l0_1.length:Int))=false:=decide_eq_false c19;clear c19;simp only [Option.some.injEq,Prod.mk.injEq] at H;obtain ⟨rfl,rfl⟩:=H;have hnb29:=NB116_117.out;have hnc29:=NB117_116.out;have hnb30:=NB116_125.out;have hnc30:=NB125_116.out;obtain ⟨hcz31_0,hcz31_1,hfz31_0,hfz31_1⟩:=box2 BK116.out;have hnb32:=NB125_117.out;have hnc32:=NB117_125.out;obtain ⟨hcz33_0,hcz33_1,hfz33_0,hfz33_1⟩:=box2 BK125.out;obtain ⟨Ao34,co34,rfl⟩:=Kd.R_slice HO_126000.out;obtain ⟨hcz35_0,hcz35_1,hfz35_0,hfz35_1⟩:=box2 BK117.out
      go_wp2
      refine bodyPost_ret (results_cell_row rfl _ _ gb117 31 #[.slice Ao34 x126000_1.length co34,.slice none 0 0] (0,0) _ rfl (pP BK117) Try.underlying31 rfl aK) rfl ?_
      exact ⟨_,_,by first|rfl|(simp [errW_none,errW_some]<;>rfl)|(simp [*,errW_none,errW_some]<;>rfl),pU HO_126000 BK117,aN,pS HB.out⟩
  ·rw [if_neg c4] at H
   exact absurd H (by simp)
 ·replace c3:=Bool.eq_false_iff.mpr c3;subst c3
  rw [if_neg nFT] at H
  simp only [Option.some.injEq,Prod.mk.injEq] at H;obtain ⟨rfl,rfl⟩:=H
  go_enter Try.func45,Try.ntmps45
  go_wp2_with (first|(refine bE 1 #[.slice A0_0 l0_0.length c0_0,.slice A0_1 l0_1.length c0_1] 31 ?_;intro gb116 hg w36 hbox hb;have BK116:=mA hbox;have GW116:=gbpB HB hg;have GE116:=gbpB HB hg;replace HB:=spB HB hb;clear hb hbox hg)|(refine bE 2 #[.slice none 0 0,.slice none 0 0] 31 ?_;intro gb117 hg w37 hbox hb;have BK117:=mA hbox;have GW117:=gbpS HB hg;have GE117:=gbpS HB hg;replace HB:=spS HB hb;have NB116_117:=mA (lN (blk_lt (pK BK116.out)) hg);have NB117_116:=nS NB116_117;replace BK116:=bK BK116 hb;clear hb hbox hg;have hnb38:=NB116_117.out;have hnc38:=NB117_116.out;obtain ⟨hcz39_0,hcz39_1,hfz39_0,hfz39_1⟩:=box2 BK116.out)|(refine gL (some 6) Try.func68 #[.agg #[.slice A0_0 l0_0.length c0_0,.slice A0_1 l0_1.length c0_1]] ?_;(with_reducible refine (spec_SecOk.calls k _ _ l0_0 _ _ l0_1 false _ ?s1 ?s2 ?s3 ?s4 A2.out).mono ?_);(case s1=>exact cB HR0_0 HB);(case s2=>exact HC0_0.out);(case s3=>exact cB HR0_1 HB);(case s4=>exact HC0_1.out);rintro e w40 ⟨rfl,hb⟩;refine ⟨_,rfl,?_⟩;replace BK116:=bK BK116 hb;replace BK117:=bK BK117 hb;replace HB:=spS HB hb;(try clear hb);obtain ⟨hcz41_0,hcz41_1,hfz41_0,hfz41_1⟩:=box2 BK117.out))
  refine bodyPost_ret (results_cell_row rfl _ _ gb117 31 #[.slice none 0 0,.slice none 0 0] (0,0) _ rfl (pP BK117) Try.underlying31 rfl aK) rfl ?_
  exact ⟨_,_,by first|rfl|(simp [errW_none,errW_some]<;>rfl)|(simp [*,errW_none,errW_some]<;>rfl),aN,aN,pS HB.out⟩

/-! ### impl_copied_string: function 50 -/
def impl_copied_string.f (l0 : List ByteArray) : Option (List ByteArray) := if l0.length ≤ 17592186044416 then some l0 else none
set_option maxHeartbeats 8000000 in
set_option maxRecDepth 100000 in
theorem impl_copied_string.calls (A0 : Option Addr) (c0 : Nat) (l0 : List ByteArray) (r : List ByteArray) (w : World) (hr0 : Kd.C Kd.string w A0 l0.length l0) (hc0 : l0.length ≤ c0) (h : impl_copied_string.f l0 = some r) :
    Calls Try.prog 50 #[.slice A0 l0.length c0] w fun e w' => ∃ v0_ : Value, e = .returned (v0_) ∧ Kd.R Kd.string 9 w' w.heap.size (fun _ => True) v0_ r ∧ Below w.heap.size w w' := by
  unfold impl_copied_string.f at h
  by_cases hz : l0.length ≤ 17592186044416
  · rw [if_pos hz] at h
    obtain rfl := Option.some.inj h
    have HR := Aside0.mk hr0
    have HZ := Aside0.mk hz
    clear hr0 hc0 h hz
    by_cases h0 : l0.length = 0
    · obtain rfl := List.eq_nil_of_length_eq_zero h0
      clear h0
      go_enter Try.func50, Try.ntmps50
      go_wp2
      go_ret
      exact ⟨_, rfl, Kd.R_nil _ _ _ _ _, Below.refl _ _⟩
    · have c0b : ((l0.length : Int) == 0) = false := beq_eq_false_iff_ne.mpr (by omega)
      have c0c : ((l0.length : Int) != 0) = true := bne_iff_ne.mpr (by omega)
      have c0d : ¬ (l0 = []) := fun h_ => h0 (by rw [h_]; rfl)
      clear h0
      have HB := Aside0.mk (Below.refl w.heap.size w)
      go_enter Try.func50, Try.ntmps50
      go_wp2_with (first
        | (refine Kd.R_make Kd.string _ 9 rfl (N := 9) rfl 22 _ _ rfl (l0.length : Int) rfl rfl Try.underlying22 (.string ⟨#[]⟩) 16 info9 rfl (by decide) (by omega) (⟨#[]⟩ : ByteArray) (ok := fun _ => True) (okp := fun _ => True) rfl (fun _ hk => hk) trivial (Int.natCast_nonneg _) (by have hz := HZ.out; rw [Int.toNat_natCast]; omega) HB.out (Nat.le_refl _) ?_
           intro v1 w1 hR1 hB1 hg1 hn1
           rw [Int.toNat_natCast] at hR1
           have HR1 := Aside0.mk hR1
           have HB1 := Aside0.mk hB1
           have HC1 := Aside0.mk (Kd.C_below HR.out (below_of_grown hg1))
           clear hR1 hB1 hg1 hn1)
        | (refine R_copy Kd.string flat_string w.heap.size rfl _ _ 22 22 9 rfl Try.underlying22 (by rw [show (Try.prog.info? 9).map (·.size) = ((Try.prog.info? 9).map (fun i => (i.zero, i.size, i.bytes))).map (fun x => x.2.1) from by rw [Option.map_map]; rfl, info9]; rfl) _ _ _ _ _ l0 (fun _ => True) rfl rfl rfl (by simp) HR1.out HC1.out HB1.out ?_
           intro w2 hR2 hB2 _
           have HR2 := Aside0.mk hR2
           have HB2 := Aside0.mk hB2
           clear hR2 hB2))
      go_ret
      exact ⟨_, rfl, HR2.out, HB2.out⟩
  · rw [if_neg hz] at h; cases h

/-! ### impl_in: function 77 -/
def impl_in.f (a0 : Int) (a1 : Int) (a2 : Int) : Option (Bool) := if a0 ≥ a1 then (some (decide (a0 ≤ a2))) else (some false)
set_option maxHeartbeats 8000000 in
set_option maxRecDepth 100000 in
theorem impl_in.calls (a0 : Int) (a1 : Int) (a2 : Int) (r : Bool) (w : World) (h : impl_in.f a0 a1 a2 = some r) :
  Calls Try.prog 77 #[.int .i64 a0,.int .i64 a1,.int .i64 a2] w fun e w'=>e=.returned (.bool r)∧Drawn0 w w':=by
 have H:(if a0 ≥ a1 then (some (decide (a0≤a2))) else (some false))=some r:=h;clear h
 by_cases c4:a0 ≥ a1
 ·rw [if_pos c4] at H;have c4b0:decide (a1≤a0)=true:=decide_eq_true c4;clear c4;obtain rfl:=Option.some.inj H
  go_enter Try.func77,Try.ntmps77
  go_wp2
  go_ret
  exact ⟨by first|rfl|(simp;done)|(simp [*];done),by repeat (first|exact Drawn0.refl _|apply Drawn0.step)⟩
 ·rw [if_neg c4] at H;have c4b0:decide (a1≤a0)=false:=decide_eq_false c4;clear c4;obtain rfl:=Option.some.inj H
  go_enter Try.func77,Try.ntmps77
  go_wp2
  go_ret
  exact ⟨by first|rfl|(simp;done)|(simp [*];done),by repeat (first|exact Drawn0.refl _|apply Drawn0.step)⟩

/-! ### impl_SecOk: function 63 -/
mutual
def impl_SecOk.l0 : Nat → List ByteArray → Int → Int → List ByteArray → List (S75) → Option (Bool)
 | 0,_,_,_,_,_=>none
 | k+1,x8,x9,x10,x196000,x196001=>if x10<x9 then (if 0≤x10 then (if x10<(x8.length:Int) then (if ((rdOf ByteArray.empty x8 x10).size:Int) > 16 then (some false) else (impl_SecOk.l0 k x8 x9 (wrap64 (x10+1)) x196000 x196001)) else (none)) else (none)) else (impl_SecOk.l1 k x196001 (x196001.length:Int) 0 x196000 x196001)
def impl_SecOk.l1 : Nat → List (S75) → Int → Int → List ByteArray → List (S75) → Option (Bool)
 | 0,_,_,_,_,_=>none
 | k+1,x19,x20,x21,x196000,x196001=>if x21<x20 then (if 0≤x21 then (if x21<(x19.length:Int) then (if (((rd_T75 x19 x21).f1).size:Int) > 16 then (some false) else ((impl_in.f ((rd_T75 x19 x21).f0) 0 (wrap64 ((x196000.length:Int) - 1))).bind fun t199=>(if t199=true then (impl_SecOk.l1 k x19 x20 (wrap64 (x21+1)) x196000 x196001) else (some false)))) else (none)) else (none)) else (if (x196000.length:Int)≤512 then (some (decide ((x196001.length:Int)≤600))) else (some false))
end
def impl_SecOk.f (k : Nat) (l0_0 : List ByteArray) (l0_1 : List (S75)) : Option (Bool) := impl_SecOk.l0 k l0_0 (l0_0.length : Int) 0 l0_0 l0_1
theorem impl_SecOk.mono_l : ∀ k, (∀ y0 y1 y2 y3 y4, LeO (impl_SecOk.l0 k y0 y1 y2 y3 y4) (impl_SecOk.l0 (k + 1) y0 y1 y2 y3 y4)) ∧ (∀ y0 y1 y2 y3 y4, LeO (impl_SecOk.l1 k y0 y1 y2 y3 y4) (impl_SecOk.l1 (k + 1) y0 y1 y2 y3 y4))
 | 0=>⟨fun _ _ _ _ _ r h=>by simp [impl_SecOk.l0] at h,fun _ _ _ _ _ r h=>by simp [impl_SecOk.l1] at h⟩
 | k+1=>by
  obtain ⟨ih0,ih1⟩:=impl_SecOk.mono_l k;refine ⟨?_,?_⟩
  ·intro y0 y1 y2 y3 y4
   unfold impl_SecOk.l0
   repeat' first
   | (with_reducible first|exact ih0 _ _ _ _ _|exact ih1 _ _ _ _ _|exact LeO.refl _|exact LeO.none _|refine LeO.ite ?_ ?_|refine LeO.bind ?_ (fun _=>?_))|exact ih0 _ _ _ _ _|exact ih1 _ _ _ _ _|exact LeO.none _|refine LeO.ite ?_ ?_|refine LeO.bind ?_ (fun _=>?_)
  ·intro y0 y1 y2 y3 y4
   unfold impl_SecOk.l1
   repeat' first
   | (with_reducible first|exact ih0 _ _ _ _ _|exact ih1 _ _ _ _ _|exact LeO.refl _|exact LeO.none _|refine LeO.ite ?_ ?_|refine LeO.bind ?_ (fun _=>?_))|exact ih0 _ _ _ _ _|exact ih1 _ _ _ _ _|exact LeO.none _|refine LeO.ite ?_ ?_|refine LeO.bind ?_ (fun _=>?_)
theorem impl_SecOk.mono : ∀ a0 a1 k, LeO (impl_SecOk.f k a0 a1) (impl_SecOk.f (k + 1) a0 a1) := by
 intro a0 a1 k;obtain ⟨ih0,ih1⟩:=impl_SecOk.mono_l k
 unfold impl_SecOk.f
 repeat' first
   | (with_reducible first|exact ih0 _ _ _ _ _|exact ih1 _ _ _ _ _|exact LeO.refl _|exact LeO.none _|refine LeO.ite ?_ ?_|refine LeO.bind ?_ (fun _=>?_))|exact ih0 _ _ _ _ _|exact ih1 _ _ _ _ _|exact LeO.none _|refine LeO.ite ?_ ?_|refine LeO.bind ?_ (fun _=>?_)
set_option maxHeartbeats 8000000 in
set_option maxRecDepth 100000 in
theorem impl_SecOk.calls (k : Nat) (A0_0 : Option Addr) (c0_0 : Nat) (l0_0 : List ByteArray) (A0_1 : Option Addr) (c0_1 : Nat) (l0_1 : List (S75)) (r : Bool) (w : World) (hr0_0 : Kd.C Kd.string w A0_0 l0_0.length l0_0) (hc0_0 : l0_0.length ≤ c0_0) (hr0_1 : Kd.C k75 w A0_1 l0_1.length l0_1) (hc0_1 : l0_1.length ≤ c0_1) (h : impl_SecOk.f k l0_0 l0_1 = some r) :
  Calls Try.prog 63 #[.agg #[.slice A0_0 l0_0.length c0_0,.slice A0_1 l0_1.length c0_1]] w fun e w'=>e=.returned (.bool r)∧Below w.heap.size w w':=by
 have hu31:=Try.underlying31;have hu75:=Try.underlying75;have HR0_0:=mA hr0_0;have HC0_0:=mA hc0_0;clear hr0_0 hc0_0;have HR0_1:=mA hr0_1;have HC0_1:=mA hc0_1;clear hr0_1 hc0_1;have HB:=mA (Below.refl w.heap.size w);have H:(impl_SecOk.l0 k l0_0 (l0_0.length:Int) 0 l0_0 l0_1)=some r:=h;clear h;have H':=mA H;clear H
 go_enter Try.func63,Try.ntmps63
 go_wp2_with (first|((with_reducible refine gate_dst (N:=1) rfl ?_);(try (refine gate_guard (by rfl) ?_;dsimp only));refine bE 1 #[.slice A0_0 l0_0.length c0_0,.slice A0_1 l0_1.length c0_1] 31 ?_;intro gb195 hg w2 hbox hb;have BK195:=mA hbox;have GW195:=gbpB HB hg;have GE195:=gbpB HB hg;replace HB:=spB HB hb;clear hb hbox hg;obtain ⟨hcz3_0,hcz3_1,hfz3_0,hfz3_1⟩:=box2 BK195.out))
 go_loopg [10] k (fun kq v10 w'=>∃ (x10_1:Int),v10=.int .i64 x10_1∧Aside0 (impl_SecOk.l0 kq l0_0 (l0_0.length:Int) x10_1 l0_0 l0_1=some r)∧Aside0 (kq≤k)∧Aside0 (w'.heap[gb195]?=some (.cells #[(.slice A0_0 l0_0.length c0_0),(.slice A0_1 l0_1.length c0_1)] 31 (0,0)))∧Aside0 (Below w.heap.size w w'))
 case atStart=>exact ⟨(0),bZ,H',⟨Nat.le_refl _⟩,⟨pK BK195.out⟩,⟨pS HB.out⟩⟩
 case round =>
  clear H'
  (try clear hcz3_0);(try clear hcz3_1);(try clear hfz3_0);(try clear hfz3_1)
  obtain ⟨x10_1,rfl,HA,HK1,BK195,HB⟩:=hrel
  cases gk with
  | zero=>exact absurd HA.out (by simp [impl_SecOk.l0])
  | succ k1 =>
   have H:=HA.out;clear HA;simp only [impl_SecOk.l0] at H
   by_cases c4:x10_1<(l0_0.length:Int)
   ·rw [if_pos c4] at H;have c4b0:decide (x10_1<(l0_0.length:Int))=true:=decide_eq_true c4;clear c4
    by_cases c5:0≤x10_1
    ·rw [if_pos c5] at H;have c5b0:decide (0≤x10_1)=true:=decide_eq_true c5;clear c5
     by_cases c6:x10_1<(l0_0.length:Int)
     ·rw [if_pos c6] at H;have c6b0:decide (x10_1<(l0_0.length:Int))=true:=decide_eq_true c6;clear c6
      by_cases c7:((rdOf ByteArray.empty l0_0 x10_1).size:Int) > 16
      ·rw [if_pos c7] at H;have c7b0:decide (16<((rdOf ByteArray.empty l0_0 x10_1).size:Int))=true:=decide_eq_true c7
       have c7b1:decide (16<(rdOf ByteArray.empty l0_0 x10_1).size)=true:=decide_eq_true (by omega)
       clear c7;obtain rfl:=Option.some.inj H;have p196:0≤(x10_1:Int):=of_decide_eq_true bA;have q196:x10_1<(l0_0.length:Int):=of_decide_eq_true bA;obtain ⟨ad196,e196,hx196_0⟩:=Kd.at_string HR0_0.out x10_1 p196 q196;cases e196;replace hx196_0:=hC HB hx196_0;replace p196:=eq_true p196;replace q196:=eq_true q196
       go_wp2
       go_ret
       exact ⟨by first|rfl|(simp [errW_none,errW_some]<;>rfl)|(simp [*,errW_none,errW_some]<;>rfl),pS HB.out⟩
      ·rw [if_neg c7] at H;have c7b0:decide (16<((rdOf ByteArray.empty l0_0 x10_1).size:Int))=false:=decide_eq_false c7
       have c7b1:decide (16<(rdOf ByteArray.empty l0_0 x10_1).size)=false:=decide_eq_false (by omega)
       clear c7;have H':=mA H;clear H;have p196:0≤(x10_1:Int):=of_decide_eq_true bA;have q196:x10_1<(l0_0.length:Int):=of_decide_eq_true bA;obtain ⟨ad196,e196,hx196_0⟩:=Kd.at_string HR0_0.out x10_1 p196 q196;cases e196;replace hx196_0:=hC HB hx196_0;replace p196:=eq_true p196;replace q196:=eq_true q196
       go_wp2
       go_roundg k1
       case measure=>have:=HK1.out;omega
       case rel=>exact ⟨(wrap64 (x10_1+1)),bZ,H',⟨by have:=HK1.out;omega⟩,⟨pK BK195.out⟩,⟨pS HB.out⟩⟩
     ·rw [if_neg c6] at H
      exact absurd H (by simp)
    ·rw [if_neg c5] at H
     exact absurd H (by simp)
   ·rw [if_neg c4] at H;have c4b0:decide (x10_1<(l0_0.length:Int))=false:=decide_eq_false c4;clear c4;have H':=mA H;clear H;obtain ⟨hcz8_0,hcz8_1,hfz8_0,hfz8_1⟩:=box2 BK195.out
    go_wp2
    go_loopg [21] k1 (fun kq v21 w'=>∃ (x21_2:Int),v21=.int .i64 x21_2∧Aside0 (impl_SecOk.l1 kq l0_1 (l0_1.length:Int) x21_2 l0_0 l0_1=some r)∧Aside0 (kq≤k1)∧Aside0 (w'.heap[gb195]?=some (.cells #[(.slice A0_0 l0_0.length c0_0),(.slice A0_1 l0_1.length c0_1)] 31 (0,0)))∧Aside0 (Below w.heap.size w w'))
    case atStart=>exact ⟨(0),bZ,H',⟨Nat.le_refl _⟩,⟨pK BK195.out⟩,⟨pS HB.out⟩⟩
    case round =>
     clear H'
     (try clear c4);(try clear c4b0);(try clear hcz3_0);(try clear hcz3_1);(try clear hcz8_0);(try clear hcz8_1);(try clear hfz3_0);(try clear hfz3_1);(try clear hfz8_0);(try clear hfz8_1)
     obtain ⟨x21_2,rfl,HA,HK2,BK195,HB⟩:=hrel
     cases gk with
     | zero=>exact absurd HA.out (by simp [impl_SecOk.l1])
     | succ k2 =>
      have H:=HA.out;clear HA;simp only [impl_SecOk.l1] at H
      by_cases c9:x21_2<(l0_1.length:Int)
      ·rw [if_pos c9] at H;have c9b0:decide (x21_2<(l0_1.length:Int))=true:=decide_eq_true c9;clear c9
       by_cases c10:0≤x21_2
       ·rw [if_pos c10] at H;have c10b0:decide (0≤x21_2)=true:=decide_eq_true c10;clear c10
        by_cases c11:x21_2<(l0_1.length:Int)
        ·rw [if_pos c11] at H;have c11b0:decide (x21_2<(l0_1.length:Int))=true:=decide_eq_true c11;clear c11
         by_cases c12:(((rd_T75 l0_1 x21_2).f1).size:Int) > 16
         ·rw [if_pos c12] at H;have c12b0:decide (16<(((rd_T75 l0_1 x21_2).f1).size:Int))=true:=decide_eq_true c12
          have c12b1:decide (16<((rd_T75 l0_1 x21_2).f1).size)=true:=decide_eq_true (by omega)
          clear c12;obtain rfl:=Option.some.inj H;have p197:0≤(x21_2:Int):=of_decide_eq_true bA;have q197:x21_2<(l0_1.length:Int):=of_decide_eq_true bA;obtain ⟨ad197,e197,hx197_0,hx197_1⟩:=at_T75 HR0_1.out x21_2 p197 q197;cases e197;replace hx197_0:=hC HB hx197_0;replace hx197_1:=hC HB hx197_1;replace p197:=eq_true p197;replace q197:=eq_true q197
          go_wp2_with (first|((with_reducible refine gate_dst (N:=6) rfl ?_);(try (refine gate_guard (by rfl) ?_;dsimp only));refine bE 6 #[.int .i64 0,.string (⟨#[]⟩:ByteArray)] 75 ?_;intro gb198 hg w13 hbox hb;have BK198:=mA hbox;have GW198:=gbpS HB hg;have GE198:=gbpS HB hg;replace HB:=spS HB hb;have NB195_198:=mA (lN (blk_lt (pK BK195.out)) hg);have NB198_195:=nS NB195_198;replace BK195:=bK BK195 hb;clear hb hbox hg;have hnb14:=NB198_195.out;have hnc14:=NB195_198.out;obtain ⟨hcz15_0,hcz15_1,hfz15_0,hfz15_1⟩:=box2 BK198.out))
          go_ret
          exact ⟨by first|rfl|(simp [errW_none,errW_some]<;>rfl)|(simp [*,errW_none,errW_some]<;>rfl),pS HB.out⟩
         ·rw [if_neg c12] at H;have c12b0:decide (16<(((rd_T75 l0_1 x21_2).f1).size:Int))=false:=decide_eq_false c12
          have c12b1:decide (16<((rd_T75 l0_1 x21_2).f1).size)=false:=decide_eq_false (by omega)
          clear c12;obtain ⟨t199,A16,H⟩:=bI H;(try dsimp only at H)
          by_cases c17:t199=true
          ·subst c17;rw [if_pos rfl] at H;have H':=mA H;clear H;have p197:0≤(x21_2:Int):=of_decide_eq_true bA;have q197:x21_2<(l0_1.length:Int):=of_decide_eq_true bA;obtain ⟨ad197,e197,hx197_0,hx197_1⟩:=at_T75 HR0_1.out x21_2 p197 q197;cases e197;replace hx197_0:=hC HB hx197_0;replace hx197_1:=hC HB hx197_1;replace p197:=eq_true p197;replace q197:=eq_true q197
           go_wp2_with (first|((with_reducible refine gate_dst (N:=6) rfl ?_);(try (refine gate_guard (by rfl) ?_;dsimp only));refine bE 6 #[.int .i64 0,.string (⟨#[]⟩:ByteArray)] 75 ?_;intro gb198 hg w18 hbox hb;have BK198:=mA hbox;have GW198:=gbpS HB hg;have GE198:=gbpS HB hg;replace HB:=spS HB hb;have NB195_198:=mA (lN (blk_lt (pK BK195.out)) hg);have NB198_195:=nS NB195_198;replace BK195:=bK BK195 hb;clear hb hbox hg;have hnb19:=NB198_195.out;have hnc19:=NB195_198.out;obtain ⟨hcz20_0,hcz20_1,hfz20_0,hfz20_1⟩:=box2 BK198.out;obtain ⟨hcz21_0,hcz21_1,hfz21_0,hfz21_1⟩:=box2 BK195.out)|(go_at_call 77;(with_reducible refine (impl_in.calls ((rd_T75 l0_1 x21_2).f0) 0 (wrap64 ((l0_0.length:Int) - 1)) true _ A16.out).mono ?_);rintro e w' ⟨rfl,⟨nd,rfl⟩⟩))
           go_roundg k2
           case measure=>have:=HK1.out;have:=HK2.out;omega
           case rel=>exact ⟨(wrap64 (x21_2+1)),bZ,H',⟨by have:=HK1.out;have:=HK2.out;omega⟩,⟨pF BK195.out⟩,⟨pS HB.out⟩⟩
          ·replace c17:=Bool.eq_false_iff.mpr c17;subst c17
           rw [if_neg nFT] at H
           obtain rfl:=Option.some.inj H;have p197:0≤(x21_2:Int):=of_decide_eq_true bA;have q197:x21_2<(l0_1.length:Int):=of_decide_eq_true bA;obtain ⟨ad197,e197,hx197_0,hx197_1⟩:=at_T75 HR0_1.out x21_2 p197 q197;cases e197;replace hx197_0:=hC HB hx197_0;replace hx197_1:=hC HB hx197_1;replace p197:=eq_true p197;replace q197:=eq_true q197
           go_wp2_with (first|((with_reducible refine gate_dst (N:=6) rfl ?_);(try (refine gate_guard (by rfl) ?_;dsimp only));refine bE 6 #[.int .i64 0,.string (⟨#[]⟩:ByteArray)] 75 ?_;intro gb198 hg w22 hbox hb;have BK198:=mA hbox;have GW198:=gbpS HB hg;have GE198:=gbpS HB hg;replace HB:=spS HB hb;have NB195_198:=mA (lN (blk_lt (pK BK195.out)) hg);have NB198_195:=nS NB195_198;replace BK195:=bK BK195 hb;clear hb hbox hg;have hnb23:=NB198_195.out;have hnc23:=NB195_198.out;obtain ⟨hcz24_0,hcz24_1,hfz24_0,hfz24_1⟩:=box2 BK198.out;obtain ⟨hcz25_0,hcz25_1,hfz25_0,hfz25_1⟩:=box2 BK195.out)|(go_at_call 77;(with_reducible refine (impl_in.calls ((rd_T75 l0_1 x21_2).f0) 0 (wrap64 ((l0_0.length:Int) - 1)) false _ A16.out).mono ?_);rintro e w' ⟨rfl,⟨nd,rfl⟩⟩))
           go_ret
           exact ⟨by first|rfl|(simp [errW_none,errW_some]<;>rfl)|(simp [*,errW_none,errW_some]<;>rfl),pS HB.out⟩
        ·rw [if_neg c11] at H
         exact absurd H (by simp)
       ·rw [if_neg c10] at H
        exact absurd H (by simp)
      ·rw [if_neg c9] at H;have c9b0:decide (x21_2<(l0_1.length:Int))=false:=decide_eq_false c9;clear c9
       by_cases c26:(l0_0.length:Int)≤512
       ·rw [if_pos c26] at H;have c26b0:decide ((l0_0.length:Int)≤512)=true:=decide_eq_true c26
        have c26b1:decide (l0_0.length≤512)=true:=decide_eq_true (by omega)
        clear c26;obtain rfl:=Option.some.inj H;obtain ⟨hcz27_0,hcz27_1,hfz27_0,hfz27_1⟩:=box2 BK195.out
        go_wp2
        go_ret
        exact ⟨by first|rfl|(simp [errW_none,errW_some]<;>rfl)|(simp [*,errW_none,errW_some]<;>rfl),pS HB.out⟩
       ·rw [if_neg c26] at H;have c26b0:decide ((l0_0.length:Int)≤512)=false:=decide_eq_false c26
        have c26b1:decide (l0_0.length≤512)=false:=decide_eq_false (by omega)
        clear c26;obtain rfl:=Option.some.inj H;obtain ⟨hcz28_0,hcz28_1,hfz28_0,hfz28_1⟩:=box2 BK195.out
        go_wp2
        go_ret
        exact ⟨by first|rfl|(simp [errW_none,errW_some]<;>rfl)|(simp [*,errW_none,errW_some]<;>rfl),pS HB.out⟩

/-! ### impl_SecFlush: function 51 -/
def impl_SecFlush.l0 : Nat → List (S75) → Int → Int → List ByteArray → Option (List ByteArray × (List (S75)))
 | 0,_,_,_,_=>none
 | k+1,x15,x16,x17,x207000=>if x17<x16 then (if 0≤x17 then (if x17<(x15.length:Int) then (if 0≤((rd_T75 x15 x17).f0) then (if ((rd_T75 x15 x17).f0)<(x207000.length:Int) then (impl_SecFlush.l0 k x15 x16 (wrap64 (x17+1)) (x207000.set (((rd_T75 x15 x17).f0):Int).toNat ((rd_T75 x15 x17).f1))) else (none)) else (none)) else (none)) else (none)) else (some (x207000,([]:List (S75))))
def impl_SecFlush.f (k : Nat) (l0_0 : List ByteArray) (l0_1 : List (S75)) : Option (List ByteArray × (List (S75))) := (impl_SecOk.f k l0_0 l0_1).bind fun t202 => (if t202 = true then ((impl_copied_string.f l0_0).bind fun t203 => (impl_SecFlush.l0 k l0_1 (l0_1.length : Int) 0 t203)) else (some (([] : List ByteArray), ([] : List (S75)))))
theorem impl_SecFlush.mono_l : ∀ k, (∀ y0 y1 y2 y3, LeO (impl_SecFlush.l0 k y0 y1 y2 y3) (impl_SecFlush.l0 (k + 1) y0 y1 y2 y3))
 | 0=>fun _ _ _ _ r h=>by simp [impl_SecFlush.l0] at h
 | k+1=>by
  have ih0:=impl_SecFlush.mono_l k
  ·intro y0 y1 y2 y3
   unfold impl_SecFlush.l0
   repeat' first
   | (with_reducible first|exact ih0 _ _ _ _|exact impl_SecOk.mono _ _ _|exact LeO.refl _|exact LeO.none _|refine LeO.ite ?_ ?_|refine LeO.bind ?_ (fun _=>?_))|exact ih0 _ _ _ _|exact impl_SecOk.mono _ _ _|exact LeO.none _|refine LeO.ite ?_ ?_|refine LeO.bind ?_ (fun _=>?_)
theorem impl_SecFlush.mono : ∀ a0 a1 k, LeO (impl_SecFlush.f k a0 a1) (impl_SecFlush.f (k + 1) a0 a1) := by
 intro a0 a1 k;have ih0:=impl_SecFlush.mono_l k
 unfold impl_SecFlush.f
 repeat' first
   | (with_reducible first|exact ih0 _ _ _ _|exact impl_SecOk.mono _ _ _|exact LeO.refl _|exact LeO.none _|refine LeO.ite ?_ ?_|refine LeO.bind ?_ (fun _=>?_))|exact ih0 _ _ _ _|exact impl_SecOk.mono _ _ _|exact LeO.none _|refine LeO.ite ?_ ?_|refine LeO.bind ?_ (fun _=>?_)
set_option maxHeartbeats 8000000 in
set_option maxRecDepth 100000 in
theorem impl_SecFlush.calls (k : Nat) (A0_0 : Option Addr) (c0_0 : Nat) (l0_0 : List ByteArray) (A0_1 : Option Addr) (c0_1 : Nat) (l0_1 : List (S75)) (r1 : List ByteArray) (r2 : List (S75)) (w : World) (hr0_0 : Kd.C Kd.string w A0_0 l0_0.length l0_0) (hc0_0 : l0_0.length ≤ c0_0) (hr0_1 : Kd.C k75 w A0_1 l0_1.length l0_1) (hc0_1 : l0_1.length ≤ c0_1) (h : impl_SecFlush.f k l0_0 l0_1 = some (r1, r2)) :
  Calls Try.prog 51 #[.agg #[.slice A0_0 l0_0.length c0_0,.slice A0_1 l0_1.length c0_1]] w fun e w'=>∃ v0_ v1_:Value,e=.returned (.agg #[v0_,v1_])∧Kd.R Kd.string 9 w' w.heap.size (fun _=>True) v0_ r1∧Kd.R k75 75 w' w.heap.size (fun _=>True) v1_ r2∧Below w.heap.size w w':=by
 have hu31:=Try.underlying31;have hu75:=Try.underlying75;have HR0_0:=mA hr0_0;have HC0_0:=mA hc0_0;clear hr0_0 hc0_0;have HR0_1:=mA hr0_1;have HC0_1:=mA hc0_1;clear hr0_1 hc0_1;have HB:=mA (Below.refl w.heap.size w);have H:((impl_SecOk.f k l0_0 l0_1).bind fun t202=>(if t202=true then ((impl_copied_string.f l0_0).bind fun t203=>(impl_SecFlush.l0 k l0_1 (l0_1.length:Int) 0 t203)) else (some (([]:List ByteArray),([]:List (S75))))))=some (r1,r2):=h;clear h;obtain ⟨t202,A2,H⟩:=bI H;(try dsimp only at H)
 by_cases c3:t202=true
 ·subst c3;rw [if_pos rfl] at H;obtain ⟨t203,A4,H⟩:=bI H;(try dsimp only at H);have H':=mA H;clear H
  go_enter Try.func51,Try.ntmps51
  go_wp2_with (first|(refine bE 1 #[.slice A0_0 l0_0.length c0_0,.slice A0_1 l0_1.length c0_1] 31 ?_;intro gb200 hg w5 hbox hb;have BK200:=mA hbox;have GW200:=gbpB HB hg;have GE200:=gbpB HB hg;replace HB:=spB HB hb;clear hb hbox hg)|(refine bE 2 #[.slice none 0 0,.slice none 0 0] 31 ?_;intro gb201 hg w6 hbox hb;have BK201:=mA hbox;have GW201:=gbpS HB hg;have GE201:=gbpS HB hg;replace HB:=spS HB hb;have NB200_201:=mA (lN (blk_lt (pK BK200.out)) hg);have NB201_200:=nS NB200_201;replace BK200:=bK BK200 hb;clear hb hbox hg;have hnb7:=NB200_201.out;have hnc7:=NB201_200.out;obtain ⟨hcz8_0,hcz8_1,hfz8_0,hfz8_1⟩:=box2 BK200.out)|(refine gL (some 7) Try.func63 #[.agg #[.slice A0_0 l0_0.length c0_0,.slice A0_1 l0_1.length c0_1]] ?_;(with_reducible refine (impl_SecOk.calls k _ _ l0_0 _ _ l0_1 true _ ?s1 ?s2 ?s3 ?s4 A2.out).mono ?_);(case s1=>exact cB HR0_0 HB);(case s2=>exact HC0_0.out);(case s3=>exact cB HR0_1 HB);(case s4=>exact HC0_1.out);rintro e w9 ⟨rfl,hb⟩;refine ⟨_,rfl,?_⟩;replace BK200:=bK BK200 hb;replace BK201:=bK BK201 hb;replace HB:=spS HB hb;(try clear hb);obtain ⟨hcz10_0,hcz10_1,hfz10_0,hfz10_1⟩:=box2 BK200.out)|(refine gL (some 12) Try.func50 #[.slice A0_0 l0_0.length c0_0] ?_;(with_reducible refine (impl_copied_string.calls _ _ l0_0 t203 _ ?s1 ?s2 A4.out).mono ?_);(case s1=>exact cB HR0_0 HB);(case s2=>exact HC0_0.out);rintro e w11 ⟨v204,rfl,ho0,hb⟩;refine ⟨_,rfl,?_⟩;have HO205:=mA (Kd.R_lower ho0 (bpS HB));replace BK200:=bK BK200 hb;replace BK201:=bK BK201 hb;replace HB:=spS HB hb;(try clear hb);(try clear ho0);obtain ⟨Ao12,co12,rfl⟩:=Kd.R_slice HO205.out)|(refine bE 3 #[.slice none 0 0,.slice none 0 0] 31 ?_;intro gb206 hg w13 hbox hb;replace HO205:=rB HO205 hb;have BK206:=mA hbox;have GW206:=gbpS HB hg;have GE206:=gbpS HB hg;replace HB:=spS HB hb;have NB200_206:=mA (lN (blk_lt (pK BK200.out)) hg);have NB206_200:=nS NB200_206;replace BK200:=bK BK200 hb;have NB201_206:=mA (lN (blk_lt (pK BK201.out)) hg);have NB206_201:=nS NB201_206;replace BK201:=bK BK201 hb;clear hb hbox hg;have hnb14:=NB206_200.out;have hnc14:=NB200_206.out;have hnb15:=NB206_201.out;have hnc15:=NB201_206.out;obtain ⟨hcz16_0,hcz16_1,hfz16_0,hfz16_1⟩:=box2 BK206.out;obtain ⟨hcz17_0,hcz17_1,hfz17_0,hfz17_1⟩:=box2 BK200.out))
  go_loopg [17] k (fun kq v17 w'=>∃ (x17_1:Int) (x207000_1:List ByteArray) (u207000:Value),v17=.int .i64 x17_1∧Aside0 (impl_SecFlush.l0 kq l0_1 (l0_1.length:Int) x17_1 x207000_1=some (r1,r2))∧Aside0 (kq≤k)∧Aside0 (Kd.R Kd.string 9 w' w.heap.size (fun _=>True) u207000 x207000_1)∧Aside0 (w'.heap[gb200]?=some (.cells #[(.slice A0_0 l0_0.length c0_0),(.slice A0_1 l0_1.length c0_1)] 31 (0,0)))∧Aside0 (w'.heap[gb201]?=some (.cells #[(.slice none 0 0),(.slice none 0 0)] 31 (0,0)))∧Aside0 (w'.heap[gb206]?=some (.cells #[u207000,(.slice none 0 0)] 31 (0,0)))∧Aside0 (Below w.heap.size w w'))
  case atStart=>exact ⟨(0),(t203),(.slice Ao12 t203.length co12),bZ,H',⟨Nat.le_refl _⟩,⟨pU HO205 BK206⟩,⟨pF BK200.out⟩,⟨pF BK201.out⟩,⟨pP BK206⟩,⟨pS HB.out⟩⟩
  case round =>
   clear H'
   (try clear c3);(try clear hcz10_0);(try clear hcz10_1);(try clear hcz16_0);(try clear hcz16_1);(try clear hcz17_0);(try clear hcz17_1);(try clear hcz8_0);(try clear hcz8_1);(try clear hfz10_0);(try clear hfz10_1);(try clear hfz16_0);(try clear hfz16_1);(try clear hfz17_0);(try clear hfz17_1);(try clear hfz8_0);(try clear hfz8_1)
   obtain ⟨x17_1,x207000_1,u207000,rfl,HA,HK1,HO_207000,BK200,BK201,BK206,HB⟩:=hrel
   cases gk with
   | zero=>exact absurd HA.out (by simp [impl_SecFlush.l0])
   | succ k1 =>
    have H:=HA.out;clear HA;simp only [impl_SecFlush.l0] at H
    by_cases c18:x17_1<(l0_1.length:Int)
    ·rw [if_pos c18] at H;have c18b0:decide (x17_1<(l0_1.length:Int))=true:=decide_eq_true c18;clear c18
     by_cases c19:0≤x17_1
     ·rw [if_pos c19] at H;have c19b0:decide (0≤x17_1)=true:=decide_eq_true c19;clear c19
      by_cases c20:x17_1<(l0_1.length:Int)
      ·rw [if_pos c20] at H;have c20b0:decide (x17_1<(l0_1.length:Int))=true:=decide_eq_true c20;clear c20
       by_cases c21:0≤((rd_T75 l0_1 x17_1).f0)
       ·rw [if_pos c21] at H;have c21b0:decide (0≤((rd_T75 l0_1 x17_1).f0))=true:=decide_eq_true c21;clear c21
        by_cases c22:((rd_T75 l0_1 x17_1).f0)<(x207000_1.length:Int)
        ·rw [if_pos c22] at H;have c22b0:decide (((rd_T75 l0_1 x17_1).f0)<(x207000_1.length:Int))=true:=decide_eq_true c22;clear c22;obtain ⟨y209,hy209⟩:∃ y_:List ByteArray,y_=(x207000_1.set (((rd_T75 l0_1 x17_1).f0):Int).toNat ((rd_T75 l0_1 x17_1).f1)):=⟨_,rfl⟩
         replace H:(impl_SecFlush.l0 k1 l0_1 (l0_1.length:Int) (wrap64 (x17_1+1)) y209)=some (r1,r2):=qH hy209 H
         have Ny209:=mA hy209;clear hy209;have H':=mA H;clear H;have p207:0≤(x17_1:Int):=of_decide_eq_true bA;have q207:x17_1<(l0_1.length:Int):=of_decide_eq_true bA;obtain ⟨ad207,e207,hx207_0,hx207_1⟩:=at_T75 HR0_1.out x17_1 p207 q207;cases e207;replace hx207_0:=hC HB hx207_0;replace hx207_1:=hC HB hx207_1;replace p207:=eq_true p207;replace q207:=eq_true q207
         go_wp2_with (first|(refine bE 5 #[.int .i64 0,.string (⟨#[]⟩:ByteArray)] 75 ?_;intro gb208 hg w24 hbox hb;replace HO_207000:=rB HO_207000 hb;have BK208:=mA hbox;have GW208:=gbpS HB hg;have GE208:=gbpS HB hg;replace HB:=spS HB hb;have NB200_208:=mA (lN (blk_lt (pK BK200.out)) hg);have NB208_200:=nS NB200_208;replace BK200:=bK BK200 hb;have NB201_208:=mA (lN (blk_lt (pK BK201.out)) hg);have NB208_201:=nS NB201_208;replace BK201:=bK BK201 hb;have NB206_208:=mA (lN (blk_lt (pK BK206.out)) hg);have NB208_206:=nS NB206_208;replace BK206:=bK BK206 hb;clear hb hbox hg;have hnb25:=NB208_200.out;have hnc25:=NB200_208.out;have hnb26:=NB208_201.out;have hnc26:=NB201_208.out;have hnb27:=NB208_206.out;have hnc27:=NB206_208.out;obtain ⟨hcz28_0,hcz28_1,hfz28_0,hfz28_1⟩:=box2 BK208.out)|((with_reducible refine gate_store (t:=75) (p:=5) rfl ?_);refine store_event (t:=75) (p:=5) (v:=?vo_w29) (w1:=((w24.setCell ⟨gb208,0,none⟩ (.int .i64 ((rd_T75 l0_1 x17_1).f0))).setCell ⟨gb208,1,none⟩ (.string ((rd_T75 l0_1 x17_1).f1)))) ?hg ?ho ?hn ?hr ?_;(case ho=>rfl);(case hg=>rfl);(case hn=>rfl);(case hr=>first|(go_simp;done)|(go_simp;rfl));intro w29 hw;have n0_:Aside0 (Kd.R Kd.string 9 w29 w.heap.size (fun _=>True) u207000 x207000_1):=⟨(by rw [hw];exact (pU HO_207000 BK208))⟩;have n1_:Aside0 (w29.heap[gb200]?=some (.cells #[.slice A0_0 l0_0.length c0_0,.slice (some ad207) l0_1.length c0_1] 31 (0,0))):=⟨(by rw [hw];exact (pF BK200.out))⟩;have n2_:Aside0 (w29.heap[gb201]?=some (.cells #[.slice none 0 0,.slice none 0 0] 31 (0,0))):=⟨(by rw [hw];exact (pF BK201.out))⟩;have n3_:Aside0 (w29.heap[gb206]?=some (.cells #[u207000,.slice none 0 0] 31 (0,0))):=⟨(by rw [hw];exact (pF BK206.out))⟩;have n4_:Aside0 (w29.heap[gb208]?=some (.cells #[.int .i64 ((rd_T75 l0_1 x17_1).f0),.string ((rd_T75 l0_1 x17_1).f1)] 75 (0,0))):=⟨(by rw [hw];exact (pP BK208))⟩;have n5_:Aside0 (Below w.heap.size w w29):=⟨(by rw [hw];exact (pS HB.out))⟩;clear hw;clear HO_207000;clear BK200;clear BK201;clear BK206;clear BK208;clear HB;have HO_207000:=n0_;have BK200:=n1_;have BK201:=n2_;have BK206:=n3_;have BK208:=n4_;have HB:=n5_;clear n0_ n1_ n2_ n3_ n4_ n5_;have hnb30:=NB206_200.out;have hnc30:=NB200_206.out;have hnb31:=NB206_201.out;have hnc31:=NB201_206.out;obtain ⟨hcz32_0,hcz32_1,hfz32_0,hfz32_1⟩:=box2 BK206.out;obtain ⟨hcz33_0,hcz33_1,hfz33_0,hfz33_1⟩:=box2 BK208.out;have p23:0≤(((rd_T75 l0_1 x17_1).f0):Int):=of_decide_eq_true bA;have q23:(((rd_T75 l0_1 x17_1).f0):Int)<((x207000_1.length:Int):Int):=of_decide_eq_true bA;obtain ⟨go23,co23,eo23,gb23,gl23,cl23,HG23⟩:=Kd.R_form HO_207000.out (by omega);(first|cases eo23|(injection eo23 with ea_ en_ ec_;(first|subst ea_|(injection ea_ with ea_;subst ea_));subst ec_;clear en_));have GB23:=mA gb23;have GG23:=mA HG23;clear gb23 gl23 HG23;obtain ⟨hx23_0,hf23_0⟩:=Kd.R_celln (⟨#[]⟩:ByteArray) HO_207000.out (((rd_T75 l0_1 x17_1).f0):Int) p23 q23;replace p23:=eq_true p23;replace q23:=eq_true q23;obtain ⟨hy34_,hz34_⟩:=Kd.R_celln (⟨#[]⟩:ByteArray) HO_207000.out (((rd_T75 l0_1 x17_1).f0):Int) (of_decide_eq_true bA) (of_decide_eq_true bA);have HP34:=Kd.R_putg HO_207000.out (((rd_T75 l0_1 x17_1).f0):Int) ((rd_T75 l0_1 x17_1).f1))|((with_reducible refine gate_store (t:=9) (p:=27) rfl ?_);refine store_event (t:=9) (p:=27) (v:=?vo_w35) (w1:=(w29.setCell ⟨go23,(((rd_T75 l0_1 x17_1).f0):Int).toNat,none⟩ (.string ((rd_T75 l0_1 x17_1).f1)))) ?hg ?ho ?hn ?hr ?_;(case ho=>rfl);(case hg=>rfl);(case hn=>rfl);(case hr=>first|(go_simp;done)|(go_simp;rfl));intro w35 hw;have hg:w29.grownBy w35 (some go23):=(by rw [hw];exact HP34.2);have hp_:Kd.R Kd.string 9 w35 w.heap.size (fun _=>True) (.slice (some ⟨go23,0,none⟩) x207000_1.length co23) y209:=(by rw [hw,Ny209.out];exact HP34.1);clear HP34;replace BK200:=mA (blk_grown (pK BK200.out) hg (rN HO_207000 BK200));replace BK201:=mA (blk_grown (pK BK201.out) hg (rN HO_207000 BK201));replace BK206:=mA (blk_grown (pK BK206.out) hg (rN HO_207000 BK206));replace BK208:=mA (blk_grown (pK BK208.out) hg (rN HO_207000 BK208));replace HO_207000:=mA hp_;replace HB:=mA (by rw [hw];exact below_set (HB.out) GB23.out:Below w.heap.size w w35);clear hg hw hp_))
         go_roundg k1
         case measure=>have:=HK1.out;omega
         case rel=>exact ⟨(wrap64 (x17_1+1)),(y209),(.slice (some ⟨go23,0,none⟩) x207000_1.length co23),bZ,H',⟨by have:=HK1.out;omega⟩,⟨pR HO_207000.out⟩,⟨pK BK200.out⟩,⟨pK BK201.out⟩,⟨pK BK206.out⟩,⟨pS HB.out⟩⟩
        ·rw [if_neg c22] at H
         exact absurd H (by simp)
       ·rw [if_neg c21] at H
        exact absurd H (by simp)
      ·rw [if_neg c20] at H
       exact absurd H (by simp)
     ·rw [if_neg c19] at H
      exact absurd H (by simp)
    ·rw [if_neg c18] at H;have c18b0:decide (x17_1<(l0_1.length:Int))=false:=decide_eq_false c18;clear c18;simp only [Option.some.injEq,Prod.mk.injEq] at H;obtain ⟨rfl,rfl⟩:=H;have hnb36:=NB206_200.out;have hnc36:=NB200_206.out;have hnb37:=NB206_201.out;have hnc37:=NB201_206.out;obtain ⟨hcz38_0,hcz38_1,hfz38_0,hfz38_1⟩:=box2 BK206.out;obtain ⟨Ao39,co39,rfl⟩:=Kd.R_slice HO_207000.out;have hnb40:=NB201_200.out;have hnc40:=NB200_201.out;obtain ⟨hcz41_0,hcz41_1,hfz41_0,hfz41_1⟩:=box2 BK201.out
     go_wp2
     refine bodyPost_ret (results_cell_row rfl _ _ gb201 31 #[.slice Ao39 x207000_1.length co39,.slice none 0 0] (0,0) _ rfl (pP BK201) Try.underlying31 rfl aK) rfl ?_
     exact ⟨_,_,by first|rfl|(simp [errW_none,errW_some]<;>rfl)|(simp [*,errW_none,errW_some]<;>rfl),pU HO_207000 BK201,aN,pS HB.out⟩
 ·replace c3:=Bool.eq_false_iff.mpr c3;subst c3
  rw [if_neg nFT] at H
  simp only [Option.some.injEq,Prod.mk.injEq] at H;obtain ⟨rfl,rfl⟩:=H
  go_enter Try.func51,Try.ntmps51
  go_wp2_with (first|(refine bE 1 #[.slice A0_0 l0_0.length c0_0,.slice A0_1 l0_1.length c0_1] 31 ?_;intro gb200 hg w42 hbox hb;have BK200:=mA hbox;have GW200:=gbpB HB hg;have GE200:=gbpB HB hg;replace HB:=spB HB hb;clear hb hbox hg)|(refine bE 2 #[.slice none 0 0,.slice none 0 0] 31 ?_;intro gb201 hg w43 hbox hb;have BK201:=mA hbox;have GW201:=gbpS HB hg;have GE201:=gbpS HB hg;replace HB:=spS HB hb;have NB200_201:=mA (lN (blk_lt (pK BK200.out)) hg);have NB201_200:=nS NB200_201;replace BK200:=bK BK200 hb;clear hb hbox hg;have hnb44:=NB200_201.out;have hnc44:=NB201_200.out;obtain ⟨hcz45_0,hcz45_1,hfz45_0,hfz45_1⟩:=box2 BK200.out)|(refine gL (some 7) Try.func63 #[.agg #[.slice A0_0 l0_0.length c0_0,.slice A0_1 l0_1.length c0_1]] ?_;(with_reducible refine (impl_SecOk.calls k _ _ l0_0 _ _ l0_1 false _ ?s1 ?s2 ?s3 ?s4 A2.out).mono ?_);(case s1=>exact cB HR0_0 HB);(case s2=>exact HC0_0.out);(case s3=>exact cB HR0_1 HB);(case s4=>exact HC0_1.out);rintro e w46 ⟨rfl,hb⟩;refine ⟨_,rfl,?_⟩;replace BK200:=bK BK200 hb;replace BK201:=bK BK201 hb;replace HB:=spS HB hb;(try clear hb);obtain ⟨hcz47_0,hcz47_1,hfz47_0,hfz47_1⟩:=box2 BK201.out))
  refine bodyPost_ret (results_cell_row rfl _ _ gb201 31 #[.slice none 0 0,.slice none 0 0] (0,0) _ rfl (pP BK201) Try.underlying31 rfl aK) rfl ?_
  exact ⟨_,_,by first|rfl|(simp [errW_none,errW_some]<;>rfl)|(simp [*,errW_none,errW_some]<;>rfl),aN,aN,pS HB.out⟩

end Go.Proofs.Ythjocaegapchaaa.P
