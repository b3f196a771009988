-- printed by pprint.py (this session's program over the kit's printer) out of the translation. Lean checks it.
import Derived.Test.YtoieojmfkkidnaaPx0
import Derived.Test.YtoieojmfkkidnaaPx11
namespace Go.Proofs.Ytoieojmfkkidnaa.P
open Go.RowKit Go.Proofs.YtoieojmfkkidnaaX Go.Proofs.YtoieojmfkkidnaaW.PrintWords Go.Proofs.YtoieojmfkkidnaaW.PrintLast Go.Proofs.YtoieojmfkkidnaaW.PrintMore
attribute [local go_sem] max2_int min2_int max_two min_two max_three min_three max_four min_four   -- for this text's walks alone
set_option linter.unusedVariables false
set_option linter.unusedSimpArgs false

/-! ### laws_heldBlkLastS: function 103 -/
def laws_heldBlkLastS.l0 : Nat → List (S140) → Int → Int → Option (Int)
 | 0,_,_,_=>none
 | k+1,x0,x1,x5=>if x5<(x0.length:Int) then (if 0≤x5 then (if ((rd_T140 x0 x5).f0)=x1 then (if ((rd_T140 x0 x5).f1)=(wrap64 (x1+1)) then (laws_heldBlkLastS.l0 k x0 (wrap64 ((wrap64 (x1+1))+1)) (wrap64 (x5+1))) else (some (-1))) else (some (-1))) else (none)) else (some x1)
def laws_heldBlkLastS.f (k : Nat) (l0 : List (S140)) (a1 : Int) : Option (Int) := laws_heldBlkLastS.l0 k l0 a1 0
theorem laws_heldBlkLastS.mono_l : ∀ k, (∀ y0 y1 y2, LeO (laws_heldBlkLastS.l0 k y0 y1 y2) (laws_heldBlkLastS.l0 (k + 1) y0 y1 y2))
 | 0=>fun _ _ _ r h=>by simp [laws_heldBlkLastS.l0] at h
 | k+1=>by
  have ih0:=laws_heldBlkLastS.mono_l k
  ·intros
   unfold laws_heldBlkLastS.l0
   repeat' first
   | (with_reducible first|apply ih0|exact LeO.refl _|exact LeO.none _|refine LeO.ite ?_ ?_|refine LeO.bind ?_ (fun _=>?_))|exact LeO.none _|refine LeO.ite ?_ ?_|refine LeO.bind ?_ (fun _=>?_)
theorem laws_heldBlkLastS.mono : ∀ a0 a1 k, LeO (laws_heldBlkLastS.f k a0 a1) (laws_heldBlkLastS.f (k + 1) a0 a1) := by
 intro a0 a1 k;have ih0:=laws_heldBlkLastS.mono_l k
 unfold laws_heldBlkLastS.f
 repeat' first
   | (with_reducible first|apply ih0|exact LeO.refl _|exact LeO.none _|refine LeO.ite ?_ ?_|refine LeO.bind ?_ (fun _=>?_))|exact LeO.none _|refine LeO.ite ?_ ?_|refine LeO.bind ?_ (fun _=>?_)
set_option maxHeartbeats 8000000 in
set_option maxRecDepth 100000 in
theorem laws_heldBlkLastS.calls {k : Nat} {A0 : Option Addr} {c0 : Nat} {l0 : List (S140)} {a1 r : Int} {w : World} (hr0 : Kd.C k140 w A0 l0.length l0) (hc0 : l0.length ≤ c0) (h : laws_heldBlkLastS.f k l0 a1 = some r) :
  Calls Try.prog 103 #[.slice A0 l0.length c0,.int .i64 a1] w fun e w'=>e=.returned (.int .i64 r)∧Drawn0 w w':=by
 have HR0:=mA hr0;have HC0:=mA hc0;clear hr0 hc0;have H:(laws_heldBlkLastS.l0 k l0 a1 0)=some r:=h;clear h;have H':=mA H;clear H
 go_enter Try.func103,Try.ntmps103
 go_wp2
 go_loopg [1,5] k (fun kq v1 v5 w'=>∃ (x1_1:Int) (x5_1:Int),v1=.int .i64 x1_1∧v5=.int .i64 x5_1∧Aside0 (laws_heldBlkLastS.l0 kq l0 x1_1 x5_1=some r)∧Aside0 (kq≤k)∧Drawn0 w w')
 case atStart=>exact ⟨(a1),(0),bZ,bZ,H',⟨Nat.le_refl _⟩,by repeat (first|exact Drawn0.refl _|apply Drawn0.step)⟩
 case round =>
  clear H'
  obtain ⟨x1_1,x5_1,rfl,rfl,HA,HK1,⟨m1,rfl⟩⟩:=hrel
  cases gk with
  | zero=>exact absurd HA.out (by simp [laws_heldBlkLastS.l0])
  | succ k1 =>
   have H:=HA.out;clear HA;simp only [laws_heldBlkLastS.l0] at H
   by_cases c3:x5_1<(l0.length:Int)
   ·rw [if_pos c3] at H;have c3b0:decide (x5_1<(l0.length:Int))=true:=decide_eq_true c3;clear c3
    by_cases c4:0≤x5_1
    ·rw [if_pos c4] at H;have c4b0:decide (0≤x5_1)=true:=decide_eq_true c4;clear c4
     by_cases c5:((rd_T140 l0 x5_1).f0)=x1_1
     ·rw [if_pos c5] at H;obtain ⟨c5b0,c5b1⟩:=eqB c5;clear c5
      by_cases c6:((rd_T140 l0 x5_1).f1)=(wrap64 (x1_1+1))
      ·rw [if_pos c6] at H;obtain ⟨c6b0,c6b1⟩:=eqB c6;clear c6;have H':=mA H;clear H;have p250:0≤(x5_1:Int):=of_decide_eq_true bA;have q250:x5_1<(l0.length:Int):=of_decide_eq_true bA;obtain ⟨ad250,e250,hx250_0,hx250_1⟩:=at_T140 HR0.out x5_1 p250 q250;cases e250;replace p250:=eq_true p250;replace q250:=eq_true q250;go_wp2
       go_roundg k1
       case measure=>have:=HK1.out;omega
       case rel=>exact ⟨(wrap64 ((wrap64 (x1_1+1))+1)),(wrap64 (x5_1+1)),bZ,bZ,H',⟨by have:=HK1.out;omega⟩,by repeat (first|exact Drawn0.refl _|apply Drawn0.step)⟩
      ·rw [if_neg c6] at H;obtain ⟨c6b0,c6b1⟩:=neB c6;clear c6;obtain rfl:=Option.some.inj H;have p250:0≤(x5_1:Int):=of_decide_eq_true bA;have q250:x5_1<(l0.length:Int):=of_decide_eq_true bA;obtain ⟨ad250,e250,hx250_0,hx250_1⟩:=at_T140 HR0.out x5_1 p250 q250;cases e250;replace p250:=eq_true p250;replace q250:=eq_true q250;go_wp2
       go_ret
       exact ⟨by first|rfl|(simp;done)|(simp [*];done),by repeat (first|exact Drawn0.refl _|apply Drawn0.step)⟩
     ·rw [if_neg c5] at H;obtain ⟨c5b0,c5b1⟩:=neB c5;clear c5;obtain rfl:=Option.some.inj H;have p250:0≤(x5_1:Int):=of_decide_eq_true bA;have q250:x5_1<(l0.length:Int):=of_decide_eq_true bA;obtain ⟨ad250,e250,hx250_0,hx250_1⟩:=at_T140 HR0.out x5_1 p250 q250;cases e250;replace p250:=eq_true p250;replace q250:=eq_true q250
      go_wp2
      go_ret
      exact ⟨by first|rfl|(simp;done)|(simp [*];done),by repeat (first|exact Drawn0.refl _|apply Drawn0.step)⟩
    ·rw [if_neg c4] at H
     exact absurd H (by simp)
   ·rw [if_neg c3] at H;have c3b0:decide (x5_1<(l0.length:Int))=false:=decide_eq_false c3;clear c3;obtain rfl:=Option.some.inj H
    go_wp2
    go_ret
    exact ⟨by first|rfl|(simp;done)|(simp [*];done),by repeat (first|exact Drawn0.refl _|apply Drawn0.step)⟩

/-! ### laws_heldWordS: function 42 -/
def laws_heldWordS.l0 : Nat → List (S28) → Int → Int → Option (Int)
 | 0,_,_,_=>none
 | k+1,x0,x1,x5=>if x5<(x0.length:Int) then (if 0≤x5 then (if ((rd_T28 x0 x5).f0)=x1 then (if ((rd_T28 x0 x5).f1)=(wrap64 (x1+1)) then (if ((rd_T28 x0 x5).f2)=(wrap64 ((wrap64 (x1+1))+1)) then (if ((rd_T28 x0 x5).f3)=(wrap64 ((wrap64 ((wrap64 (x1+1))+1))+1)) then (if ((rd_T28 x0 x5).f4)=(wrap64 ((wrap64 ((wrap64 ((wrap64 (x1+1))+1))+1))+1)) then (if ((rd_T28 x0 x5).f5)=(wrap64 ((wrap64 ((wrap64 ((wrap64 ((wrap64 (x1+1))+1))+1))+1))+1)) then (if ((rd_T28 x0 x5).f6.f0)=(wrap64 ((wrap64 ((wrap64 ((wrap64 ((wrap64 ((wrap64 (x1+1))+1))+1))+1))+1))+1)) then (if ((rd_T28 x0 x5).f6.f1)=(wrap64 ((wrap64 ((wrap64 ((wrap64 ((wrap64 ((wrap64 ((wrap64 (x1+1))+1))+1))+1))+1))+1))+1)) then (if ((rd_T28 x0 x5).f6.f2)=(wrap64 ((wrap64 ((wrap64 ((wrap64 ((wrap64 ((wrap64 ((wrap64 ((wrap64 (x1+1))+1))+1))+1))+1))+1))+1))+1)) then (if ((rd_T28 x0 x5).f6.f3)=(wrap64 ((wrap64 ((wrap64 ((wrap64 ((wrap64 ((wrap64 ((wrap64 ((wrap64 ((wrap64 (x1+1))+1))+1))+1))+1))+1))+1))+1))+1)) then (if ((rd_T28 x0 x5).f6.f4)=(wrap64 ((wrap64 ((wrap64 ((wrap64 ((wrap64 ((wrap64 ((wrap64 ((wrap64 ((wrap64 ((wrap64 (x1+1))+1))+1))+1))+1))+1))+1))+1))+1))+1)) then (if ((rd_T28 x0 x5).f6.f5)=(wrap64 ((wrap64 ((wrap64 ((wrap64 ((wrap64 ((wrap64 ((wrap64 ((wrap64 ((wrap64 ((wrap64 ((wrap64 (x1+1))+1))+1))+1))+1))+1))+1))+1))+1))+1))+1)) then (if ((rd_T28 x0 x5).f6.f6)=(wrap64 ((wrap64 ((wrap64 ((wrap64 ((wrap64 ((wrap64 ((wrap64 ((wrap64 ((wrap64 ((wrap64 ((wrap64 ((wrap64 (x1+1))+1))+1))+1))+1))+1))+1))+1))+1))+1))+1))+1)) then (if ((rd_T28 x0 x5).f6.f7)=(wrap64 ((wrap64 ((wrap64 ((wrap64 ((wrap64 ((wrap64 ((wrap64 ((wrap64 ((wrap64 ((wrap64 ((wrap64 ((wrap64 ((wrap64 (x1+1))+1))+1))+1))+1))+1))+1))+1))+1))+1))+1))+1))+1)) then (if ((rd_T28 x0 x5).f6.f8)=(wrap64 ((wrap64 ((wrap64 ((wrap64 ((wrap64 ((wrap64 ((wrap64 ((wrap64 ((wrap64 ((wrap64 ((wrap64 ((wrap64 ((wrap64 ((wrap64 (x1+1))+1))+1))+1))+1))+1))+1))+1))+1))+1))+1))+1))+1))+1)) then (if ((rd_T28 x0 x5).f6.f9)=(wrap64 ((wrap64 ((wrap64 ((wrap64 ((wrap64 ((wrap64 ((wrap64 ((wrap64 ((wrap64 ((wrap64 ((wrap64 ((wrap64 ((wrap64 ((wrap64 ((wrap64 (x1+1))+1))+1))+1))+1))+1))+1))+1))+1))+1))+1))+1))+1))+1))+1)) then (if ((rd_T28 x0 x5).f7)=(wrap64 ((wrap64 ((wrap64 ((wrap64 ((wrap64 ((wrap64 ((wrap64 ((wrap64 ((wrap64 ((wrap64 ((wrap64 ((wrap64 ((wrap64 ((wrap64 ((wrap64 ((wrap64 (x1+1))+1))+1))+1))+1))+1))+1))+1))+1))+1))+1))+1))+1))+1))+1))+1)) then (if ((rd_T28 x0 x5).f8)=(wrap64 ((wrap64 ((wrap64 ((wrap64 ((wrap64 ((wrap64 ((wrap64 ((wrap64 ((wrap64 ((wrap64 ((wrap64 ((wrap64 ((wrap64 ((wrap64 ((wrap64 ((wrap64 ((wrap64 (x1+1))+1))+1))+1))+1))+1))+1))+1))+1))+1))+1))+1))+1))+1))+1))+1))+1)) then (if ((rd_T28 x0 x5).f9)=(wrap64 ((wrap64 ((wrap64 ((wrap64 ((wrap64 ((wrap64 ((wrap64 ((wrap64 ((wrap64 ((wrap64 ((wrap64 ((wrap64 ((wrap64 ((wrap64 ((wrap64 ((wrap64 ((wrap64 ((wrap64 (x1+1))+1))+1))+1))+1))+1))+1))+1))+1))+1))+1))+1))+1))+1))+1))+1))+1))+1)) then (if ((rd_T28 x0 x5).f10)=(wrap64 ((wrap64 ((wrap64 ((wrap64 ((wrap64 ((wrap64 ((wrap64 ((wrap64 ((wrap64 ((wrap64 ((wrap64 ((wrap64 ((wrap64 ((wrap64 ((wrap64 ((wrap64 ((wrap64 ((wrap64 ((wrap64 (x1+1))+1))+1))+1))+1))+1))+1))+1))+1))+1))+1))+1))+1))+1))+1))+1))+1))+1))+1)) then (if ((rd_T28 x0 x5).f11)=(wrap64 ((wrap64 ((wrap64 ((wrap64 ((wrap64 ((wrap64 ((wrap64 ((wrap64 ((wrap64 ((wrap64 ((wrap64 ((wrap64 ((wrap64 ((wrap64 ((wrap64 ((wrap64 ((wrap64 ((wrap64 ((wrap64 ((wrap64 (x1+1))+1))+1))+1))+1))+1))+1))+1))+1))+1))+1))+1))+1))+1))+1))+1))+1))+1))+1))+1)) then (if ((rd_T28 x0 x5).f12)=(wrap64 ((wrap64 ((wrap64 ((wrap64 ((wrap64 ((wrap64 ((wrap64 ((wrap64 ((wrap64 ((wrap64 ((wrap64 ((wrap64 ((wrap64 ((wrap64 ((wrap64 ((wrap64 ((wrap64 ((wrap64 ((wrap64 ((wrap64 ((wrap64 (x1+1))+1))+1))+1))+1))+1))+1))+1))+1))+1))+1))+1))+1))+1))+1))+1))+1))+1))+1))+1))+1)) then (if ((rd_T28 x0 x5).f13)=(wrap64 ((wrap64 ((wrap64 ((wrap64 ((wrap64 ((wrap64 ((wrap64 ((wrap64 ((wrap64 ((wrap64 ((wrap64 ((wrap64 ((wrap64 ((wrap64 ((wrap64 ((wrap64 ((wrap64 ((wrap64 ((wrap64 ((wrap64 ((wrap64 ((wrap64 (x1+1))+1))+1))+1))+1))+1))+1))+1))+1))+1))+1))+1))+1))+1))+1))+1))+1))+1))+1))+1))+1))+1)) then (if ((rd_T28 x0 x5).f14)=(wrap64 ((wrap64 ((wrap64 ((wrap64 ((wrap64 ((wrap64 ((wrap64 ((wrap64 ((wrap64 ((wrap64 ((wrap64 ((wrap64 ((wrap64 ((wrap64 ((wrap64 ((wrap64 ((wrap64 ((wrap64 ((wrap64 ((wrap64 ((wrap64 ((wrap64 ((wrap64 (x1+1))+1))+1))+1))+1))+1))+1))+1))+1))+1))+1))+1))+1))+1))+1))+1))+1))+1))+1))+1))+1))+1))+1)) then ((laws_heldBlkPieceS.f k ([]:List (S138)) (wrap64 ((wrap64 ((wrap64 ((wrap64 ((wrap64 ((wrap64 ((wrap64 ((wrap64 ((wrap64 ((wrap64 ((wrap64 ((wrap64 ((wrap64 ((wrap64 ((wrap64 ((wrap64 ((wrap64 ((wrap64 ((wrap64 ((wrap64 ((wrap64 ((wrap64 ((wrap64 ((wrap64 (x1+1))+1))+1))+1))+1))+1))+1))+1))+1))+1))+1))+1))+1))+1))+1))+1))+1))+1))+1))+1))+1))+1))+1))+1))).bind fun t277=>(if t277<0 then (some (-1)) else ((laws_heldBlkLastS.f k ([]:List (S140)) t277).bind fun t279=>(if t279<0 then (some (-1)) else (laws_heldWordS.l0 k x0 t279 (wrap64 (x5+1))))))) else (some (-1))) else (some (-1))) else (some (-1))) else (some (-1))) else (some (-1))) else (some (-1))) else (some (-1))) else (some (-1))) else (some (-1))) else (some (-1))) else (some (-1))) else (some (-1))) else (some (-1))) else (some (-1))) else (some (-1))) else (some (-1))) else (some (-1))) else (some (-1))) else (some (-1))) else (some (-1))) else (some (-1))) else (some (-1))) else (some (-1))) else (some (-1))) else (none)) else (some x1)
def laws_heldWordS.f (k : Nat) (l0 : List (S28)) (a1 : Int) : Option (Int) := laws_heldWordS.l0 k l0 a1 0
theorem laws_heldWordS.mono_l : ∀ k, (∀ y0 y1 y2, LeO (laws_heldWordS.l0 k y0 y1 y2) (laws_heldWordS.l0 (k + 1) y0 y1 y2))
 | 0=>fun _ _ _ r h=>by simp [laws_heldWordS.l0] at h
 | k+1=>by
  have ih0:=laws_heldWordS.mono_l k
  ·intros
   unfold laws_heldWordS.l0
   repeat' first
   | (with_reducible first|apply ih0|apply laws_heldBlkLastS.mono|apply laws_heldBlkPieceS.mono|exact LeO.refl _|exact LeO.none _|refine LeO.ite ?_ ?_|refine LeO.bind ?_ (fun _=>?_))|exact LeO.none _|refine LeO.ite ?_ ?_|refine LeO.bind ?_ (fun _=>?_)
theorem laws_heldWordS.mono : ∀ a0 a1 k, LeO (laws_heldWordS.f k a0 a1) (laws_heldWordS.f (k + 1) a0 a1) := by
 intro a0 a1 k;have ih0:=laws_heldWordS.mono_l k
 unfold laws_heldWordS.f
 repeat' first
   | (with_reducible first|apply ih0|apply laws_heldBlkLastS.mono|apply laws_heldBlkPieceS.mono|exact LeO.refl _|exact LeO.none _|refine LeO.ite ?_ ?_|refine LeO.bind ?_ (fun _=>?_))|exact LeO.none _|refine LeO.ite ?_ ?_|refine LeO.bind ?_ (fun _=>?_)
set_option maxHeartbeats 8000000 in
set_option maxRecDepth 100000 in
theorem laws_heldWordS.calls {k : Nat} {A0 : Option Addr} {c0 : Nat} {l0 : List (S28)} {a1 r : Int} {w : World} (hr0 : Kd.C k28 w A0 l0.length l0) (hc0 : l0.length ≤ c0) (h : laws_heldWordS.f k l0 a1 = some r) :
  Calls Try.prog 42 #[.slice A0 l0.length c0,.int .i64 a1] w fun e w'=>e=.returned (.int .i64 r)∧Drawn0 w w':=by
 have HR0:=mA hr0;have HC0:=mA hc0;clear hr0 hc0;have H:(laws_heldWordS.l0 k l0 a1 0)=some r:=h;clear h;have H':=mA H;clear H
 go_enter Try.func42,Try.ntmps42
 go_wp2
 go_loopg [1,5] k (fun kq v1 v5 w'=>∃ (x1_1:Int) (x5_1:Int),v1=.int .i64 x1_1∧v5=.int .i64 x5_1∧Aside0 (laws_heldWordS.l0 kq l0 x1_1 x5_1=some r)∧Aside0 (kq≤k)∧Drawn0 w w')
 case atStart=>exact ⟨(a1),(0),bZ,bZ,H',⟨Nat.le_refl _⟩,by repeat (first|exact Drawn0.refl _|apply Drawn0.step)⟩
 case round =>
  clear H'
  obtain ⟨x1_1,x5_1,rfl,rfl,HA,HK1,⟨m1,rfl⟩⟩:=hrel
  cases gk with
  | zero=>exact absurd HA.out (by simp [laws_heldWordS.l0])
  | succ k1 =>
   have H:=HA.out;clear HA;simp only [laws_heldWordS.l0] at H
   by_cases c3:x5_1<(l0.length:Int)
   ·rw [if_pos c3] at H;have c3b0:decide (x5_1<(l0.length:Int))=true:=decide_eq_true c3;clear c3
    by_cases c4:0≤x5_1
    ·rw [if_pos c4] at H;have c4b0:decide (0≤x5_1)=true:=decide_eq_true c4;clear c4
     have p252:0≤(x5_1:Int):=of_decide_eq_true bA;have q252:x5_1<(l0.length:Int):=of_decide_eq_true bA;obtain ⟨ad252,e252,hs252⟩:=at_R28 HR0.out x5_1 p252 q252;cases e252;replace p252:=eq_true p252;replace q252:=eq_true q252;have H0_:=mA H;clear H
     repeat (first|go_values|go_skip|go_guarded|go_step|go_upon|go_back)
     have H:=H0_.out;clear H0_
     have hx_:=RS.hd hs252 rfl
     by_cases c5:((rd_T28 l0 x5_1).f0)=x1_1
     ·rw [if_pos c5] at H;obtain ⟨c5b0,c5b1⟩:=eqB c5;clear c5
      have H0_:=mA H;clear H
      go_simp;repeat (first|go_values|go_skip|go_guarded|go_step|go_upon|go_back)
      clear hx_;have H:=H0_.out;clear H0_
      have hx_:=RS.nth hs252 1 rfl
      by_cases c6:((rd_T28 l0 x5_1).f1)=(wrap64 (x1_1+1))
      ·rw [if_pos c6] at H;obtain ⟨c6b0,c6b1⟩:=eqB c6;clear c6
       have H0_:=mA H;clear H
       go_simp;repeat (first|go_values|go_skip|go_guarded|go_step|go_upon|go_back)
       clear hx_;have H:=H0_.out;clear H0_
       have hx_:=RS.nth hs252 2 rfl
       by_cases c7:((rd_T28 l0 x5_1).f2)=(wrap64 ((wrap64 (x1_1+1))+1))
       ·rw [if_pos c7] at H;obtain ⟨c7b0,c7b1⟩:=eqB c7;clear c7
        have H0_:=mA H;clear H
        go_simp;repeat (first|go_values|go_skip|go_guarded|go_step|go_upon|go_back)
        clear hx_;have H:=H0_.out;clear H0_
        have hx_:=RS.nth hs252 3 rfl
        by_cases c8:((rd_T28 l0 x5_1).f3)=(wrap64 ((wrap64 ((wrap64 (x1_1+1))+1))+1))
        ·rw [if_pos c8] at H;obtain ⟨c8b0,c8b1⟩:=eqB c8;clear c8
         have H0_:=mA H;clear H
         go_simp;repeat (first|go_values|go_skip|go_guarded|go_step|go_upon|go_back)
         clear hx_;have H:=H0_.out;clear H0_
         have hx_:=RS.nth hs252 4 rfl
         by_cases c9:((rd_T28 l0 x5_1).f4)=(wrap64 ((wrap64 ((wrap64 ((wrap64 (x1_1+1))+1))+1))+1))
         ·rw [if_pos c9] at H;obtain ⟨c9b0,c9b1⟩:=eqB c9;clear c9
          have H0_:=mA H;clear H
          go_simp;repeat (first|go_values|go_skip|go_guarded|go_step|go_upon|go_back)
          clear hx_;have H:=H0_.out;clear H0_
          have hx_:=RS.nth hs252 5 rfl
          by_cases c10:((rd_T28 l0 x5_1).f5)=(wrap64 ((wrap64 ((wrap64 ((wrap64 ((wrap64 (x1_1+1))+1))+1))+1))+1))
          ·rw [if_pos c10] at H;obtain ⟨c10b0,c10b1⟩:=eqB c10;clear c10
           have H0_:=mA H;clear H
           go_simp;repeat (first|go_values|go_skip|go_guarded|go_step|go_upon|go_back)
           clear hx_;have H:=H0_.out;clear H0_
           have hx_:=RS.nth hs252 6 rfl
           by_cases c11:((rd_T28 l0 x5_1).f6.f0)=(wrap64 ((wrap64 ((wrap64 ((wrap64 ((wrap64 ((wrap64 (x1_1+1))+1))+1))+1))+1))+1))
           ·rw [if_pos c11] at H;obtain ⟨c11b0,c11b1⟩:=eqB c11;clear c11
            have H0_:=mA H;clear H
            go_simp;repeat (first|go_values|go_skip|go_guarded|go_step|go_upon|go_back)
            clear hx_;have H:=H0_.out;clear H0_
            have hx_:=RS.nth hs252 7 rfl
            by_cases c12:((rd_T28 l0 x5_1).f6.f1)=(wrap64 ((wrap64 ((wrap64 ((wrap64 ((wrap64 ((wrap64 ((wrap64 (x1_1+1))+1))+1))+1))+1))+1))+1))
            ·rw [if_pos c12] at H;obtain ⟨c12b0,c12b1⟩:=eqB c12;clear c12
             have H0_:=mA H;clear H
             go_simp;repeat (first|go_values|go_skip|go_guarded|go_step|go_upon|go_back)
             clear hx_;have H:=H0_.out;clear H0_
             have hx_:=RS.nth hs252 8 rfl
             by_cases c13:((rd_T28 l0 x5_1).f6.f2)=(wrap64 ((wrap64 ((wrap64 ((wrap64 ((wrap64 ((wrap64 ((wrap64 ((wrap64 (x1_1+1))+1))+1))+1))+1))+1))+1))+1))
             ·rw [if_pos c13] at H;obtain ⟨c13b0,c13b1⟩:=eqB c13;clear c13
              have H0_:=mA H;clear H
              go_simp;repeat (first|go_values|go_skip|go_guarded|go_step|go_upon|go_back)
              clear hx_;have H:=H0_.out;clear H0_
              have hx_:=RS.nth hs252 9 rfl
              by_cases c14:((rd_T28 l0 x5_1).f6.f3)=(wrap64 ((wrap64 ((wrap64 ((wrap64 ((wrap64 ((wrap64 ((wrap64 ((wrap64 ((wrap64 (x1_1+1))+1))+1))+1))+1))+1))+1))+1))+1))
              ·rw [if_pos c14] at H;obtain ⟨c14b0,c14b1⟩:=eqB c14;clear c14
               have H0_:=mA H;clear H
               go_simp;repeat (first|go_values|go_skip|go_guarded|go_step|go_upon|go_back)
               clear hx_;have H:=H0_.out;clear H0_
               have hx_:=RS.nth hs252 10 rfl
               by_cases c15:((rd_T28 l0 x5_1).f6.f4)=(wrap64 ((wrap64 ((wrap64 ((wrap64 ((wrap64 ((wrap64 ((wrap64 ((wrap64 ((wrap64 ((wrap64 (x1_1+1))+1))+1))+1))+1))+1))+1))+1))+1))+1))
               ·rw [if_pos c15] at H;obtain ⟨c15b0,c15b1⟩:=eqB c15;clear c15
                have H0_:=mA H;clear H
                go_simp;repeat (first|go_values|go_skip|go_guarded|go_step|go_upon|go_back)
                clear hx_;have H:=H0_.out;clear H0_
                have hx_:=RS.nth hs252 11 rfl
                by_cases c16:((rd_T28 l0 x5_1).f6.f5)=(wrap64 ((wrap64 ((wrap64 ((wrap64 ((wrap64 ((wrap64 ((wrap64 ((wrap64 ((wrap64 ((wrap64 ((wrap64 (x1_1+1))+1))+1))+1))+1))+1))+1))+1))+1))+1))+1))
                ·rw [if_pos c16] at H;obtain ⟨c16b0,c16b1⟩:=eqB c16;clear c16
                 have H0_:=mA H;clear H
                 go_simp;repeat (first|go_values|go_skip|go_guarded|go_step|go_upon|go_back)
                 clear hx_;have H:=H0_.out;clear H0_
                 have hx_:=RS.nth hs252 12 rfl
                 by_cases c17:((rd_T28 l0 x5_1).f6.f6)=(wrap64 ((wrap64 ((wrap64 ((wrap64 ((wrap64 ((wrap64 ((wrap64 ((wrap64 ((wrap64 ((wrap64 ((wrap64 ((wrap64 (x1_1+1))+1))+1))+1))+1))+1))+1))+1))+1))+1))+1))+1))
                 ·rw [if_pos c17] at H;obtain ⟨c17b0,c17b1⟩:=eqB c17;clear c17
                  have H0_:=mA H;clear H
                  go_simp;repeat (first|go_values|go_skip|go_guarded|go_step|go_upon|go_back)
                  clear hx_;have H:=H0_.out;clear H0_
                  have hx_:=RS.nth hs252 13 rfl
                  by_cases c18:((rd_T28 l0 x5_1).f6.f7)=(wrap64 ((wrap64 ((wrap64 ((wrap64 ((wrap64 ((wrap64 ((wrap64 ((wrap64 ((wrap64 ((wrap64 ((wrap64 ((wrap64 ((wrap64 (x1_1+1))+1))+1))+1))+1))+1))+1))+1))+1))+1))+1))+1))+1))
                  ·rw [if_pos c18] at H;obtain ⟨c18b0,c18b1⟩:=eqB c18;clear c18
                   have H0_:=mA H;clear H
                   go_simp;repeat (first|go_values|go_skip|go_guarded|go_step|go_upon|go_back)
                   clear hx_;have H:=H0_.out;clear H0_
                   have hx_:=RS.nth hs252 14 rfl
                   by_cases c19:((rd_T28 l0 x5_1).f6.f8)=(wrap64 ((wrap64 ((wrap64 ((wrap64 ((wrap64 ((wrap64 ((wrap64 ((wrap64 ((wrap64 ((wrap64 ((wrap64 ((wrap64 ((wrap64 ((wrap64 (x1_1+1))+1))+1))+1))+1))+1))+1))+1))+1))+1))+1))+1))+1))+1))
                   ·rw [if_pos c19] at H;obtain ⟨c19b0,c19b1⟩:=eqB c19;clear c19
                    have H0_:=mA H;clear H
                    go_simp;repeat (first|go_values|go_skip|go_guarded|go_step|go_upon|go_back)
                    clear hx_;have H:=H0_.out;clear H0_
                    have hx_:=RS.nth hs252 15 rfl
                    by_cases c20:((rd_T28 l0 x5_1).f6.f9)=(wrap64 ((wrap64 ((wrap64 ((wrap64 ((wrap64 ((wrap64 ((wrap64 ((wrap64 ((wrap64 ((wrap64 ((wrap64 ((wrap64 ((wrap64 ((wrap64 ((wrap64 (x1_1+1))+1))+1))+1))+1))+1))+1))+1))+1))+1))+1))+1))+1))+1))+1))
                    ·rw [if_pos c20] at H;obtain ⟨c20b0,c20b1⟩:=eqB c20;clear c20
                     have H0_:=mA H;clear H
                     go_simp;repeat (first|go_values|go_skip|go_guarded|go_step|go_upon|go_back)
                     clear hx_;have H:=H0_.out;clear H0_
                     have hx_:=RS.nth hs252 16 rfl
                     by_cases c21:((rd_T28 l0 x5_1).f7)=(wrap64 ((wrap64 ((wrap64 ((wrap64 ((wrap64 ((wrap64 ((wrap64 ((wrap64 ((wrap64 ((wrap64 ((wrap64 ((wrap64 ((wrap64 ((wrap64 ((wrap64 ((wrap64 (x1_1+1))+1))+1))+1))+1))+1))+1))+1))+1))+1))+1))+1))+1))+1))+1))+1))
                     ·rw [if_pos c21] at H;obtain ⟨c21b0,c21b1⟩:=eqB c21;clear c21
                      have H0_:=mA H;clear H
                      go_simp;repeat (first|go_values|go_skip|go_guarded|go_step|go_upon|go_back)
                      clear hx_;have H:=H0_.out;clear H0_
                      have hx_:=RS.nth hs252 17 rfl
                      by_cases c22:((rd_T28 l0 x5_1).f8)=(wrap64 ((wrap64 ((wrap64 ((wrap64 ((wrap64 ((wrap64 ((wrap64 ((wrap64 ((wrap64 ((wrap64 ((wrap64 ((wrap64 ((wrap64 ((wrap64 ((wrap64 ((wrap64 ((wrap64 (x1_1+1))+1))+1))+1))+1))+1))+1))+1))+1))+1))+1))+1))+1))+1))+1))+1))+1))
                      ·rw [if_pos c22] at H;obtain ⟨c22b0,c22b1⟩:=eqB c22;clear c22
                       have H0_:=mA H;clear H
                       go_simp;repeat (first|go_values|go_skip|go_guarded|go_step|go_upon|go_back)
                       clear hx_;have H:=H0_.out;clear H0_
                       have hx_:=RS.nth hs252 18 rfl
                       by_cases c23:((rd_T28 l0 x5_1).f9)=(wrap64 ((wrap64 ((wrap64 ((wrap64 ((wrap64 ((wrap64 ((wrap64 ((wrap64 ((wrap64 ((wrap64 ((wrap64 ((wrap64 ((wrap64 ((wrap64 ((wrap64 ((wrap64 ((wrap64 ((wrap64 (x1_1+1))+1))+1))+1))+1))+1))+1))+1))+1))+1))+1))+1))+1))+1))+1))+1))+1))+1))
                       ·rw [if_pos c23] at H;obtain ⟨c23b0,c23b1⟩:=eqB c23;clear c23
                        have H0_:=mA H;clear H
                        go_simp;repeat (first|go_values|go_skip|go_guarded|go_step|go_upon|go_back)
                        clear hx_;have H:=H0_.out;clear H0_
                        have hx_:=RS.nth hs252 19 rfl
                        by_cases c24:((rd_T28 l0 x5_1).f10)=(wrap64 ((wrap64 ((wrap64 ((wrap64 ((wrap64 ((wrap64 ((wrap64 ((wrap64 ((wrap64 ((wrap64 ((wrap64 ((wrap64 ((wrap64 ((wrap64 ((wrap64 ((wrap64 ((wrap64 ((wrap64 ((wrap64 (x1_1+1))+1))+1))+1))+1))+1))+1))+1))+1))+1))+1))+1))+1))+1))+1))+1))+1))+1))+1))
                        ·rw [if_pos c24] at H;obtain ⟨c24b0,c24b1⟩:=eqB c24;clear c24
                         have H0_:=mA H;clear H
                         go_simp;repeat (first|go_values|go_skip|go_guarded|go_step|go_upon|go_back)
                         clear hx_;have H:=H0_.out;clear H0_
                         have hx_:=RS.nth hs252 20 rfl
                         by_cases c25:((rd_T28 l0 x5_1).f11)=(wrap64 ((wrap64 ((wrap64 ((wrap64 ((wrap64 ((wrap64 ((wrap64 ((wrap64 ((wrap64 ((wrap64 ((wrap64 ((wrap64 ((wrap64 ((wrap64 ((wrap64 ((wrap64 ((wrap64 ((wrap64 ((wrap64 ((wrap64 (x1_1+1))+1))+1))+1))+1))+1))+1))+1))+1))+1))+1))+1))+1))+1))+1))+1))+1))+1))+1))+1))
                         ·rw [if_pos c25] at H;obtain ⟨c25b0,c25b1⟩:=eqB c25;clear c25
                          have H0_:=mA H;clear H
                          go_simp;repeat (first|go_values|go_skip|go_guarded|go_step|go_upon|go_back)
                          clear hx_;have H:=H0_.out;clear H0_
                          have hx_:=RS.nth hs252 21 rfl
                          by_cases c26:((rd_T28 l0 x5_1).f12)=(wrap64 ((wrap64 ((wrap64 ((wrap64 ((wrap64 ((wrap64 ((wrap64 ((wrap64 ((wrap64 ((wrap64 ((wrap64 ((wrap64 ((wrap64 ((wrap64 ((wrap64 ((wrap64 ((wrap64 ((wrap64 ((wrap64 ((wrap64 ((wrap64 (x1_1+1))+1))+1))+1))+1))+1))+1))+1))+1))+1))+1))+1))+1))+1))+1))+1))+1))+1))+1))+1))+1))
                          ·rw [if_pos c26] at H;obtain ⟨c26b0,c26b1⟩:=eqB c26;clear c26
                           have H0_:=mA H;clear H
                           go_simp;repeat (first|go_values|go_skip|go_guarded|go_step|go_upon|go_back)
                           clear hx_;have H:=H0_.out;clear H0_
                           have hx_:=RS.nth hs252 22 rfl
                           by_cases c27:((rd_T28 l0 x5_1).f13)=(wrap64 ((wrap64 ((wrap64 ((wrap64 ((wrap64 ((wrap64 ((wrap64 ((wrap64 ((wrap64 ((wrap64 ((wrap64 ((wrap64 ((wrap64 ((wrap64 ((wrap64 ((wrap64 ((wrap64 ((wrap64 ((wrap64 ((wrap64 ((wrap64 ((wrap64 (x1_1+1))+1))+1))+1))+1))+1))+1))+1))+1))+1))+1))+1))+1))+1))+1))+1))+1))+1))+1))+1))+1))+1))
                           ·rw [if_pos c27] at H;obtain ⟨c27b0,c27b1⟩:=eqB c27;clear c27
                            have H0_:=mA H;clear H
                            go_simp;repeat (first|go_values|go_skip|go_guarded|go_step|go_upon|go_back)
                            clear hx_;have H:=H0_.out;clear H0_
                            have hx_:=RS.nth hs252 23 rfl
                            by_cases c28:((rd_T28 l0 x5_1).f14)=(wrap64 ((wrap64 ((wrap64 ((wrap64 ((wrap64 ((wrap64 ((wrap64 ((wrap64 ((wrap64 ((wrap64 ((wrap64 ((wrap64 ((wrap64 ((wrap64 ((wrap64 ((wrap64 ((wrap64 ((wrap64 ((wrap64 ((wrap64 ((wrap64 ((wrap64 ((wrap64 (x1_1+1))+1))+1))+1))+1))+1))+1))+1))+1))+1))+1))+1))+1))+1))+1))+1))+1))+1))+1))+1))+1))+1))+1))
                            ·rw [if_pos c28] at H;obtain ⟨c28b0,c28b1⟩:=eqB c28;clear c28
                             have hn24_:=RS.nth hs252 24 rfl;have hn25_:=RS.nth hs252 25 rfl;have H0_:=mA H;clear H
                             go_simp
                             have H:=H0_.out;clear H0_
                             obtain ⟨t277,A29,H⟩:=bI H;(try dsimp only at H)
                             by_cases c30:t277<0
                             ·rw [if_pos c30] at H;have c30b0:decide (t277<0)=true:=decide_eq_true c30;clear c30;obtain rfl:=Option.some.inj H;go_wp2_with (first|(refine gL (some 244) Try.func102 #[.slice none 0 0,.int .i64 (wrap64 ((wrap64 ((wrap64 ((wrap64 ((wrap64 ((wrap64 ((wrap64 ((wrap64 ((wrap64 ((wrap64 ((wrap64 ((wrap64 ((wrap64 ((wrap64 ((wrap64 ((wrap64 ((wrap64 ((wrap64 ((wrap64 ((wrap64 ((wrap64 ((wrap64 ((wrap64 ((wrap64 (x1_1+1))+1))+1))+1))+1))+1))+1))+1))+1))+1))+1))+1))+1))+1))+1))+1))+1))+1))+1))+1))+1))+1))+1))+1))] ?_;(refine (laws_heldBlkPieceS.calls ?s1 ?s2 A29.out).mono ?_);(case s1=>exact Kd.C_nil _ _);(case s2=>exact Nat.le_refl _);rintro e w' ⟨rfl,⟨nd,rfl⟩⟩;refine ⟨_,rfl,?_⟩))
                              go_ret
                              exact ⟨by first|rfl|(simp;done)|(simp [*];done),by repeat (first|exact Drawn0.refl _|apply Drawn0.step)⟩
                             ·rw [if_neg c30] at H;have c30b0:decide (t277<0)=false:=decide_eq_false c30;clear c30;obtain ⟨t279,A31,H⟩:=bI H;(try dsimp only at H)
                              by_cases c32:t279<0
                              ·rw [if_pos c32] at H;have c32b0:decide (t279<0)=true:=decide_eq_true c32;clear c32;obtain rfl:=Option.some.inj H;go_wp2_with (first|(refine gL (some 244) Try.func102 #[.slice none 0 0,.int .i64 (wrap64 ((wrap64 ((wrap64 ((wrap64 ((wrap64 ((wrap64 ((wrap64 ((wrap64 ((wrap64 ((wrap64 ((wrap64 ((wrap64 ((wrap64 ((wrap64 ((wrap64 ((wrap64 ((wrap64 ((wrap64 ((wrap64 ((wrap64 ((wrap64 ((wrap64 ((wrap64 ((wrap64 (x1_1+1))+1))+1))+1))+1))+1))+1))+1))+1))+1))+1))+1))+1))+1))+1))+1))+1))+1))+1))+1))+1))+1))+1))+1))] ?_;(refine (laws_heldBlkPieceS.calls ?s1 ?s2 A29.out).mono ?_);(case s1=>exact Kd.C_nil _ _);(case s2=>exact Nat.le_refl _);rintro e w' ⟨rfl,⟨nd,rfl⟩⟩;refine ⟨_,rfl,?_⟩;have p278:0≤(x5_1:Int):=of_decide_eq_true bA;have q278:x5_1<(l0.length:Int):=of_decide_eq_true bA;obtain ⟨ad278,e278,hx278_0,hx278_1,hx278_2,hx278_3,hx278_4,hx278_5,hx278_6,hx278_7,hx278_8,hx278_9,hx278_10,hx278_11,hx278_12,hx278_13,hx278_14,hx278_15,hx278_16,hx278_17,hx278_18,hx278_19,hx278_20,hx278_21,hx278_22,hx278_23,hx278_24,hx278_25⟩:=at_T28 HR0.out x5_1 p278 q278;obtain rfl:ad252=ad278:=(by injection e278);replace p278:=eq_true p278;replace q278:=eq_true q278)|(refine gL (some 253) Try.func103 #[.slice none 0 0,.int .i64 t277] ?_;(refine (laws_heldBlkLastS.calls ?s1 ?s2 A31.out).mono ?_);(case s1=>exact Kd.C_nil _ _);(case s2=>exact Nat.le_refl _);rintro e w' ⟨rfl,⟨nd,rfl⟩⟩;refine ⟨_,rfl,?_⟩))
                               go_ret
                               exact ⟨by first|rfl|(simp;done)|(simp [*];done),by repeat (first|exact Drawn0.refl _|apply Drawn0.step)⟩
                              ·rw [if_neg c32] at H;have c32b0:decide (t279<0)=false:=decide_eq_false c32;clear c32;have H':=mA H;clear H;go_wp2_with (first|(refine gL (some 244) Try.func102 #[.slice none 0 0,.int .i64 (wrap64 ((wrap64 ((wrap64 ((wrap64 ((wrap64 ((wrap64 ((wrap64 ((wrap64 ((wrap64 ((wrap64 ((wrap64 ((wrap64 ((wrap64 ((wrap64 ((wrap64 ((wrap64 ((wrap64 ((wrap64 ((wrap64 ((wrap64 ((wrap64 ((wrap64 ((wrap64 ((wrap64 (x1_1+1))+1))+1))+1))+1))+1))+1))+1))+1))+1))+1))+1))+1))+1))+1))+1))+1))+1))+1))+1))+1))+1))+1))+1))] ?_;(refine (laws_heldBlkPieceS.calls ?s1 ?s2 A29.out).mono ?_);(case s1=>exact Kd.C_nil _ _);(case s2=>exact Nat.le_refl _);rintro e w' ⟨rfl,⟨nd,rfl⟩⟩;refine ⟨_,rfl,?_⟩;have p278:0≤(x5_1:Int):=of_decide_eq_true bA;have q278:x5_1<(l0.length:Int):=of_decide_eq_true bA;obtain ⟨ad278,e278,hx278_0,hx278_1,hx278_2,hx278_3,hx278_4,hx278_5,hx278_6,hx278_7,hx278_8,hx278_9,hx278_10,hx278_11,hx278_12,hx278_13,hx278_14,hx278_15,hx278_16,hx278_17,hx278_18,hx278_19,hx278_20,hx278_21,hx278_22,hx278_23,hx278_24,hx278_25⟩:=at_T28 HR0.out x5_1 p278 q278;obtain rfl:ad252=ad278:=(by injection e278);replace p278:=eq_true p278;replace q278:=eq_true q278)|(refine gL (some 253) Try.func103 #[.slice none 0 0,.int .i64 t277] ?_;(refine (laws_heldBlkLastS.calls ?s1 ?s2 A31.out).mono ?_);(case s1=>exact Kd.C_nil _ _);(case s2=>exact Nat.le_refl _);rintro e w' ⟨rfl,⟨nd,rfl⟩⟩;refine ⟨_,rfl,?_⟩))
                               go_roundg k1
                               case measure=>have:=HK1.out;omega
                               case rel=>exact ⟨(t279),(wrap64 (x5_1+1)),bZ,bZ,H',⟨by have:=HK1.out;omega⟩,by repeat (first|exact Drawn0.refl _|apply Drawn0.step)⟩
                            ·rw [if_neg c28] at H;obtain ⟨c28b0,c28b1⟩:=neB c28;clear c28;obtain rfl:=Option.some.inj H;go_wp2
                             go_ret
                             exact ⟨by first|rfl|(simp;done)|(simp [*];done),by repeat (first|exact Drawn0.refl _|apply Drawn0.step)⟩
                           ·rw [if_neg c27] at H;obtain ⟨c27b0,c27b1⟩:=neB c27;clear c27;obtain rfl:=Option.some.inj H;go_wp2
                            go_ret
                            exact ⟨by first|rfl|(simp;done)|(simp [*];done),by repeat (first|exact Drawn0.refl _|apply Drawn0.step)⟩
                          ·rw [if_neg c26] at H;obtain ⟨c26b0,c26b1⟩:=neB c26;clear c26;obtain rfl:=Option.some.inj H;go_wp2
                           go_ret
                           exact ⟨by first|rfl|(simp;done)|(simp [*];done),by repeat (first|exact Drawn0.refl _|apply Drawn0.step)⟩
                         ·rw [if_neg c25] at H;obtain ⟨c25b0,c25b1⟩:=neB c25;clear c25;obtain rfl:=Option.some.inj H;go_wp2
                          go_ret
                          exact ⟨by first|rfl|(simp;done)|(simp [*];done),by repeat (first|exact Drawn0.refl _|apply Drawn0.step)⟩
                        ·rw [if_neg c24] at H;obtain ⟨c24b0,c24b1⟩:=neB c24;clear c24;obtain rfl:=Option.some.inj H;go_wp2
                         go_ret
                         exact ⟨by first|rfl|(simp;done)|(simp [*];done),by repeat (first|exact Drawn0.refl _|apply Drawn0.step)⟩
                       ·rw [if_neg c23] at H;obtain ⟨c23b0,c23b1⟩:=neB c23;clear c23;obtain rfl:=Option.some.inj H;go_wp2
                        go_ret
                        exact ⟨by first|rfl|(simp;done)|(simp [*];done),by repeat (first|exact Drawn0.refl _|apply Drawn0.step)⟩
                      ·rw [if_neg c22] at H;obtain ⟨c22b0,c22b1⟩:=neB c22;clear c22;obtain rfl:=Option.some.inj H;go_wp2
                       go_ret
                       exact ⟨by first|rfl|(simp;done)|(simp [*];done),by repeat (first|exact Drawn0.refl _|apply Drawn0.step)⟩
                     ·rw [if_neg c21] at H;obtain ⟨c21b0,c21b1⟩:=neB c21;clear c21;obtain rfl:=Option.some.inj H;go_wp2
                      go_ret
                      exact ⟨by first|rfl|(simp;done)|(simp [*];done),by repeat (first|exact Drawn0.refl _|apply Drawn0.step)⟩
                    ·rw [if_neg c20] at H;obtain ⟨c20b0,c20b1⟩:=neB c20;clear c20;obtain rfl:=Option.some.inj H;go_wp2
                     go_ret
                     exact ⟨by first|rfl|(simp;done)|(simp [*];done),by repeat (first|exact Drawn0.refl _|apply Drawn0.step)⟩
                   ·rw [if_neg c19] at H;obtain ⟨c19b0,c19b1⟩:=neB c19;clear c19;obtain rfl:=Option.some.inj H;go_wp2
                    go_ret
                    exact ⟨by first|rfl|(simp;done)|(simp [*];done),by repeat (first|exact Drawn0.refl _|apply Drawn0.step)⟩
                  ·rw [if_neg c18] at H;obtain ⟨c18b0,c18b1⟩:=neB c18;clear c18;obtain rfl:=Option.some.inj H;go_wp2
                   go_ret
                   exact ⟨by first|rfl|(simp;done)|(simp [*];done),by repeat (first|exact Drawn0.refl _|apply Drawn0.step)⟩
                 ·rw [if_neg c17] at H;obtain ⟨c17b0,c17b1⟩:=neB c17;clear c17;obtain rfl:=Option.some.inj H;go_wp2
                  go_ret
                  exact ⟨by first|rfl|(simp;done)|(simp [*];done),by repeat (first|exact Drawn0.refl _|apply Drawn0.step)⟩
                ·rw [if_neg c16] at H;obtain ⟨c16b0,c16b1⟩:=neB c16;clear c16;obtain rfl:=Option.some.inj H;go_wp2
                 go_ret
                 exact ⟨by first|rfl|(simp;done)|(simp [*];done),by repeat (first|exact Drawn0.refl _|apply Drawn0.step)⟩
               ·rw [if_neg c15] at H;obtain ⟨c15b0,c15b1⟩:=neB c15;clear c15;obtain rfl:=Option.some.inj H;go_wp2
                go_ret
                exact ⟨by first|rfl|(simp;done)|(simp [*];done),by repeat (first|exact Drawn0.refl _|apply Drawn0.step)⟩
              ·rw [if_neg c14] at H;obtain ⟨c14b0,c14b1⟩:=neB c14;clear c14;obtain rfl:=Option.some.inj H;go_wp2
               go_ret
               exact ⟨by first|rfl|(simp;done)|(simp [*];done),by repeat (first|exact Drawn0.refl _|apply Drawn0.step)⟩
             ·rw [if_neg c13] at H;obtain ⟨c13b0,c13b1⟩:=neB c13;clear c13;obtain rfl:=Option.some.inj H;go_wp2
              go_ret
              exact ⟨by first|rfl|(simp;done)|(simp [*];done),by repeat (first|exact Drawn0.refl _|apply Drawn0.step)⟩
            ·rw [if_neg c12] at H;obtain ⟨c12b0,c12b1⟩:=neB c12;clear c12;obtain rfl:=Option.some.inj H;go_wp2
             go_ret
             exact ⟨by first|rfl|(simp;done)|(simp [*];done),by repeat (first|exact Drawn0.refl _|apply Drawn0.step)⟩
           ·rw [if_neg c11] at H;obtain ⟨c11b0,c11b1⟩:=neB c11;clear c11;obtain rfl:=Option.some.inj H;go_wp2
            go_ret
            exact ⟨by first|rfl|(simp;done)|(simp [*];done),by repeat (first|exact Drawn0.refl _|apply Drawn0.step)⟩
          ·rw [if_neg c10] at H;obtain ⟨c10b0,c10b1⟩:=neB c10;clear c10;obtain rfl:=Option.some.inj H;go_wp2
           go_ret
           exact ⟨by first|rfl|(simp;done)|(simp [*];done),by repeat (first|exact Drawn0.refl _|apply Drawn0.step)⟩
         ·rw [if_neg c9] at H;obtain ⟨c9b0,c9b1⟩:=neB c9;clear c9;obtain rfl:=Option.some.inj H;go_wp2
          go_ret
          exact ⟨by first|rfl|(simp;done)|(simp [*];done),by repeat (first|exact Drawn0.refl _|apply Drawn0.step)⟩
        ·rw [if_neg c8] at H;obtain ⟨c8b0,c8b1⟩:=neB c8;clear c8;obtain rfl:=Option.some.inj H;go_wp2
         go_ret
         exact ⟨by first|rfl|(simp;done)|(simp [*];done),by repeat (first|exact Drawn0.refl _|apply Drawn0.step)⟩
       ·rw [if_neg c7] at H;obtain ⟨c7b0,c7b1⟩:=neB c7;clear c7;obtain rfl:=Option.some.inj H;go_wp2
        go_ret
        exact ⟨by first|rfl|(simp;done)|(simp [*];done),by repeat (first|exact Drawn0.refl _|apply Drawn0.step)⟩
      ·rw [if_neg c6] at H;obtain ⟨c6b0,c6b1⟩:=neB c6;clear c6;obtain rfl:=Option.some.inj H;go_wp2
       go_ret
       exact ⟨by first|rfl|(simp;done)|(simp [*];done),by repeat (first|exact Drawn0.refl _|apply Drawn0.step)⟩
     ·rw [if_neg c5] at H;obtain ⟨c5b0,c5b1⟩:=neB c5;clear c5;obtain rfl:=Option.some.inj H
      go_wp2
      go_ret
      exact ⟨by first|rfl|(simp;done)|(simp [*];done),by repeat (first|exact Drawn0.refl _|apply Drawn0.step)⟩
    ·rw [if_neg c4] at H
     exact absurd H (by simp)
   ·rw [if_neg c3] at H;have c3b0:decide (x5_1<(l0.length:Int))=false:=decide_eq_false c3;clear c3;obtain rfl:=Option.some.inj H
    go_wp2
    go_ret
    exact ⟨by first|rfl|(simp;done)|(simp [*];done),by repeat (first|exact Drawn0.refl _|apply Drawn0.step)⟩

end Go.Proofs.Ytoieojmfkkidnaa.P
