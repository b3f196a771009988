-- printed by pprint.py (this session's program over the kit's printer) out of the translation. Lean checks it.
import Derived.Test.YtncohokalilnbaaPx0
namespace Go.Proofs.Ytncohokalilnbaa.P
open Go.RowKit Go.Proofs.YtncohokalilnbaaX Go.Proofs.YtncohokalilnbaaW.PrintWords Go.Proofs.YtncohokalilnbaaW.PrintLast Go.Proofs.YtncohokalilnbaaW.PrintMore
attribute [local go_sem] max2_int min2_int max_two min_two max_three min_three max_four min_four   -- for this text's walks alone
set_option linter.unusedVariables false
set_option linter.unusedSimpArgs false

/-! ### laws_heldBlkPieceS: function 92 -/
def laws_heldBlkPieceS.l0 : Nat → List (S164) → Int → Int → Option (Int)
 | 0,_,_,_=>none
 | k+1,x0,x1,x5=>if x5<(x0.length:Int) then (if 0≤x5 then (if ((rd_T164 x0 x5).f0)=x1 then (if ((rd_T164 x0 x5).f1)=(wrap64 (x1+1)) then (if ((rd_T164 x0 x5).f2)=(wrap64 ((wrap64 (x1+1))+1)) then (if ((rd_T164 x0 x5).f3)=(wrap64 ((wrap64 ((wrap64 (x1+1))+1))+1)) then (laws_heldBlkPieceS.l0 k x0 (wrap64 ((wrap64 ((wrap64 ((wrap64 (x1+1))+1))+1))+1)) (wrap64 (x5+1))) else (some (-1))) else (some (-1))) else (some (-1))) else (some (-1))) else (none)) else (some x1)
def laws_heldBlkPieceS.f (k : Nat) (l0 : List (S164)) (a1 : Int) : Option (Int) := laws_heldBlkPieceS.l0 k l0 a1 0
theorem laws_heldBlkPieceS.mono_l : ∀ k, (∀ y0 y1 y2, LeO (laws_heldBlkPieceS.l0 k y0 y1 y2) (laws_heldBlkPieceS.l0 (k + 1) y0 y1 y2))
 | 0=>fun _ _ _ r h=>by simp [laws_heldBlkPieceS.l0] at h
 | k+1=>by
  have ih0:=laws_heldBlkPieceS.mono_l k
  ·intros
   unfold laws_heldBlkPieceS.l0
   repeat' first
   | (with_reducible first|apply ih0|exact LeO.refl _|exact LeO.none _|refine LeO.ite ?_ ?_|refine LeO.bind ?_ (fun _=>?_))|exact LeO.none _|refine LeO.ite ?_ ?_|refine LeO.bind ?_ (fun _=>?_)
theorem laws_heldBlkPieceS.mono : ∀ a0 a1 k, LeO (laws_heldBlkPieceS.f k a0 a1) (laws_heldBlkPieceS.f (k + 1) a0 a1) := by
 intro a0 a1 k;have ih0:=laws_heldBlkPieceS.mono_l k
 unfold laws_heldBlkPieceS.f
 repeat' first
   | (with_reducible first|apply ih0|exact LeO.refl _|exact LeO.none _|refine LeO.ite ?_ ?_|refine LeO.bind ?_ (fun _=>?_))|exact LeO.none _|refine LeO.ite ?_ ?_|refine LeO.bind ?_ (fun _=>?_)
set_option maxHeartbeats 8000000 in
set_option maxRecDepth 100000 in
theorem laws_heldBlkPieceS.calls {k : Nat} {A0 : Option Addr} {c0 : Nat} {l0 : List (S164)} {a1 r : Int} {w : World} (hr0 : Kd.C k164 w A0 l0.length l0) (hc0 : l0.length ≤ c0) (h : laws_heldBlkPieceS.f k l0 a1 = some r) :
  Calls Try.prog 92 #[.slice A0 l0.length c0,.int .i64 a1] w fun e w'=>e=.returned (.int .i64 r)∧Drawn0 w w':=by
 have HR0:=mA hr0;have HC0:=mA hc0;clear hr0 hc0;have H:(laws_heldBlkPieceS.l0 k l0 a1 0)=some r:=h;clear h;have H':=mA H;clear H
 go_enter Try.func92,Try.ntmps92
 go_wp2
 go_loopg [1,5] k (fun kq v1 v5 w'=>∃ (x1_1:Int) (x5_1:Int),v1=.int .i64 x1_1∧v5=.int .i64 x5_1∧Aside0 (laws_heldBlkPieceS.l0 kq l0 x1_1 x5_1=some r)∧Aside0 (kq≤k)∧Drawn0 w w')
 case atStart=>exact ⟨(a1),(0),bZ,bZ,H',⟨Nat.le_refl _⟩,by repeat (first|exact Drawn0.refl _|apply Drawn0.step)⟩
 case round =>
  clear H'
  obtain ⟨x1_1,x5_1,rfl,rfl,HA,HK1,⟨m1,rfl⟩⟩:=hrel
  cases gk with
  | zero=>exact absurd HA.out (by simp [laws_heldBlkPieceS.l0])
  | succ k1 =>
   have H:=HA.out;clear HA;simp only [laws_heldBlkPieceS.l0] at H
   by_cases c3:x5_1<(l0.length:Int)
   ·rw [if_pos c3] at H;have c3b0:decide (x5_1<(l0.length:Int))=true:=decide_eq_true c3;clear c3
    by_cases c4:0≤x5_1
    ·rw [if_pos c4] at H;have c4b0:decide (0≤x5_1)=true:=decide_eq_true c4;clear c4
     by_cases c5:((rd_T164 l0 x5_1).f0)=x1_1
     ·rw [if_pos c5] at H;obtain ⟨c5b0,c5b1⟩:=eqB c5;clear c5
      by_cases c6:((rd_T164 l0 x5_1).f1)=(wrap64 (x1_1+1))
      ·rw [if_pos c6] at H;obtain ⟨c6b0,c6b1⟩:=eqB c6;clear c6
       by_cases c7:((rd_T164 l0 x5_1).f2)=(wrap64 ((wrap64 (x1_1+1))+1))
       ·rw [if_pos c7] at H;obtain ⟨c7b0,c7b1⟩:=eqB c7;clear c7
        by_cases c8:((rd_T164 l0 x5_1).f3)=(wrap64 ((wrap64 ((wrap64 (x1_1+1))+1))+1))
        ·rw [if_pos c8] at H;obtain ⟨c8b0,c8b1⟩:=eqB c8;clear c8;have H':=mA H;clear H;have p305:0≤(x5_1:Int):=of_decide_eq_true bA;have q305:x5_1<(l0.length:Int):=of_decide_eq_true bA;obtain ⟨ad305,e305,hx305_0,hx305_1,hx305_2,hx305_3⟩:=at_T164 HR0.out x5_1 p305 q305;cases e305;replace p305:=eq_true p305;replace q305:=eq_true q305;go_wp2
         go_roundg k1
         case measure=>have:=HK1.out;omega
         case rel=>exact ⟨(wrap64 ((wrap64 ((wrap64 ((wrap64 (x1_1+1))+1))+1))+1)),(wrap64 (x5_1+1)),bZ,bZ,H',⟨by have:=HK1.out;omega⟩,by repeat (first|exact Drawn0.refl _|apply Drawn0.step)⟩
        ·rw [if_neg c8] at H;obtain ⟨c8b0,c8b1⟩:=neB c8;clear c8;obtain rfl:=Option.some.inj H;have p305:0≤(x5_1:Int):=of_decide_eq_true bA;have q305:x5_1<(l0.length:Int):=of_decide_eq_true bA;obtain ⟨ad305,e305,hx305_0,hx305_1,hx305_2,hx305_3⟩:=at_T164 HR0.out x5_1 p305 q305;cases e305;replace p305:=eq_true p305;replace q305:=eq_true q305;go_wp2
         go_ret
         exact ⟨by first|rfl|(simp;done)|(simp [*];done),by repeat (first|exact Drawn0.refl _|apply Drawn0.step)⟩
       ·rw [if_neg c7] at H;obtain ⟨c7b0,c7b1⟩:=neB c7;clear c7;obtain rfl:=Option.some.inj H;have p305:0≤(x5_1:Int):=of_decide_eq_true bA;have q305:x5_1<(l0.length:Int):=of_decide_eq_true bA;obtain ⟨ad305,e305,hx305_0,hx305_1,hx305_2,hx305_3⟩:=at_T164 HR0.out x5_1 p305 q305;cases e305;replace p305:=eq_true p305;replace q305:=eq_true q305;go_wp2
        go_ret
        exact ⟨by first|rfl|(simp;done)|(simp [*];done),by repeat (first|exact Drawn0.refl _|apply Drawn0.step)⟩
      ·rw [if_neg c6] at H;obtain ⟨c6b0,c6b1⟩:=neB c6;clear c6;obtain rfl:=Option.some.inj H;have p305:0≤(x5_1:Int):=of_decide_eq_true bA;have q305:x5_1<(l0.length:Int):=of_decide_eq_true bA;obtain ⟨ad305,e305,hx305_0,hx305_1,hx305_2,hx305_3⟩:=at_T164 HR0.out x5_1 p305 q305;cases e305;replace p305:=eq_true p305;replace q305:=eq_true q305;go_wp2
       go_ret
       exact ⟨by first|rfl|(simp;done)|(simp [*];done),by repeat (first|exact Drawn0.refl _|apply Drawn0.step)⟩
     ·rw [if_neg c5] at H;obtain ⟨c5b0,c5b1⟩:=neB c5;clear c5;obtain rfl:=Option.some.inj H;have p305:0≤(x5_1:Int):=of_decide_eq_true bA;have q305:x5_1<(l0.length:Int):=of_decide_eq_true bA;obtain ⟨ad305,e305,hx305_0,hx305_1,hx305_2,hx305_3⟩:=at_T164 HR0.out x5_1 p305 q305;cases e305;replace p305:=eq_true p305;replace q305:=eq_true q305
      go_wp2
      go_ret
      exact ⟨by first|rfl|(simp;done)|(simp [*];done),by repeat (first|exact Drawn0.refl _|apply Drawn0.step)⟩
    ·rw [if_neg c4] at H
     exact absurd H (by simp)
   ·rw [if_neg c3] at H;have c3b0:decide (x5_1<(l0.length:Int))=false:=decide_eq_false c3;clear c3;obtain rfl:=Option.some.inj H
    go_wp2
    go_ret
    exact ⟨by first|rfl|(simp;done)|(simp [*];done),by repeat (first|exact Drawn0.refl _|apply Drawn0.step)⟩

/-! ### laws_heldBlkLastS: function 93 -/
def laws_heldBlkLastS.l0 : Nat → List (S166) → Int → Int → Option (Int)
 | 0,_,_,_=>none
 | k+1,x0,x1,x5=>if x5<(x0.length:Int) then (if 0≤x5 then (if ((rd_T166 x0 x5).f0)=x1 then (if ((rd_T166 x0 x5).f1)=(wrap64 (x1+1)) then (laws_heldBlkLastS.l0 k x0 (wrap64 ((wrap64 (x1+1))+1)) (wrap64 (x5+1))) else (some (-1))) else (some (-1))) else (none)) else (some x1)
def laws_heldBlkLastS.f (k : Nat) (l0 : List (S166)) (a1 : Int) : Option (Int) := laws_heldBlkLastS.l0 k l0 a1 0
theorem laws_heldBlkLastS.mono_l : ∀ k, (∀ y0 y1 y2, LeO (laws_heldBlkLastS.l0 k y0 y1 y2) (laws_heldBlkLastS.l0 (k + 1) y0 y1 y2))
 | 0=>fun _ _ _ r h=>by simp [laws_heldBlkLastS.l0] at h
 | k+1=>by
  have ih0:=laws_heldBlkLastS.mono_l k
  ·intros
   unfold laws_heldBlkLastS.l0
   repeat' first
   | (with_reducible first|apply ih0|exact LeO.refl _|exact LeO.none _|refine LeO.ite ?_ ?_|refine LeO.bind ?_ (fun _=>?_))|exact LeO.none _|refine LeO.ite ?_ ?_|refine LeO.bind ?_ (fun _=>?_)
theorem laws_heldBlkLastS.mono : ∀ a0 a1 k, LeO (laws_heldBlkLastS.f k a0 a1) (laws_heldBlkLastS.f (k + 1) a0 a1) := by
 intro a0 a1 k;have ih0:=laws_heldBlkLastS.mono_l k
 unfold laws_heldBlkLastS.f
 repeat' first
   | (with_reducible first|apply ih0|exact LeO.refl _|exact LeO.none _|refine LeO.ite ?_ ?_|refine LeO.bind ?_ (fun _=>?_))|exact LeO.none _|refine LeO.ite ?_ ?_|refine LeO.bind ?_ (fun _=>?_)
set_option maxHeartbeats 8000000 in
set_option maxRecDepth 100000 in
theorem laws_heldBlkLastS.calls {k : Nat} {A0 : Option Addr} {c0 : Nat} {l0 : List (S166)} {a1 r : Int} {w : World} (hr0 : Kd.C k166 w A0 l0.length l0) (hc0 : l0.length ≤ c0) (h : laws_heldBlkLastS.f k l0 a1 = some r) :
  Calls Try.prog 93 #[.slice A0 l0.length c0,.int .i64 a1] w fun e w'=>e=.returned (.int .i64 r)∧Drawn0 w w':=by
 have HR0:=mA hr0;have HC0:=mA hc0;clear hr0 hc0;have H:(laws_heldBlkLastS.l0 k l0 a1 0)=some r:=h;clear h;have H':=mA H;clear H
 go_enter Try.func93,Try.ntmps93
 go_wp2
 go_loopg [1,5] k (fun kq v1 v5 w'=>∃ (x1_1:Int) (x5_1:Int),v1=.int .i64 x1_1∧v5=.int .i64 x5_1∧Aside0 (laws_heldBlkLastS.l0 kq l0 x1_1 x5_1=some r)∧Aside0 (kq≤k)∧Drawn0 w w')
 case atStart=>exact ⟨(a1),(0),bZ,bZ,H',⟨Nat.le_refl _⟩,by repeat (first|exact Drawn0.refl _|apply Drawn0.step)⟩
 case round =>
  clear H'
  obtain ⟨x1_1,x5_1,rfl,rfl,HA,HK1,⟨m1,rfl⟩⟩:=hrel
  cases gk with
  | zero=>exact absurd HA.out (by simp [laws_heldBlkLastS.l0])
  | succ k1 =>
   have H:=HA.out;clear HA;simp only [laws_heldBlkLastS.l0] at H
   by_cases c3:x5_1<(l0.length:Int)
   ·rw [if_pos c3] at H;have c3b0:decide (x5_1<(l0.length:Int))=true:=decide_eq_true c3;clear c3
    by_cases c4:0≤x5_1
    ·rw [if_pos c4] at H;have c4b0:decide (0≤x5_1)=true:=decide_eq_true c4;clear c4
     by_cases c5:((rd_T166 l0 x5_1).f0)=x1_1
     ·rw [if_pos c5] at H;obtain ⟨c5b0,c5b1⟩:=eqB c5;clear c5
      by_cases c6:((rd_T166 l0 x5_1).f1)=(wrap64 (x1_1+1))
      ·rw [if_pos c6] at H;obtain ⟨c6b0,c6b1⟩:=eqB c6;clear c6;have H':=mA H;clear H;have p309:0≤(x5_1:Int):=of_decide_eq_true bA;have q309:x5_1<(l0.length:Int):=of_decide_eq_true bA;obtain ⟨ad309,e309,hx309_0,hx309_1⟩:=at_T166 HR0.out x5_1 p309 q309;cases e309;replace p309:=eq_true p309;replace q309:=eq_true q309;go_wp2
       go_roundg k1
       case measure=>have:=HK1.out;omega
       case rel=>exact ⟨(wrap64 ((wrap64 (x1_1+1))+1)),(wrap64 (x5_1+1)),bZ,bZ,H',⟨by have:=HK1.out;omega⟩,by repeat (first|exact Drawn0.refl _|apply Drawn0.step)⟩
      ·rw [if_neg c6] at H;obtain ⟨c6b0,c6b1⟩:=neB c6;clear c6;obtain rfl:=Option.some.inj H;have p309:0≤(x5_1:Int):=of_decide_eq_true bA;have q309:x5_1<(l0.length:Int):=of_decide_eq_true bA;obtain ⟨ad309,e309,hx309_0,hx309_1⟩:=at_T166 HR0.out x5_1 p309 q309;cases e309;replace p309:=eq_true p309;replace q309:=eq_true q309;go_wp2
       go_ret
       exact ⟨by first|rfl|(simp;done)|(simp [*];done),by repeat (first|exact Drawn0.refl _|apply Drawn0.step)⟩
     ·rw [if_neg c5] at H;obtain ⟨c5b0,c5b1⟩:=neB c5;clear c5;obtain rfl:=Option.some.inj H;have p309:0≤(x5_1:Int):=of_decide_eq_true bA;have q309:x5_1<(l0.length:Int):=of_decide_eq_true bA;obtain ⟨ad309,e309,hx309_0,hx309_1⟩:=at_T166 HR0.out x5_1 p309 q309;cases e309;replace p309:=eq_true p309;replace q309:=eq_true q309
      go_wp2
      go_ret
      exact ⟨by first|rfl|(simp;done)|(simp [*];done),by repeat (first|exact Drawn0.refl _|apply Drawn0.step)⟩
    ·rw [if_neg c4] at H
     exact absurd H (by simp)
   ·rw [if_neg c3] at H;have c3b0:decide (x5_1<(l0.length:Int))=false:=decide_eq_false c3;clear c3;obtain rfl:=Option.some.inj H
    go_wp2
    go_ret
    exact ⟨by first|rfl|(simp;done)|(simp [*];done),by repeat (first|exact Drawn0.refl _|apply Drawn0.step)⟩

end Go.Proofs.Ytncohokalilnbaa.P
