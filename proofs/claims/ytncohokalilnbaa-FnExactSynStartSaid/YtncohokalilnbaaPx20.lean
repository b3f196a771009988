-- printed by pprint.py (this session's program over the kit's printer) out of the translation. Lean checks it.
import Derived.Test.YtncohokalilnbaaPx0
namespace Go.Proofs.Ytncohokalilnbaa.P
open Go.RowKit Go.Proofs.YtncohokalilnbaaX Go.Proofs.YtncohokalilnbaaW.PrintWords Go.Proofs.YtncohokalilnbaaW.PrintLast Go.Proofs.YtncohokalilnbaaW.PrintMore
attribute [local go_sem] max2_int min2_int max_two min_two max_three min_three max_four min_four   -- for this text's walks alone
set_option linter.unusedVariables false
set_option linter.unusedSimpArgs false

/-! ### laws_heldSynPaperS: function 48 -/
def laws_heldSynPaperS.l0 : Nat → List (S53) → Int → Int → Option (Int)
 | 0,_,_,_=>none
 | k+1,x0,x1,x5=>if x5<(x0.length:Int) then (if 0≤x5 then (if ((rd_T53 x0 x5).f0)=x1 then (if ((rd_T53 x0 x5).f1)=(wrap64 (x1+1)) then (if ((rd_T53 x0 x5).f2.f0)=(wrap64 ((wrap64 (x1+1))+1)) then (if ((rd_T53 x0 x5).f2.f1)=(wrap64 ((wrap64 ((wrap64 (x1+1))+1))+1)) then (if ((rd_T53 x0 x5).f2.f2)=(wrap64 ((wrap64 ((wrap64 ((wrap64 (x1+1))+1))+1))+1)) then (if ((rd_T53 x0 x5).f2.f3)=(wrap64 ((wrap64 ((wrap64 ((wrap64 ((wrap64 (x1+1))+1))+1))+1))+1)) then (if ((rd_T53 x0 x5).f2.f4)=(wrap64 ((wrap64 ((wrap64 ((wrap64 ((wrap64 ((wrap64 (x1+1))+1))+1))+1))+1))+1)) then (if ((rd_T53 x0 x5).f2.f5)=(wrap64 ((wrap64 ((wrap64 ((wrap64 ((wrap64 ((wrap64 ((wrap64 (x1+1))+1))+1))+1))+1))+1))+1)) then (if ((rd_T53 x0 x5).f2.f6)=(wrap64 ((wrap64 ((wrap64 ((wrap64 ((wrap64 ((wrap64 ((wrap64 ((wrap64 (x1+1))+1))+1))+1))+1))+1))+1))+1)) then (if ((rd_T53 x0 x5).f2.f7)=(wrap64 ((wrap64 ((wrap64 ((wrap64 ((wrap64 ((wrap64 ((wrap64 ((wrap64 ((wrap64 (x1+1))+1))+1))+1))+1))+1))+1))+1))+1)) then (if ((rd_T53 x0 x5).f2.f8)=(wrap64 ((wrap64 ((wrap64 ((wrap64 ((wrap64 ((wrap64 ((wrap64 ((wrap64 ((wrap64 ((wrap64 (x1+1))+1))+1))+1))+1))+1))+1))+1))+1))+1)) then (if ((rd_T53 x0 x5).f2.f9)=(wrap64 ((wrap64 ((wrap64 ((wrap64 ((wrap64 ((wrap64 ((wrap64 ((wrap64 ((wrap64 ((wrap64 ((wrap64 (x1+1))+1))+1))+1))+1))+1))+1))+1))+1))+1))+1)) then (laws_heldSynPaperS.l0 k x0 (wrap64 ((wrap64 ((wrap64 ((wrap64 ((wrap64 ((wrap64 ((wrap64 ((wrap64 ((wrap64 ((wrap64 ((wrap64 ((wrap64 (x1+1))+1))+1))+1))+1))+1))+1))+1))+1))+1))+1))+1)) (wrap64 (x5+1))) else (some (-1))) else (some (-1))) else (some (-1))) else (some (-1))) else (some (-1))) else (some (-1))) else (some (-1))) else (some (-1))) else (some (-1))) else (some (-1))) else (some (-1))) else (some (-1))) else (none)) else (some x1)
def laws_heldSynPaperS.f (k : Nat) (l0 : List (S53)) (a1 : Int) : Option (Int) := laws_heldSynPaperS.l0 k l0 a1 0
theorem laws_heldSynPaperS.mono_l : ∀ k, (∀ y0 y1 y2, LeO (laws_heldSynPaperS.l0 k y0 y1 y2) (laws_heldSynPaperS.l0 (k + 1) y0 y1 y2))
 | 0=>fun _ _ _ r h=>by simp [laws_heldSynPaperS.l0] at h
 | k+1=>by
  have ih0:=laws_heldSynPaperS.mono_l k
  ·intros
   unfold laws_heldSynPaperS.l0
   repeat' first
   | (with_reducible first|apply ih0|exact LeO.refl _|exact LeO.none _|refine LeO.ite ?_ ?_|refine LeO.bind ?_ (fun _=>?_))|exact LeO.none _|refine LeO.ite ?_ ?_|refine LeO.bind ?_ (fun _=>?_)
theorem laws_heldSynPaperS.mono : ∀ a0 a1 k, LeO (laws_heldSynPaperS.f k a0 a1) (laws_heldSynPaperS.f (k + 1) a0 a1) := by
 intro a0 a1 k;have ih0:=laws_heldSynPaperS.mono_l k
 unfold laws_heldSynPaperS.f
 repeat' first
   | (with_reducible first|apply ih0|exact LeO.refl _|exact LeO.none _|refine LeO.ite ?_ ?_|refine LeO.bind ?_ (fun _=>?_))|exact LeO.none _|refine LeO.ite ?_ ?_|refine LeO.bind ?_ (fun _=>?_)
set_option maxHeartbeats 8000000 in
set_option maxRecDepth 100000 in
theorem laws_heldSynPaperS.calls {k : Nat} {A0 : Option Addr} {c0 : Nat} {l0 : List (S53)} {a1 r : Int} {w : World} (hr0 : Kd.C k53 w A0 l0.length l0) (hc0 : l0.length ≤ c0) (h : laws_heldSynPaperS.f k l0 a1 = some r) :
  Calls Try.prog 48 #[.slice A0 l0.length c0,.int .i64 a1] w fun e w'=>e=.returned (.int .i64 r)∧Drawn0 w w':=by
 have HR0:=mA hr0;have HC0:=mA hc0;clear hr0 hc0;have H:(laws_heldSynPaperS.l0 k l0 a1 0)=some r:=h;clear h;have H':=mA H;clear H
 go_enter Try.func48,Try.ntmps48
 go_wp2
 go_loopg [1,5] k (fun kq v1 v5 w'=>∃ (x1_1:Int) (x5_1:Int),v1=.int .i64 x1_1∧v5=.int .i64 x5_1∧Aside0 (laws_heldSynPaperS.l0 kq l0 x1_1 x5_1=some r)∧Aside0 (kq≤k)∧Drawn0 w w')
 case atStart=>exact ⟨(a1),(0),bZ,bZ,H',⟨Nat.le_refl _⟩,by repeat (first|exact Drawn0.refl _|apply Drawn0.step)⟩
 case round =>
  clear H'
  obtain ⟨x1_1,x5_1,rfl,rfl,HA,HK1,⟨m1,rfl⟩⟩:=hrel
  cases gk with
  | zero=>exact absurd HA.out (by simp [laws_heldSynPaperS.l0])
  | succ k1 =>
   have H:=HA.out;clear HA;simp only [laws_heldSynPaperS.l0] at H
   by_cases c3:x5_1<(l0.length:Int)
   ·rw [if_pos c3] at H;have c3b0:decide (x5_1<(l0.length:Int))=true:=decide_eq_true c3;clear c3
    by_cases c4:0≤x5_1
    ·rw [if_pos c4] at H;have c4b0:decide (0≤x5_1)=true:=decide_eq_true c4;clear c4
     have p262:0≤(x5_1:Int):=of_decide_eq_true bA;have q262:x5_1<(l0.length:Int):=of_decide_eq_true bA;obtain ⟨ad262,e262,hs262⟩:=at_R53 HR0.out x5_1 p262 q262;cases e262;replace p262:=eq_true p262;replace q262:=eq_true q262;have H0_:=mA H;clear H
     repeat (first|go_values|go_skip|go_guarded|go_step|go_upon|go_back)
     have H:=H0_.out;clear H0_
     have hx_:=RS.hd hs262 rfl
     by_cases c5:((rd_T53 l0 x5_1).f0)=x1_1
     ·rw [if_pos c5] at H;obtain ⟨c5b0,c5b1⟩:=eqB c5;clear c5
      have H0_:=mA H;clear H
      go_simp;repeat (first|go_values|go_skip|go_guarded|go_step|go_upon|go_back)
      clear hx_;have H:=H0_.out;clear H0_
      have hx_:=RS.nth hs262 1 rfl
      by_cases c6:((rd_T53 l0 x5_1).f1)=(wrap64 (x1_1+1))
      ·rw [if_pos c6] at H;obtain ⟨c6b0,c6b1⟩:=eqB c6;clear c6
       have H0_:=mA H;clear H
       go_simp;repeat (first|go_values|go_skip|go_guarded|go_step|go_upon|go_back)
       clear hx_;have H:=H0_.out;clear H0_
       have hx_:=RS.nth hs262 2 rfl
       by_cases c7:((rd_T53 l0 x5_1).f2.f0)=(wrap64 ((wrap64 (x1_1+1))+1))
       ·rw [if_pos c7] at H;obtain ⟨c7b0,c7b1⟩:=eqB c7;clear c7
        have H0_:=mA H;clear H
        go_simp;repeat (first|go_values|go_skip|go_guarded|go_step|go_upon|go_back)
        clear hx_;have H:=H0_.out;clear H0_
        have hx_:=RS.nth hs262 3 rfl
        by_cases c8:((rd_T53 l0 x5_1).f2.f1)=(wrap64 ((wrap64 ((wrap64 (x1_1+1))+1))+1))
        ·rw [if_pos c8] at H;obtain ⟨c8b0,c8b1⟩:=eqB c8;clear c8
         have H0_:=mA H;clear H
         go_simp;repeat (first|go_values|go_skip|go_guarded|go_step|go_upon|go_back)
         clear hx_;have H:=H0_.out;clear H0_
         have hx_:=RS.nth hs262 4 rfl
         by_cases c9:((rd_T53 l0 x5_1).f2.f2)=(wrap64 ((wrap64 ((wrap64 ((wrap64 (x1_1+1))+1))+1))+1))
         ·rw [if_pos c9] at H;obtain ⟨c9b0,c9b1⟩:=eqB c9;clear c9
          have H0_:=mA H;clear H
          go_simp;repeat (first|go_values|go_skip|go_guarded|go_step|go_upon|go_back)
          clear hx_;have H:=H0_.out;clear H0_
          have hx_:=RS.nth hs262 5 rfl
          by_cases c10:((rd_T53 l0 x5_1).f2.f3)=(wrap64 ((wrap64 ((wrap64 ((wrap64 ((wrap64 (x1_1+1))+1))+1))+1))+1))
          ·rw [if_pos c10] at H;obtain ⟨c10b0,c10b1⟩:=eqB c10;clear c10
           have H0_:=mA H;clear H
           go_simp;repeat (first|go_values|go_skip|go_guarded|go_step|go_upon|go_back)
           clear hx_;have H:=H0_.out;clear H0_
           have hx_:=RS.nth hs262 6 rfl
           by_cases c11:((rd_T53 l0 x5_1).f2.f4)=(wrap64 ((wrap64 ((wrap64 ((wrap64 ((wrap64 ((wrap64 (x1_1+1))+1))+1))+1))+1))+1))
           ·rw [if_pos c11] at H;obtain ⟨c11b0,c11b1⟩:=eqB c11;clear c11
            have H0_:=mA H;clear H
            go_simp;repeat (first|go_values|go_skip|go_guarded|go_step|go_upon|go_back)
            clear hx_;have H:=H0_.out;clear H0_
            have hx_:=RS.nth hs262 7 rfl
            by_cases c12:((rd_T53 l0 x5_1).f2.f5)=(wrap64 ((wrap64 ((wrap64 ((wrap64 ((wrap64 ((wrap64 ((wrap64 (x1_1+1))+1))+1))+1))+1))+1))+1))
            ·rw [if_pos c12] at H;obtain ⟨c12b0,c12b1⟩:=eqB c12;clear c12
             have H0_:=mA H;clear H
             go_simp;repeat (first|go_values|go_skip|go_guarded|go_step|go_upon|go_back)
             clear hx_;have H:=H0_.out;clear H0_
             have hx_:=RS.nth hs262 8 rfl
             by_cases c13:((rd_T53 l0 x5_1).f2.f6)=(wrap64 ((wrap64 ((wrap64 ((wrap64 ((wrap64 ((wrap64 ((wrap64 ((wrap64 (x1_1+1))+1))+1))+1))+1))+1))+1))+1))
             ·rw [if_pos c13] at H;obtain ⟨c13b0,c13b1⟩:=eqB c13;clear c13
              have H0_:=mA H;clear H
              go_simp;repeat (first|go_values|go_skip|go_guarded|go_step|go_upon|go_back)
              clear hx_;have H:=H0_.out;clear H0_
              have hx_:=RS.nth hs262 9 rfl
              by_cases c14:((rd_T53 l0 x5_1).f2.f7)=(wrap64 ((wrap64 ((wrap64 ((wrap64 ((wrap64 ((wrap64 ((wrap64 ((wrap64 ((wrap64 (x1_1+1))+1))+1))+1))+1))+1))+1))+1))+1))
              ·rw [if_pos c14] at H;obtain ⟨c14b0,c14b1⟩:=eqB c14;clear c14
               have H0_:=mA H;clear H
               go_simp;repeat (first|go_values|go_skip|go_guarded|go_step|go_upon|go_back)
               clear hx_;have H:=H0_.out;clear H0_
               have hx_:=RS.nth hs262 10 rfl
               by_cases c15:((rd_T53 l0 x5_1).f2.f8)=(wrap64 ((wrap64 ((wrap64 ((wrap64 ((wrap64 ((wrap64 ((wrap64 ((wrap64 ((wrap64 ((wrap64 (x1_1+1))+1))+1))+1))+1))+1))+1))+1))+1))+1))
               ·rw [if_pos c15] at H;obtain ⟨c15b0,c15b1⟩:=eqB c15;clear c15
                have H0_:=mA H;clear H
                go_simp;repeat (first|go_values|go_skip|go_guarded|go_step|go_upon|go_back)
                clear hx_;have H:=H0_.out;clear H0_
                have hx_:=RS.nth hs262 11 rfl
                by_cases c16:((rd_T53 l0 x5_1).f2.f9)=(wrap64 ((wrap64 ((wrap64 ((wrap64 ((wrap64 ((wrap64 ((wrap64 ((wrap64 ((wrap64 ((wrap64 ((wrap64 (x1_1+1))+1))+1))+1))+1))+1))+1))+1))+1))+1))+1))
                ·rw [if_pos c16] at H;obtain ⟨c16b0,c16b1⟩:=eqB c16;clear c16
                 have H0_:=mA H;clear H
                 go_simp
                 have H:=H0_.out;clear H0_
                 have H':=mA H;clear H;go_wp2
                 go_roundg k1
                 case measure=>have:=HK1.out;omega
                 case rel=>exact ⟨(wrap64 ((wrap64 ((wrap64 ((wrap64 ((wrap64 ((wrap64 ((wrap64 ((wrap64 ((wrap64 ((wrap64 ((wrap64 ((wrap64 (x1_1+1))+1))+1))+1))+1))+1))+1))+1))+1))+1))+1))+1)),(wrap64 (x5_1+1)),bZ,bZ,H',⟨by have:=HK1.out;omega⟩,by repeat (first|exact Drawn0.refl _|apply Drawn0.step)⟩
                ·rw [if_neg c16] at H;obtain ⟨c16b0,c16b1⟩:=neB c16;clear c16;obtain rfl:=Option.some.inj H;go_wp2
                 go_ret
                 exact ⟨by first|rfl|(simp;done)|(simp [*];done),by repeat (first|exact Drawn0.refl _|apply Drawn0.step)⟩
               ·rw [if_neg c15] at H;obtain ⟨c15b0,c15b1⟩:=neB c15;clear c15;obtain rfl:=Option.some.inj H;go_wp2
                go_ret
                exact ⟨by first|rfl|(simp;done)|(simp [*];done),by repeat (first|exact Drawn0.refl _|apply Drawn0.step)⟩
              ·rw [if_neg c14] at H;obtain ⟨c14b0,c14b1⟩:=neB c14;clear c14;obtain rfl:=Option.some.inj H;go_wp2
               go_ret
               exact ⟨by first|rfl|(simp;done)|(simp [*];done),by repeat (first|exact Drawn0.refl _|apply Drawn0.step)⟩
             ·rw [if_neg c13] at H;obtain ⟨c13b0,c13b1⟩:=neB c13;clear c13;obtain rfl:=Option.some.inj H;go_wp2
              go_ret
              exact ⟨by first|rfl|(simp;done)|(simp [*];done),by repeat (first|exact Drawn0.refl _|apply Drawn0.step)⟩
            ·rw [if_neg c12] at H;obtain ⟨c12b0,c12b1⟩:=neB c12;clear c12;obtain rfl:=Option.some.inj H;go_wp2
             go_ret
             exact ⟨by first|rfl|(simp;done)|(simp [*];done),by repeat (first|exact Drawn0.refl _|apply Drawn0.step)⟩
           ·rw [if_neg c11] at H;obtain ⟨c11b0,c11b1⟩:=neB c11;clear c11;obtain rfl:=Option.some.inj H;go_wp2
            go_ret
            exact ⟨by first|rfl|(simp;done)|(simp [*];done),by repeat (first|exact Drawn0.refl _|apply Drawn0.step)⟩
          ·rw [if_neg c10] at H;obtain ⟨c10b0,c10b1⟩:=neB c10;clear c10;obtain rfl:=Option.some.inj H;go_wp2
           go_ret
           exact ⟨by first|rfl|(simp;done)|(simp [*];done),by repeat (first|exact Drawn0.refl _|apply Drawn0.step)⟩
         ·rw [if_neg c9] at H;obtain ⟨c9b0,c9b1⟩:=neB c9;clear c9;obtain rfl:=Option.some.inj H;go_wp2
          go_ret
          exact ⟨by first|rfl|(simp;done)|(simp [*];done),by repeat (first|exact Drawn0.refl _|apply Drawn0.step)⟩
        ·rw [if_neg c8] at H;obtain ⟨c8b0,c8b1⟩:=neB c8;clear c8;obtain rfl:=Option.some.inj H;go_wp2
         go_ret
         exact ⟨by first|rfl|(simp;done)|(simp [*];done),by repeat (first|exact Drawn0.refl _|apply Drawn0.step)⟩
       ·rw [if_neg c7] at H;obtain ⟨c7b0,c7b1⟩:=neB c7;clear c7;obtain rfl:=Option.some.inj H;go_wp2
        go_ret
        exact ⟨by first|rfl|(simp;done)|(simp [*];done),by repeat (first|exact Drawn0.refl _|apply Drawn0.step)⟩
      ·rw [if_neg c6] at H;obtain ⟨c6b0,c6b1⟩:=neB c6;clear c6;obtain rfl:=Option.some.inj H;go_wp2
       go_ret
       exact ⟨by first|rfl|(simp;done)|(simp [*];done),by repeat (first|exact Drawn0.refl _|apply Drawn0.step)⟩
     ·rw [if_neg c5] at H;obtain ⟨c5b0,c5b1⟩:=neB c5;clear c5;obtain rfl:=Option.some.inj H
      go_wp2
      go_ret
      exact ⟨by first|rfl|(simp;done)|(simp [*];done),by repeat (first|exact Drawn0.refl _|apply Drawn0.step)⟩
    ·rw [if_neg c4] at H
     exact absurd H (by simp)
   ·rw [if_neg c3] at H;have c3b0:decide (x5_1<(l0.length:Int))=false:=decide_eq_false c3;clear c3;obtain rfl:=Option.some.inj H
    go_wp2
    go_ret
    exact ⟨by first|rfl|(simp;done)|(simp [*];done),by repeat (first|exact Drawn0.refl _|apply Drawn0.step)⟩

/-! ### laws_heldSynVoterS: function 44 -/
def laws_heldSynVoterS.l0 : Nat → List (S84) → Int → Int → Option (Int)
 | 0,_,_,_=>none
 | k+1,x0,x1,x5=>if x5<(x0.length:Int) then (if 0≤x5 then (if ((rd_T84 x0 x5).f0)=x1 then ((laws_heldSynPaperS.f k ([]:List (S53)) (wrap64 (x1+1))).bind fun t276=>(if t276<0 then (some (-1)) else (laws_heldSynVoterS.l0 k x0 t276 (wrap64 (x5+1))))) else (some (-1))) else (none)) else (some x1)
def laws_heldSynVoterS.f (k : Nat) (l0 : List (S84)) (a1 : Int) : Option (Int) := laws_heldSynVoterS.l0 k l0 a1 0
theorem laws_heldSynVoterS.mono_l : ∀ k, (∀ y0 y1 y2, LeO (laws_heldSynVoterS.l0 k y0 y1 y2) (laws_heldSynVoterS.l0 (k + 1) y0 y1 y2))
 | 0=>fun _ _ _ r h=>by simp [laws_heldSynVoterS.l0] at h
 | k+1=>by
  have ih0:=laws_heldSynVoterS.mono_l k
  ·intros
   unfold laws_heldSynVoterS.l0
   repeat' first
   | (with_reducible first|apply ih0|apply laws_heldSynPaperS.mono|exact LeO.refl _|exact LeO.none _|refine LeO.ite ?_ ?_|refine LeO.bind ?_ (fun _=>?_))|exact LeO.none _|refine LeO.ite ?_ ?_|refine LeO.bind ?_ (fun _=>?_)
theorem laws_heldSynVoterS.mono : ∀ a0 a1 k, LeO (laws_heldSynVoterS.f k a0 a1) (laws_heldSynVoterS.f (k + 1) a0 a1) := by
 intro a0 a1 k;have ih0:=laws_heldSynVoterS.mono_l k
 unfold laws_heldSynVoterS.f
 repeat' first
   | (with_reducible first|apply ih0|apply laws_heldSynPaperS.mono|exact LeO.refl _|exact LeO.none _|refine LeO.ite ?_ ?_|refine LeO.bind ?_ (fun _=>?_))|exact LeO.none _|refine LeO.ite ?_ ?_|refine LeO.bind ?_ (fun _=>?_)
set_option maxHeartbeats 8000000 in
set_option maxRecDepth 100000 in
theorem laws_heldSynVoterS.calls {k : Nat} {A0 : Option Addr} {c0 : Nat} {l0 : List (S84)} {a1 r : Int} {w : World} (hr0 : Kd.C k84 w A0 l0.length l0) (hc0 : l0.length ≤ c0) (h : laws_heldSynVoterS.f k l0 a1 = some r) :
  Calls Try.prog 44 #[.slice A0 l0.length c0,.int .i64 a1] w fun e w'=>e=.returned (.int .i64 r)∧Drawn0 w w':=by
 have HR0:=mA hr0;have HC0:=mA hc0;clear hr0 hc0;have H:(laws_heldSynVoterS.l0 k l0 a1 0)=some r:=h;clear h;have H':=mA H;clear H
 go_enter Try.func44,Try.ntmps44
 go_wp2
 go_loopg [1,5] k (fun kq v1 v5 w'=>∃ (x1_1:Int) (x5_1:Int),v1=.int .i64 x1_1∧v5=.int .i64 x5_1∧Aside0 (laws_heldSynVoterS.l0 kq l0 x1_1 x5_1=some r)∧Aside0 (kq≤k)∧Drawn0 w w')
 case atStart=>exact ⟨(a1),(0),bZ,bZ,H',⟨Nat.le_refl _⟩,by repeat (first|exact Drawn0.refl _|apply Drawn0.step)⟩
 case round =>
  clear H'
  obtain ⟨x1_1,x5_1,rfl,rfl,HA,HK1,⟨m1,rfl⟩⟩:=hrel
  cases gk with
  | zero=>exact absurd HA.out (by simp [laws_heldSynVoterS.l0])
  | succ k1 =>
   have H:=HA.out;clear HA;simp only [laws_heldSynVoterS.l0] at H
   by_cases c3:x5_1<(l0.length:Int)
   ·rw [if_pos c3] at H;have c3b0:decide (x5_1<(l0.length:Int))=true:=decide_eq_true c3;clear c3
    by_cases c4:0≤x5_1
    ·rw [if_pos c4] at H;have c4b0:decide (0≤x5_1)=true:=decide_eq_true c4;clear c4
     by_cases c5:((rd_T84 l0 x5_1).f0)=x1_1
     ·rw [if_pos c5] at H;obtain ⟨c5b0,c5b1⟩:=eqB c5;clear c5;obtain ⟨t276,A6,H⟩:=bI H;(try dsimp only at H)
      by_cases c7:t276<0
      ·rw [if_pos c7] at H;have c7b0:decide (t276<0)=true:=decide_eq_true c7;clear c7;obtain rfl:=Option.some.inj H;have p274:0≤(x5_1:Int):=of_decide_eq_true bA;have q274:x5_1<(l0.length:Int):=of_decide_eq_true bA;obtain ⟨ad274,e274,hx274_0,hx274_1⟩:=at_T84 HR0.out x5_1 p274 q274;cases e274;replace p274:=eq_true p274;replace q274:=eq_true q274;go_wp2_with (first|(refine gL (some 27) Try.func48 #[.slice none 0 0,.int .i64 (wrap64 (x1_1+1))] ?_;(refine (laws_heldSynPaperS.calls ?s1 ?s2 A6.out).mono ?_);(case s1=>exact Kd.C_nil _ _);(case s2=>exact Nat.le_refl _);rintro e w' ⟨rfl,⟨nd,rfl⟩⟩;refine ⟨_,rfl,?_⟩))
       go_ret
       exact ⟨by first|rfl|(simp;done)|(simp [*];done),by repeat (first|exact Drawn0.refl _|apply Drawn0.step)⟩
      ·rw [if_neg c7] at H;have c7b0:decide (t276<0)=false:=decide_eq_false c7;clear c7;have H':=mA H;clear H;have p274:0≤(x5_1:Int):=of_decide_eq_true bA;have q274:x5_1<(l0.length:Int):=of_decide_eq_true bA;obtain ⟨ad274,e274,hx274_0,hx274_1⟩:=at_T84 HR0.out x5_1 p274 q274;cases e274;replace p274:=eq_true p274;replace q274:=eq_true q274;go_wp2_with (first|(refine gL (some 27) Try.func48 #[.slice none 0 0,.int .i64 (wrap64 (x1_1+1))] ?_;(refine (laws_heldSynPaperS.calls ?s1 ?s2 A6.out).mono ?_);(case s1=>exact Kd.C_nil _ _);(case s2=>exact Nat.le_refl _);rintro e w' ⟨rfl,⟨nd,rfl⟩⟩;refine ⟨_,rfl,?_⟩))
       go_roundg k1
       case measure=>have:=HK1.out;omega
       case rel=>exact ⟨(t276),(wrap64 (x5_1+1)),bZ,bZ,H',⟨by have:=HK1.out;omega⟩,by repeat (first|exact Drawn0.refl _|apply Drawn0.step)⟩
     ·rw [if_neg c5] at H;obtain ⟨c5b0,c5b1⟩:=neB c5;clear c5;obtain rfl:=Option.some.inj H;have p274:0≤(x5_1:Int):=of_decide_eq_true bA;have q274:x5_1<(l0.length:Int):=of_decide_eq_true bA;obtain ⟨ad274,e274,hx274_0,hx274_1⟩:=at_T84 HR0.out x5_1 p274 q274;cases e274;replace p274:=eq_true p274;replace q274:=eq_true q274
      go_wp2
      go_ret
      exact ⟨by first|rfl|(simp;done)|(simp [*];done),by repeat (first|exact Drawn0.refl _|apply Drawn0.step)⟩
    ·rw [if_neg c4] at H
     exact absurd H (by simp)
   ·rw [if_neg c3] at H;have c3b0:decide (x5_1<(l0.length:Int))=false:=decide_eq_false c3;clear c3;obtain rfl:=Option.some.inj H
    go_wp2
    go_ret
    exact ⟨by first|rfl|(simp;done)|(simp [*];done),by repeat (first|exact Drawn0.refl _|apply Drawn0.step)⟩

/-! ### laws_heldIntS: function 45 -/
def laws_heldIntS.l0 : Nat → List Int → Int → Int → Option (Int)
 | 0,_,_,_=>none
 | k+1,x0,x1,x5=>if x5<(x0.length:Int) then (if 0≤x5 then (if (rd x0 x5)=x1 then (laws_heldIntS.l0 k x0 (wrap64 (x1+1)) (wrap64 (x5+1))) else (some (-1))) else (none)) else (some x1)
def laws_heldIntS.f (k : Nat) (l0 : List Int) (a1 : Int) : Option (Int) := laws_heldIntS.l0 k l0 a1 0
theorem laws_heldIntS.mono_l : ∀ k, (∀ y0 y1 y2, LeO (laws_heldIntS.l0 k y0 y1 y2) (laws_heldIntS.l0 (k + 1) y0 y1 y2))
 | 0=>fun _ _ _ r h=>by simp [laws_heldIntS.l0] at h
 | k+1=>by
  have ih0:=laws_heldIntS.mono_l k
  ·intros
   unfold laws_heldIntS.l0
   repeat' first
   | (with_reducible first|apply ih0|exact LeO.refl _|exact LeO.none _|refine LeO.ite ?_ ?_|refine LeO.bind ?_ (fun _=>?_))|exact LeO.none _|refine LeO.ite ?_ ?_|refine LeO.bind ?_ (fun _=>?_)
theorem laws_heldIntS.mono : ∀ a0 a1 k, LeO (laws_heldIntS.f k a0 a1) (laws_heldIntS.f (k + 1) a0 a1) := by
 intro a0 a1 k;have ih0:=laws_heldIntS.mono_l k
 unfold laws_heldIntS.f
 repeat' first
   | (with_reducible first|apply ih0|exact LeO.refl _|exact LeO.none _|refine LeO.ite ?_ ?_|refine LeO.bind ?_ (fun _=>?_))|exact LeO.none _|refine LeO.ite ?_ ?_|refine LeO.bind ?_ (fun _=>?_)
set_option maxHeartbeats 8000000 in
set_option maxRecDepth 100000 in
theorem laws_heldIntS.calls {k : Nat} {A0 : Option Addr} {c0 : Nat} {l0 : List Int} {a1 r : Int} {w : World} (hr0 : Kd.C (Kd.int .i64) w A0 l0.length l0) (hc0 : l0.length ≤ c0) (h : laws_heldIntS.f k l0 a1 = some r) :
  Calls Try.prog 45 #[.slice A0 l0.length c0,.int .i64 a1] w fun e w'=>e=.returned (.int .i64 r)∧Drawn0 w w':=by
 have HR0:=mA hr0;have HC0:=mA hc0;clear hr0 hc0;have H:(laws_heldIntS.l0 k l0 a1 0)=some r:=h;clear h;have H':=mA H;clear H
 go_enter Try.func45,Try.ntmps45
 go_wp2
 go_loopg [1,5] k (fun kq v1 v5 w'=>∃ (x1_1:Int) (x5_1:Int),v1=.int .i64 x1_1∧v5=.int .i64 x5_1∧Aside0 (laws_heldIntS.l0 kq l0 x1_1 x5_1=some r)∧Aside0 (kq≤k)∧Drawn0 w w')
 case atStart=>exact ⟨(a1),(0),bZ,bZ,H',⟨Nat.le_refl _⟩,by repeat (first|exact Drawn0.refl _|apply Drawn0.step)⟩
 case round =>
  clear H'
  obtain ⟨x1_1,x5_1,rfl,rfl,HA,HK1,⟨m1,rfl⟩⟩:=hrel
  cases gk with
  | zero=>exact absurd HA.out (by simp [laws_heldIntS.l0])
  | succ k1 =>
   have H:=HA.out;clear HA;simp only [laws_heldIntS.l0] at H
   by_cases c3:x5_1<(l0.length:Int)
   ·rw [if_pos c3] at H;have c3b0:decide (x5_1<(l0.length:Int))=true:=decide_eq_true c3;clear c3
    by_cases c4:0≤x5_1
    ·rw [if_pos c4] at H;have c4b0:decide (0≤x5_1)=true:=decide_eq_true c4;clear c4
     by_cases c5:(rd l0 x5_1)=x1_1
     ·rw [if_pos c5] at H;obtain ⟨c5b0,c5b1⟩:=eqB c5;clear c5;have H':=mA H;clear H;have p277:0≤(x5_1:Int):=of_decide_eq_true bA;have q277:x5_1<(l0.length:Int):=of_decide_eq_true bA;obtain ⟨ad277,e277,hx277_0⟩:=Kd.at_int HR0.out x5_1 p277 q277;cases e277;replace p277:=eq_true p277;replace q277:=eq_true q277
      go_wp2
      go_roundg k1
      case measure=>have:=HK1.out;omega
      case rel=>exact ⟨(wrap64 (x1_1+1)),(wrap64 (x5_1+1)),bZ,bZ,H',⟨by have:=HK1.out;omega⟩,by repeat (first|exact Drawn0.refl _|apply Drawn0.step)⟩
     ·rw [if_neg c5] at H;obtain ⟨c5b0,c5b1⟩:=neB c5;clear c5;obtain rfl:=Option.some.inj H;have p277:0≤(x5_1:Int):=of_decide_eq_true bA;have q277:x5_1<(l0.length:Int):=of_decide_eq_true bA;obtain ⟨ad277,e277,hx277_0⟩:=Kd.at_int HR0.out x5_1 p277 q277;cases e277;replace p277:=eq_true p277;replace q277:=eq_true q277
      go_wp2
      go_ret
      exact ⟨by first|rfl|(simp;done)|(simp [*];done),by repeat (first|exact Drawn0.refl _|apply Drawn0.step)⟩
    ·rw [if_neg c4] at H
     exact absurd H (by simp)
   ·rw [if_neg c3] at H;have c3b0:decide (x5_1<(l0.length:Int))=false:=decide_eq_false c3;clear c3;obtain rfl:=Option.some.inj H
    go_wp2
    go_ret
    exact ⟨by first|rfl|(simp;done)|(simp [*];done),by repeat (first|exact Drawn0.refl _|apply Drawn0.step)⟩

end Go.Proofs.Ytncohokalilnbaa.P
