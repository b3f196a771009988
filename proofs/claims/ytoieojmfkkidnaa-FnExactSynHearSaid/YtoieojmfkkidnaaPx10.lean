-- printed by pprint.py (this session's program over the kit's printer) out of the translation. Lean checks it.
import Derived.Test.YtoieojmfkkidnaaPx0
import Derived.Test.YtoieojmfkkidnaaPx9
namespace Go.Proofs.Ytoieojmfkkidnaa.P
open Go.RowKit Go.Proofs.YtoieojmfkkidnaaX Go.Proofs.YtoieojmfkkidnaaW.PrintWords Go.Proofs.YtoieojmfkkidnaaW.PrintLast Go.Proofs.YtoieojmfkkidnaaW.PrintMore
attribute [local go_sem] max2_int min2_int max_two min_two max_three min_three max_four min_four   -- for this text's walks alone
set_option linter.unusedVariables false
set_option linter.unusedSimpArgs false
/-! ### laws_heldWordS: function 42 -/
def laws_heldWordS.l0 : Nat → List (S9028) → Int → Int → Option (Int)
 | 0,_,_,_=>none
 | k+1,x0,x1,x5=>if x5<(x0.length:Int) then (if 0≤x5 then (if ((rd_T9028 x0 x5).f0)=x1 then (if ((rd_T9028 x0 x5).f1)=(wrap64 (x1+1)) then (if ((rd_T9028 x0 x5).f2)=(wrap64 ((wrap64 (x1+1))+1)) then (if ((rd_T9028 x0 x5).f3)=(wrap64 ((wrap64 ((wrap64 (x1+1))+1))+1)) then (if ((rd_T9028 x0 x5).f4)=(wrap64 ((wrap64 ((wrap64 ((wrap64 (x1+1))+1))+1))+1)) then (if ((rd_T9028 x0 x5).f5)=(wrap64 ((wrap64 ((wrap64 ((wrap64 ((wrap64 (x1+1))+1))+1))+1))+1)) then (if ((rd_T9028 x0 x5).f6.f0)=(wrap64 ((wrap64 ((wrap64 ((wrap64 ((wrap64 ((wrap64 (x1+1))+1))+1))+1))+1))+1)) then (if ((rd_T9028 x0 x5).f6.f1)=(wrap64 ((wrap64 ((wrap64 ((wrap64 ((wrap64 ((wrap64 ((wrap64 (x1+1))+1))+1))+1))+1))+1))+1)) then (if ((rd_T9028 x0 x5).f6.f2)=(wrap64 ((wrap64 ((wrap64 ((wrap64 ((wrap64 ((wrap64 ((wrap64 ((wrap64 (x1+1))+1))+1))+1))+1))+1))+1))+1)) then (if ((rd_T9028 x0 x5).f6.f3)=(wrap64 ((wrap64 ((wrap64 ((wrap64 ((wrap64 ((wrap64 ((wrap64 ((wrap64 ((wrap64 (x1+1))+1))+1))+1))+1))+1))+1))+1))+1)) then (if ((rd_T9028 x0 x5).f6.f4)=(wrap64 ((wrap64 ((wrap64 ((wrap64 ((wrap64 ((wrap64 ((wrap64 ((wrap64 ((wrap64 ((wrap64 (x1+1))+1))+1))+1))+1))+1))+1))+1))+1))+1)) then (if ((rd_T9028 x0 x5).f6.f5)=(wrap64 ((wrap64 ((wrap64 ((wrap64 ((wrap64 ((wrap64 ((wrap64 ((wrap64 ((wrap64 ((wrap64 ((wrap64 (x1+1))+1))+1))+1))+1))+1))+1))+1))+1))+1))+1)) then (if ((rd_T9028 x0 x5).f6.f6)=(wrap64 ((wrap64 ((wrap64 ((wrap64 ((wrap64 ((wrap64 ((wrap64 ((wrap64 ((wrap64 ((wrap64 ((wrap64 ((wrap64 (x1+1))+1))+1))+1))+1))+1))+1))+1))+1))+1))+1))+1)) then (if ((rd_T9028 x0 x5).f6.f7)=(wrap64 ((wrap64 ((wrap64 ((wrap64 ((wrap64 ((wrap64 ((wrap64 ((wrap64 ((wrap64 ((wrap64 ((wrap64 ((wrap64 ((wrap64 (x1+1))+1))+1))+1))+1))+1))+1))+1))+1))+1))+1))+1))+1)) then (if ((rd_T9028 x0 x5).f6.f8)=(wrap64 ((wrap64 ((wrap64 ((wrap64 ((wrap64 ((wrap64 ((wrap64 ((wrap64 ((wrap64 ((wrap64 ((wrap64 ((wrap64 ((wrap64 ((wrap64 (x1+1))+1))+1))+1))+1))+1))+1))+1))+1))+1))+1))+1))+1))+1)) then (if ((rd_T9028 x0 x5).f6.f9)=(wrap64 ((wrap64 ((wrap64 ((wrap64 ((wrap64 ((wrap64 ((wrap64 ((wrap64 ((wrap64 ((wrap64 ((wrap64 ((wrap64 ((wrap64 ((wrap64 ((wrap64 (x1+1))+1))+1))+1))+1))+1))+1))+1))+1))+1))+1))+1))+1))+1))+1)) then (if ((rd_T9028 x0 x5).f7)=(wrap64 ((wrap64 ((wrap64 ((wrap64 ((wrap64 ((wrap64 ((wrap64 ((wrap64 ((wrap64 ((wrap64 ((wrap64 ((wrap64 ((wrap64 ((wrap64 ((wrap64 ((wrap64 (x1+1))+1))+1))+1))+1))+1))+1))+1))+1))+1))+1))+1))+1))+1))+1))+1)) then (if ((rd_T9028 x0 x5).f8)=(wrap64 ((wrap64 ((wrap64 ((wrap64 ((wrap64 ((wrap64 ((wrap64 ((wrap64 ((wrap64 ((wrap64 ((wrap64 ((wrap64 ((wrap64 ((wrap64 ((wrap64 ((wrap64 ((wrap64 (x1+1))+1))+1))+1))+1))+1))+1))+1))+1))+1))+1))+1))+1))+1))+1))+1))+1)) then (if ((rd_T9028 x0 x5).f9)=(wrap64 ((wrap64 ((wrap64 ((wrap64 ((wrap64 ((wrap64 ((wrap64 ((wrap64 ((wrap64 ((wrap64 ((wrap64 ((wrap64 ((wrap64 ((wrap64 ((wrap64 ((wrap64 ((wrap64 ((wrap64 (x1+1))+1))+1))+1))+1))+1))+1))+1))+1))+1))+1))+1))+1))+1))+1))+1))+1))+1)) then (if ((rd_T9028 x0 x5).f10)=(wrap64 ((wrap64 ((wrap64 ((wrap64 ((wrap64 ((wrap64 ((wrap64 ((wrap64 ((wrap64 ((wrap64 ((wrap64 ((wrap64 ((wrap64 ((wrap64 ((wrap64 ((wrap64 ((wrap64 ((wrap64 ((wrap64 (x1+1))+1))+1))+1))+1))+1))+1))+1))+1))+1))+1))+1))+1))+1))+1))+1))+1))+1))+1)) then (if ((rd_T9028 x0 x5).f11)=(wrap64 ((wrap64 ((wrap64 ((wrap64 ((wrap64 ((wrap64 ((wrap64 ((wrap64 ((wrap64 ((wrap64 ((wrap64 ((wrap64 ((wrap64 ((wrap64 ((wrap64 ((wrap64 ((wrap64 ((wrap64 ((wrap64 ((wrap64 (x1+1))+1))+1))+1))+1))+1))+1))+1))+1))+1))+1))+1))+1))+1))+1))+1))+1))+1))+1))+1)) then (if ((rd_T9028 x0 x5).f12)=(wrap64 ((wrap64 ((wrap64 ((wrap64 ((wrap64 ((wrap64 ((wrap64 ((wrap64 ((wrap64 ((wrap64 ((wrap64 ((wrap64 ((wrap64 ((wrap64 ((wrap64 ((wrap64 ((wrap64 ((wrap64 ((wrap64 ((wrap64 ((wrap64 (x1+1))+1))+1))+1))+1))+1))+1))+1))+1))+1))+1))+1))+1))+1))+1))+1))+1))+1))+1))+1))+1)) then (if ((rd_T9028 x0 x5).f13)=(wrap64 ((wrap64 ((wrap64 ((wrap64 ((wrap64 ((wrap64 ((wrap64 ((wrap64 ((wrap64 ((wrap64 ((wrap64 ((wrap64 ((wrap64 ((wrap64 ((wrap64 ((wrap64 ((wrap64 ((wrap64 ((wrap64 ((wrap64 ((wrap64 ((wrap64 (x1+1))+1))+1))+1))+1))+1))+1))+1))+1))+1))+1))+1))+1))+1))+1))+1))+1))+1))+1))+1))+1))+1)) then (if ((rd_T9028 x0 x5).f14)=(wrap64 ((wrap64 ((wrap64 ((wrap64 ((wrap64 ((wrap64 ((wrap64 ((wrap64 ((wrap64 ((wrap64 ((wrap64 ((wrap64 ((wrap64 ((wrap64 ((wrap64 ((wrap64 ((wrap64 ((wrap64 ((wrap64 ((wrap64 ((wrap64 ((wrap64 ((wrap64 (x1+1))+1))+1))+1))+1))+1))+1))+1))+1))+1))+1))+1))+1))+1))+1))+1))+1))+1))+1))+1))+1))+1))+1)) then ((laws_heldBlkPieceS.f k ([]:List (S138)) (wrap64 ((wrap64 ((wrap64 ((wrap64 ((wrap64 ((wrap64 ((wrap64 ((wrap64 ((wrap64 ((wrap64 ((wrap64 ((wrap64 ((wrap64 ((wrap64 ((wrap64 ((wrap64 ((wrap64 ((wrap64 ((wrap64 ((wrap64 ((wrap64 ((wrap64 ((wrap64 ((wrap64 (x1+1))+1))+1))+1))+1))+1))+1))+1))+1))+1))+1))+1))+1))+1))+1))+1))+1))+1))+1))+1))+1))+1))+1))+1))).bind fun t305=>(if t305<0 then (some (-1)) else ((laws_heldBlkLastS.f k ([]:List (S140)) t305).bind fun t307=>(if t307<0 then (some (-1)) else (laws_heldWordS.l0 k x0 t307 (wrap64 (x5+1))))))) else (some (-1))) else (some (-1))) else (some (-1))) else (some (-1))) else (some (-1))) else (some (-1))) else (some (-1))) else (some (-1))) else (some (-1))) else (some (-1))) else (some (-1))) else (some (-1))) else (some (-1))) else (some (-1))) else (some (-1))) else (some (-1))) else (some (-1))) else (some (-1))) else (some (-1))) else (some (-1))) else (some (-1))) else (some (-1))) else (some (-1))) else (some (-1))) else (none)) else (some x1)
def laws_heldWordS.f (k : Nat) (l0 : List (S9028)) (a1 : Int) : Option (Int) := laws_heldWordS.l0 k l0 a1 0
theorem laws_heldWordS.mono_l : ∀ k, (∀ y0 y1 y2, LeO (laws_heldWordS.l0 k y0 y1 y2) (laws_heldWordS.l0 (k + 1) y0 y1 y2))
 | 0=>fun _ _ _ r h=>by simp [laws_heldWordS.l0] at h
 | k+1=>by
  have ih0:=laws_heldWordS.mono_l k
  ·intros
   unfold laws_heldWordS.l0
   repeat' first
   | (with_reducible first|apply ih0|apply laws_heldBlkLastS.mono|apply laws_heldBlkPieceS.mono|exact LeO.refl _|exact LeO.none _|refine LeO.ite ?_ ?_|refine LeO.bind ?_ (fun _=>?_))|exact LeO.none _|refine LeO.ite ?_ ?_|refine LeO.bind ?_ (fun _=>?_)
theorem laws_heldWordS.mono : ∀ a0 a1 k, LeO (laws_heldWordS.f k a0 a1) (laws_heldWordS.f (k + 1) a0 a1) := by
 intro a0 a1 k;have ih0:=laws_heldWordS.mono_l k
 unfold laws_heldWordS.f
 repeat' first
   | (with_reducible first|apply ih0|apply laws_heldBlkLastS.mono|apply laws_heldBlkPieceS.mono|exact LeO.refl _|exact LeO.none _|refine LeO.ite ?_ ?_|refine LeO.bind ?_ (fun _=>?_))|exact LeO.none _|refine LeO.ite ?_ ?_|refine LeO.bind ?_ (fun _=>?_)
set_option maxHeartbeats 8000000 in
set_option maxRecDepth 100000 in
theorem laws_heldWordS.calls {k : Nat} {A0 : Option Addr} {c0 : Nat} {l0 : List (S9028)} {a1 r : Int} {w : World} (hr0 : Kd.C k9028 w A0 l0.length l0) (hc0 : l0.length ≤ c0) (h : laws_heldWordS.f k l0 a1 = some r) :
  Calls Try.prog 42 #[.slice A0 l0.length c0,.int .i64 a1] w fun e w'=>e=.returned (.int .i64 r)∧Drawn0 w w':=by
 have HR0:=mA hr0;have HC0:=mA hc0;clear hr0 hc0;have H:(laws_heldWordS.l0 k l0 a1 0)=some r:=h;clear h;have H':=mA H;clear H
 go_enter Try.func42,Try.ntmps42
 go_wp2
 go_loopg [1,5] k (fun kq v1 v5 w'=>∃ (x1_1:Int) (x5_1:Int),v1=.int .i64 x1_1∧v5=.int .i64 x5_1∧Aside0 (laws_heldWordS.l0 kq l0 x1_1 x5_1=some r)∧Aside0 (kq≤k)∧Drawn0 w w')
 case atStart=>exact ⟨(a1),(0),bZ,bZ,H',⟨Nat.le_refl _⟩,by repeat (first|exact Drawn0.refl _|apply Drawn0.step)⟩
 case round =>
  clear H'
  obtain ⟨x1_1,x5_1,rfl,rfl,HA,HK1,⟨m1,rfl⟩⟩:=hrel
  cases gk with
  | zero=>exact absurd HA.out (by simp [laws_heldWordS.l0])
  | succ k1 =>
   have H:=HA.out;clear HA;simp only [laws_heldWordS.l0] at H
   by_cases c3:x5_1<(l0.length:Int)
   ·rw [if_pos c3] at H;have c3b0:decide (x5_1<(l0.length:Int))=true:=decide_eq_true c3;clear c3
    by_cases c4:0≤x5_1
    ·rw [if_pos c4] at H;have c4b0:decide (0≤x5_1)=true:=decide_eq_true c4;clear c4
     have p280:0≤(x5_1:Int):=of_decide_eq_true bA;have q280:x5_1<(l0.length:Int):=of_decide_eq_true bA;obtain ⟨ad280,e280,hs280⟩:=at_R9028 HR0.out x5_1 p280 q280;cases e280;replace p280:=eq_true p280;replace q280:=eq_true q280;have H0_:=mA H;clear H
     repeat (first|go_values|go_skip|go_guarded|go_step|go_upon|go_back)
     have H:=H0_.out;clear H0_
     have hx_:=RS.hd hs280 rfl
     by_cases c5:((rd_T9028 l0 x5_1).f0)=x1_1
     ·rw [if_pos c5] at H;obtain ⟨c5b0,c5b1⟩:=eqB c5;clear c5
      have H0_:=mA H;clear H
      go_simp;repeat (first|go_values|go_skip|go_guarded|go_step|go_upon|go_back)
      clear hx_;have H:=H0_.out;clear H0_
      have hx_:=RS.nth hs280 1 rfl
      by_cases c6:((rd_T9028 l0 x5_1).f1)=(wrap64 (x1_1+1))
      ·rw [if_pos c6] at H;obtain ⟨c6b0,c6b1⟩:=eqB c6;clear c6
       have H0_:=mA H;clear H
       go_simp;repeat (first|go_values|go_skip|go_guarded|go_step|go_upon|go_back)
       clear hx_;have H:=H0_.out;clear H0_
       have hx_:=RS.nth hs280 2 rfl
       by_cases c7:((rd_T9028 l0 x5_1).f2)=(wrap64 ((wrap64 (x1_1+1))+1))
       ·rw [if_pos c7] at H;obtain ⟨c7b0,c7b1⟩:=eqB c7;clear c7
        have H0_:=mA H;clear H
        go_simp;repeat (first|go_values|go_skip|go_guarded|go_step|go_upon|go_back)
        clear hx_;have H:=H0_.out;clear H0_
        have hx_:=RS.nth hs280 3 rfl
        by_cases c8:((rd_T9028 l0 x5_1).f3)=(wrap64 ((wrap64 ((wrap64 (x1_1+1))+1))+1))
        ·rw [if_pos c8] at H;obtain ⟨c8b0,c8b1⟩:=eqB c8;clear c8
         have H0_:=mA H;clear H
         go_simp;repeat (first|go_values|go_skip|go_guarded|go_step|go_upon|go_back)
         clear hx_;have H:=H0_.out;clear H0_
         have hx_:=RS.nth hs280 4 rfl
         by_cases c9:((rd_T9028 l0 x5_1).f4)=(wrap64 ((wrap64 ((wrap64 ((wrap64 (x1_1+1))+1))+1))+1))
         ·rw [if_pos c9] at H;obtain ⟨c9b0,c9b1⟩:=eqB c9;clear c9
          have H0_:=mA H;clear H
          go_simp;repeat (first|go_values|go_skip|go_guarded|go_step|go_upon|go_back)
          clear hx_;have H:=H0_.out;clear H0_
          have hx_:=RS.nth hs280 5 rfl
          by_cases c10:((rd_T9028 l0 x5_1).f5)=(wrap64 ((wrap64 ((wrap64 ((wrap64 ((wrap64 (x1_1+1))+1))+1))+1))+1))
          ·rw [if_pos c10] at H;obtain ⟨c10b0,c10b1⟩:=eqB c10;clear c10
           have H0_:=mA H;clear H
           go_simp;repeat (first|go_values|go_skip|go_guarded|go_step|go_upon|go_back)
           clear hx_;have H:=H0_.out;clear H0_
           have hx_:=RS.nth hs280 6 rfl
           by_cases c11:((rd_T9028 l0 x5_1).f6.f0)=(wrap64 ((wrap64 ((wrap64 ((wrap64 ((wrap64 ((wrap64 (x1_1+1))+1))+1))+1))+1))+1))
           ·rw [if_pos c11] at H;obtain ⟨c11b0,c11b1⟩:=eqB c11;clear c11
            have H0_:=mA H;clear H
            go_simp;repeat (first|go_values|go_skip|go_guarded|go_step|go_upon|go_back)
            clear hx_;have H:=H0_.out;clear H0_
            have hx_:=RS.nth hs280 7 rfl
            by_cases c12:((rd_T9028 l0 x5_1).f6.f1)=(wrap64 ((wrap64 ((wrap64 ((wrap64 ((wrap64 ((wrap64 ((wrap64 (x1_1+1))+1))+1))+1))+1))+1))+1))
            ·rw [if_pos c12] at H;obtain ⟨c12b0,c12b1⟩:=eqB c12;clear c12
             have H0_:=mA H;clear H
             go_simp;repeat (first|go_values|go_skip|go_guarded|go_step|go_upon|go_back)
             clear hx_;have H:=H0_.out;clear H0_
             have hx_:=RS.nth hs280 8 rfl
             by_cases c13:((rd_T9028 l0 x5_1).f6.f2)=(wrap64 ((wrap64 ((wrap64 ((wrap64 ((wrap64 ((wrap64 ((wrap64 ((wrap64 (x1_1+1))+1))+1))+1))+1))+1))+1))+1))
             ·rw [if_pos c13] at H;obtain ⟨c13b0,c13b1⟩:=eqB c13;clear c13
              have H0_:=mA H;clear H
              go_simp;repeat (first|go_values|go_skip|go_guarded|go_step|go_upon|go_back)
              clear hx_;have H:=H0_.out;clear H0_
              have hx_:=RS.nth hs280 9 rfl
              by_cases c14:((rd_T9028 l0 x5_1).f6.f3)=(wrap64 ((wrap64 ((wrap64 ((wrap64 ((wrap64 ((wrap64 ((wrap64 ((wrap64 ((wrap64 (x1_1+1))+1))+1))+1))+1))+1))+1))+1))+1))
              ·rw [if_pos c14] at H;obtain ⟨c14b0,c14b1⟩:=eqB c14;clear c14
               have H0_:=mA H;clear H
               go_simp;repeat (first|go_values|go_skip|go_guarded|go_step|go_upon|go_back)
               clear hx_;have H:=H0_.out;clear H0_
               have hx_:=RS.nth hs280 10 rfl
               by_cases c15:((rd_T9028 l0 x5_1).f6.f4)=(wrap64 ((wrap64 ((wrap64 ((wrap64 ((wrap64 ((wrap64 ((wrap64 ((wrap64 ((wrap64 ((wrap64 (x1_1+1))+1))+1))+1))+1))+1))+1))+1))+1))+1))
               ·rw [if_pos c15] at H;obtain ⟨c15b0,c15b1⟩:=eqB c15;clear c15
                have H0_:=mA H;clear H
                go_simp;repeat (first|go_values|go_skip|go_guarded|go_step|go_upon|go_back)
                clear hx_;have H:=H0_.out;clear H0_
                have hx_:=RS.nth hs280 11 rfl
                by_cases c16:((rd_T9028 l0 x5_1).f6.f5)=(wrap64 ((wrap64 ((wrap64 ((wrap64 ((wrap64 ((wrap64 ((wrap64 ((wrap64 ((wrap64 ((wrap64 ((wrap64 (x1_1+1))+1))+1))+1))+1))+1))+1))+1))+1))+1))+1))
                ·rw [if_pos c16] at H;obtain ⟨c16b0,c16b1⟩:=eqB c16;clear c16
                 have H0_:=mA H;clear H
                 go_simp;repeat (first|go_values|go_skip|go_guarded|go_step|go_upon|go_back)
                 clear hx_;have H:=H0_.out;clear H0_
                 have hx_:=RS.nth hs280 12 rfl
                 by_cases c17:((rd_T9028 l0 x5_1).f6.f6)=(wrap64 ((wrap64 ((wrap64 ((wrap64 ((wrap64 ((wrap64 ((wrap64 ((wrap64 ((wrap64 ((wrap64 ((wrap64 ((wrap64 (x1_1+1))+1))+1))+1))+1))+1))+1))+1))+1))+1))+1))+1))
                 ·rw [if_pos c17] at H;obtain ⟨c17b0,c17b1⟩:=eqB c17;clear c17
                  have H0_:=mA H;clear H
                  go_simp;repeat (first|go_values|go_skip|go_guarded|go_step|go_upon|go_back)
                  clear hx_;have H:=H0_.out;clear H0_
                  have hx_:=RS.nth hs280 13 rfl
                  by_cases c18:((rd_T9028 l0 x5_1).f6.f7)=(wrap64 ((wrap64 ((wrap64 ((wrap64 ((wrap64 ((wrap64 ((wrap64 ((wrap64 ((wrap64 ((wrap64 ((wrap64 ((wrap64 ((wrap64 (x1_1+1))+1))+1))+1))+1))+1))+1))+1))+1))+1))+1))+1))+1))
                  ·rw [if_pos c18] at H;obtain ⟨c18b0,c18b1⟩:=eqB c18;clear c18
                   have H0_:=mA H;clear H
                   go_simp;repeat (first|go_values|go_skip|go_guarded|go_step|go_upon|go_back)
                   clear hx_;have H:=H0_.out;clear H0_
                   have hx_:=RS.nth hs280 14 rfl
                   by_cases c19:((rd_T9028 l0 x5_1).f6.f8)=(wrap64 ((wrap64 ((wrap64 ((wrap64 ((wrap64 ((wrap64 ((wrap64 ((wrap64 ((wrap64 ((wrap64 ((wrap64 ((wrap64 ((wrap64 ((wrap64 (x1_1+1))+1))+1))+1))+1))+1))+1))+1))+1))+1))+1))+1))+1))+1))
                   ·rw [if_pos c19] at H;obtain ⟨c19b0,c19b1⟩:=eqB c19;clear c19
                    have H0_:=mA H;clear H
                    go_simp;repeat (first|go_values|go_skip|go_guarded|go_step|go_upon|go_back)
                    clear hx_;have H:=H0_.out;clear H0_
                    have hx_:=RS.nth hs280 15 rfl
                    by_cases c20:((rd_T9028 l0 x5_1).f6.f9)=(wrap64 ((wrap64 ((wrap64 ((wrap64 ((wrap64 ((wrap64 ((wrap64 ((wrap64 ((wrap64 ((wrap64 ((wrap64 ((wrap64 ((wrap64 ((wrap64 ((wrap64 (x1_1+1))+1))+1))+1))+1))+1))+1))+1))+1))+1))+1))+1))+1))+1))+1))
                    ·rw [if_pos c20] at H;obtain ⟨c20b0,c20b1⟩:=eqB c20;clear c20
                     have H0_:=mA H;clear H
                     go_simp;repeat (first|go_values|go_skip|go_guarded|go_step|go_upon|go_back)
                     clear hx_;have H:=H0_.out;clear H0_
                     have hx_:=RS.nth hs280 16 rfl
                     by_cases c21:((rd_T9028 l0 x5_1).f7)=(wrap64 ((wrap64 ((wrap64 ((wrap64 ((wrap64 ((wrap64 ((wrap64 ((wrap64 ((wrap64 ((wrap64 ((wrap64 ((wrap64 ((wrap64 ((wrap64 ((wrap64 ((wrap64 (x1_1+1))+1))+1))+1))+1))+1))+1))+1))+1))+1))+1))+1))+1))+1))+1))+1))
                     ·rw [if_pos c21] at H;obtain ⟨c21b0,c21b1⟩:=eqB c21;clear c21
                      have H0_:=mA H;clear H
                      go_simp;repeat (first|go_values|go_skip|go_guarded|go_step|go_upon|go_back)
                      clear hx_;have H:=H0_.out;clear H0_
                      have hx_:=RS.nth hs280 17 rfl
                      by_cases c22:((rd_T9028 l0 x5_1).f8)=(wrap64 ((wrap64 ((wrap64 ((wrap64 ((wrap64 ((wrap64 ((wrap64 ((wrap64 ((wrap64 ((wrap64 ((wrap64 ((wrap64 ((wrap64 ((wrap64 ((wrap64 ((wrap64 ((wrap64 (x1_1+1))+1))+1))+1))+1))+1))+1))+1))+1))+1))+1))+1))+1))+1))+1))+1))+1))
                      ·rw [if_pos c22] at H;obtain ⟨c22b0,c22b1⟩:=eqB c22;clear c22
                       have H0_:=mA H;clear H
                       go_simp;repeat (first|go_values|go_skip|go_guarded|go_step|go_upon|go_back)
                       clear hx_;have H:=H0_.out;clear H0_
                       have hx_:=RS.nth hs280 18 rfl
                       by_cases c23:((rd_T9028 l0 x5_1).f9)=(wrap64 ((wrap64 ((wrap64 ((wrap64 ((wrap64 ((wrap64 ((wrap64 ((wrap64 ((wrap64 ((wrap64 ((wrap64 ((wrap64 ((wrap64 ((wrap64 ((wrap64 ((wrap64 ((wrap64 ((wrap64 (x1_1+1))+1))+1))+1))+1))+1))+1))+1))+1))+1))+1))+1))+1))+1))+1))+1))+1))+1))
                       ·rw [if_pos c23] at H;obtain ⟨c23b0,c23b1⟩:=eqB c23;clear c23
                        have H0_:=mA H;clear H
                        go_simp;repeat (first|go_values|go_skip|go_guarded|go_step|go_upon|go_back)
                        clear hx_;have H:=H0_.out;clear H0_
                        have hx_:=RS.nth hs280 19 rfl
                        by_cases c24:((rd_T9028 l0 x5_1).f10)=(wrap64 ((wrap64 ((wrap64 ((wrap64 ((wrap64 ((wrap64 ((wrap64 ((wrap64 ((wrap64 ((wrap64 ((wrap64 ((wrap64 ((wrap64 ((wrap64 ((wrap64 ((wrap64 ((wrap64 ((wrap64 ((wrap64 (x1_1+1))+1))+1))+1))+1))+1))+1))+1))+1))+1))+1))+1))+1))+1))+1))+1))+1))+1))+1))
                        ·rw [if_pos c24] at H;obtain ⟨c24b0,c24b1⟩:=eqB c24;clear c24
                         have H0_:=mA H;clear H
                         go_simp;repeat (first|go_values|go_skip|go_guarded|go_step|go_upon|go_back)
                         clear hx_;have H:=H0_.out;clear H0_
                         have hx_:=RS.nth hs280 20 rfl
                         by_cases c25:((rd_T9028 l0 x5_1).f11)=(wrap64 ((wrap64 ((wrap64 ((wrap64 ((wrap64 ((wrap64 ((wrap64 ((wrap64 ((wrap64 ((wrap64 ((wrap64 ((wrap64 ((wrap64 ((wrap64 ((wrap64 ((wrap64 ((wrap64 ((wrap64 ((wrap64 ((wrap64 (x1_1+1))+1))+1))+1))+1))+1))+1))+1))+1))+1))+1))+1))+1))+1))+1))+1))+1))+1))+1))+1))
                         ·rw [if_pos c25] at H;obtain ⟨c25b0,c25b1⟩:=eqB c25;clear c25
                          have H0_:=mA H;clear H
                          go_simp;repeat (first|go_values|go_skip|go_guarded|go_step|go_upon|go_back)
                          clear hx_;have H:=H0_.out;clear H0_
                          have hx_:=RS.nth hs280 21 rfl
                          by_cases c26:((rd_T9028 l0 x5_1).f12)=(wrap64 ((wrap64 ((wrap64 ((wrap64 ((wrap64 ((wrap64 ((wrap64 ((wrap64 ((wrap64 ((wrap64 ((wrap64 ((wrap64 ((wrap64 ((wrap64 ((wrap64 ((wrap64 ((wrap64 ((wrap64 ((wrap64 ((wrap64 ((wrap64 (x1_1+1))+1))+1))+1))+1))+1))+1))+1))+1))+1))+1))+1))+1))+1))+1))+1))+1))+1))+1))+1))+1))
                          ·rw [if_pos c26] at H;obtain ⟨c26b0,c26b1⟩:=eqB c26;clear c26
                           have H0_:=mA H;clear H
                           go_simp;repeat (first|go_values|go_skip|go_guarded|go_step|go_upon|go_back)
                           clear hx_;have H:=H0_.out;clear H0_
                           have hx_:=RS.nth hs280 22 rfl
                           by_cases c27:((rd_T9028 l0 x5_1).f13)=(wrap64 ((wrap64 ((wrap64 ((wrap64 ((wrap64 ((wrap64 ((wrap64 ((wrap64 ((wrap64 ((wrap64 ((wrap64 ((wrap64 ((wrap64 ((wrap64 ((wrap64 ((wrap64 ((wrap64 ((wrap64 ((wrap64 ((wrap64 ((wrap64 ((wrap64 (x1_1+1))+1))+1))+1))+1))+1))+1))+1))+1))+1))+1))+1))+1))+1))+1))+1))+1))+1))+1))+1))+1))+1))
                           ·rw [if_pos c27] at H;obtain ⟨c27b0,c27b1⟩:=eqB c27;clear c27
                            have H0_:=mA H;clear H
                            go_simp;repeat (first|go_values|go_skip|go_guarded|go_step|go_upon|go_back)
                            clear hx_;have H:=H0_.out;clear H0_
                            have hx_:=RS.nth hs280 23 rfl
                            by_cases c28:((rd_T9028 l0 x5_1).f14)=(wrap64 ((wrap64 ((wrap64 ((wrap64 ((wrap64 ((wrap64 ((wrap64 ((wrap64 ((wrap64 ((wrap64 ((wrap64 ((wrap64 ((wrap64 ((wrap64 ((wrap64 ((wrap64 ((wrap64 ((wrap64 ((wrap64 ((wrap64 ((wrap64 ((wrap64 ((wrap64 (x1_1+1))+1))+1))+1))+1))+1))+1))+1))+1))+1))+1))+1))+1))+1))+1))+1))+1))+1))+1))+1))+1))+1))+1))
                            ·rw [if_pos c28] at H;obtain ⟨c28b0,c28b1⟩:=eqB c28;clear c28
                             have hn24_:=RS.nth hs280 24 rfl;have hn25_:=RS.nth hs280 25 rfl;have H0_:=mA H;clear H
                             go_simp
                             have H:=H0_.out;clear H0_
                             obtain ⟨t305,A29,H⟩:=bI H;(try dsimp only at H)
                             by_cases c30:t305<0
                             ·rw [if_pos c30] at H;have c30b0:decide (t305<0)=true:=decide_eq_true c30;clear c30;obtain rfl:=Option.some.inj H;go_wp2_with (first|(refine gL (some 244) Try.func102 #[.slice none 0 0,.int .i64 (wrap64 ((wrap64 ((wrap64 ((wrap64 ((wrap64 ((wrap64 ((wrap64 ((wrap64 ((wrap64 ((wrap64 ((wrap64 ((wrap64 ((wrap64 ((wrap64 ((wrap64 ((wrap64 ((wrap64 ((wrap64 ((wrap64 ((wrap64 ((wrap64 ((wrap64 ((wrap64 ((wrap64 (x1_1+1))+1))+1))+1))+1))+1))+1))+1))+1))+1))+1))+1))+1))+1))+1))+1))+1))+1))+1))+1))+1))+1))+1))+1))] ?_;(refine (laws_heldBlkPieceS.calls ?s1 ?s2 A29.out).mono ?_);(case s1=>exact Kd.C_nil _ _);(case s2=>exact Nat.le_refl _);rintro e w' ⟨rfl,⟨nd,rfl⟩⟩;refine ⟨_,rfl,?_⟩))
                              go_ret
                              exact ⟨by first|rfl|(simp;done)|(simp [*];done),by repeat (first|exact Drawn0.refl _|apply Drawn0.step)⟩
                             ·rw [if_neg c30] at H;have c30b0:decide (t305<0)=false:=decide_eq_false c30;clear c30;obtain ⟨t307,A31,H⟩:=bI H;(try dsimp only at H)
                              by_cases c32:t307<0
                              ·rw [if_pos c32] at H;have c32b0:decide (t307<0)=true:=decide_eq_true c32;clear c32;obtain rfl:=Option.some.inj H;go_wp2_with (first|(refine gL (some 244) Try.func102 #[.slice none 0 0,.int .i64 (wrap64 ((wrap64 ((wrap64 ((wrap64 ((wrap64 ((wrap64 ((wrap64 ((wrap64 ((wrap64 ((wrap64 ((wrap64 ((wrap64 ((wrap64 ((wrap64 ((wrap64 ((wrap64 ((wrap64 ((wrap64 ((wrap64 ((wrap64 ((wrap64 ((wrap64 ((wrap64 ((wrap64 (x1_1+1))+1))+1))+1))+1))+1))+1))+1))+1))+1))+1))+1))+1))+1))+1))+1))+1))+1))+1))+1))+1))+1))+1))+1))] ?_;(refine (laws_heldBlkPieceS.calls ?s1 ?s2 A29.out).mono ?_);(case s1=>exact Kd.C_nil _ _);(case s2=>exact Nat.le_refl _);rintro e w' ⟨rfl,⟨nd,rfl⟩⟩;refine ⟨_,rfl,?_⟩;have p306:0≤(x5_1:Int):=of_decide_eq_true bA;have q306:x5_1<(l0.length:Int):=of_decide_eq_true bA;obtain ⟨ad306,e306,hx306_0,hx306_1,hx306_2,hx306_3,hx306_4,hx306_5,hx306_6,hx306_7,hx306_8,hx306_9,hx306_10,hx306_11,hx306_12,hx306_13,hx306_14,hx306_15,hx306_16,hx306_17,hx306_18,hx306_19,hx306_20,hx306_21,hx306_22,hx306_23,hx306_24,hx306_25⟩:=at_T9028 HR0.out x5_1 p306 q306;obtain rfl:ad280=ad306:=(by injection e306);replace p306:=eq_true p306;replace q306:=eq_true q306)|(refine gL (some 253) Try.func103 #[.slice none 0 0,.int .i64 t305] ?_;(refine (laws_heldBlkLastS.calls ?s1 ?s2 A31.out).mono ?_);(case s1=>exact Kd.C_nil _ _);(case s2=>exact Nat.le_refl _);rintro e w' ⟨rfl,⟨nd,rfl⟩⟩;refine ⟨_,rfl,?_⟩))
                               go_ret
                               exact ⟨by first|rfl|(simp;done)|(simp [*];done),by repeat (first|exact Drawn0.refl _|apply Drawn0.step)⟩
                              ·rw [if_neg c32] at H;have c32b0:decide (t307<0)=false:=decide_eq_false c32;clear c32;have H':=mA H;clear H;go_wp2_with (first|(refine gL (some 244) Try.func102 #[.slice none 0 0,.int .i64 (wrap64 ((wrap64 ((wrap64 ((wrap64 ((wrap64 ((wrap64 ((wrap64 ((wrap64 ((wrap64 ((wrap64 ((wrap64 ((wrap64 ((wrap64 ((wrap64 ((wrap64 ((wrap64 ((wrap64 ((wrap64 ((wrap64 ((wrap64 ((wrap64 ((wrap64 ((wrap64 ((wrap64 (x1_1+1))+1))+1))+1))+1))+1))+1))+1))+1))+1))+1))+1))+1))+1))+1))+1))+1))+1))+1))+1))+1))+1))+1))+1))] ?_;(refine (laws_heldBlkPieceS.calls ?s1 ?s2 A29.out).mono ?_);(case s1=>exact Kd.C_nil _ _);(case s2=>exact Nat.le_refl _);rintro e w' ⟨rfl,⟨nd,rfl⟩⟩;refine ⟨_,rfl,?_⟩;have p306:0≤(x5_1:Int):=of_decide_eq_true bA;have q306:x5_1<(l0.length:Int):=of_decide_eq_true bA;obtain ⟨ad306,e306,hx306_0,hx306_1,hx306_2,hx306_3,hx306_4,hx306_5,hx306_6,hx306_7,hx306_8,hx306_9,hx306_10,hx306_11,hx306_12,hx306_13,hx306_14,hx306_15,hx306_16,hx306_17,hx306_18,hx306_19,hx306_20,hx306_21,hx306_22,hx306_23,hx306_24,hx306_25⟩:=at_T9028 HR0.out x5_1 p306 q306;obtain rfl:ad280=ad306:=(by injection e306);replace p306:=eq_true p306;replace q306:=eq_true q306)|(refine gL (some 253) Try.func103 #[.slice none 0 0,.int .i64 t305] ?_;(refine (laws_heldBlkLastS.calls ?s1 ?s2 A31.out).mono ?_);(case s1=>exact Kd.C_nil _ _);(case s2=>exact Nat.le_refl _);rintro e w' ⟨rfl,⟨nd,rfl⟩⟩;refine ⟨_,rfl,?_⟩))
                               go_roundg k1
                               case measure=>have:=HK1.out;omega
                               case rel=>exact ⟨(t307),(wrap64 (x5_1+1)),bZ,bZ,H',⟨by have:=HK1.out;omega⟩,by repeat (first|exact Drawn0.refl _|apply Drawn0.step)⟩
                            ·rw [if_neg c28] at H;obtain ⟨c28b0,c28b1⟩:=neB c28;clear c28;obtain rfl:=Option.some.inj H;go_wp2
                             go_ret
                             exact ⟨by first|rfl|(simp;done)|(simp [*];done),by repeat (first|exact Drawn0.refl _|apply Drawn0.step)⟩
                           ·rw [if_neg c27] at H;obtain ⟨c27b0,c27b1⟩:=neB c27;clear c27;obtain rfl:=Option.some.inj H;go_wp2
                            go_ret
                            exact ⟨by first|rfl|(simp;done)|(simp [*];done),by repeat (first|exact Drawn0.refl _|apply Drawn0.step)⟩
                          ·rw [if_neg c26] at H;obtain ⟨c26b0,c26b1⟩:=neB c26;clear c26;obtain rfl:=Option.some.inj H;go_wp2
                           go_ret
                           exact ⟨by first|rfl|(simp;done)|(simp [*];done),by repeat (first|exact Drawn0.refl _|apply Drawn0.step)⟩
                         ·rw [if_neg c25] at H;obtain ⟨c25b0,c25b1⟩:=neB c25;clear c25;obtain rfl:=Option.some.inj H;go_wp2
                          go_ret
                          exact ⟨by first|rfl|(simp;done)|(simp [*];done),by repeat (first|exact Drawn0.refl _|apply Drawn0.step)⟩
                        ·rw [if_neg c24] at H;obtain ⟨c24b0,c24b1⟩:=neB c24;clear c24;obtain rfl:=Option.some.inj H;go_wp2
                         go_ret
                         exact ⟨by first|rfl|(simp;done)|(simp [*];done),by repeat (first|exact Drawn0.refl _|apply Drawn0.step)⟩
                       ·rw [if_neg c23] at H;obtain ⟨c23b0,c23b1⟩:=neB c23;clear c23;obtain rfl:=Option.some.inj H;go_wp2
                        go_ret
                        exact ⟨by first|rfl|(simp;done)|(simp [*];done),by repeat (first|exact Drawn0.refl _|apply Drawn0.step)⟩
                      ·rw [if_neg c22] at H;obtain ⟨c22b0,c22b1⟩:=neB c22;clear c22;obtain rfl:=Option.some.inj H;go_wp2
                       go_ret
                       exact ⟨by first|rfl|(simp;done)|(simp [*];done),by repeat (first|exact Drawn0.refl _|apply Drawn0.step)⟩
                     ·rw [if_neg c21] at H;obtain ⟨c21b0,c21b1⟩:=neB c21;clear c21;obtain rfl:=Option.some.inj H;go_wp2
                      go_ret
                      exact ⟨by first|rfl|(simp;done)|(simp [*];done),by repeat (first|exact Drawn0.refl _|apply Drawn0.step)⟩
                    ·rw [if_neg c20] at H;obtain ⟨c20b0,c20b1⟩:=neB c20;clear c20;obtain rfl:=Option.some.inj H;go_wp2
                     go_ret
                     exact ⟨by first|rfl|(simp;done)|(simp [*];done),by repeat (first|exact Drawn0.refl _|apply Drawn0.step)⟩
                   ·rw [if_neg c19] at H;obtain ⟨c19b0,c19b1⟩:=neB c19;clear c19;obtain rfl:=Option.some.inj H;go_wp2
                    go_ret
                    exact ⟨by first|rfl|(simp;done)|(simp [*];done),by repeat (first|exact Drawn0.refl _|apply Drawn0.step)⟩
                  ·rw [if_neg c18] at H;obtain ⟨c18b0,c18b1⟩:=neB c18;clear c18;obtain rfl:=Option.some.inj H;go_wp2
                   go_ret
                   exact ⟨by first|rfl|(simp;done)|(simp [*];done),by repeat (first|exact Drawn0.refl _|apply Drawn0.step)⟩
                 ·rw [if_neg c17] at H;obtain ⟨c17b0,c17b1⟩:=neB c17;clear c17;obtain rfl:=Option.some.inj H;go_wp2
                  go_ret
                  exact ⟨by first|rfl|(simp;done)|(simp [*];done),by repeat (first|exact Drawn0.refl _|apply Drawn0.step)⟩
                ·rw [if_neg c16] at H;obtain ⟨c16b0,c16b1⟩:=neB c16;clear c16;obtain rfl:=Option.some.inj H;go_wp2
                 go_ret
                 exact ⟨by first|rfl|(simp;done)|(simp [*];done),by repeat (first|exact Drawn0.refl _|apply Drawn0.step)⟩
               ·rw [if_neg c15] at H;obtain ⟨c15b0,c15b1⟩:=neB c15;clear c15;obtain rfl:=Option.some.inj H;go_wp2
                go_ret
                exact ⟨by first|rfl|(simp;done)|(simp [*];done),by repeat (first|exact Drawn0.refl _|apply Drawn0.step)⟩
              ·rw [if_neg c14] at H;obtain ⟨c14b0,c14b1⟩:=neB c14;clear c14;obtain rfl:=Option.some.inj H;go_wp2
               go_ret
               exact ⟨by first|rfl|(simp;done)|(simp [*];done),by repeat (first|exact Drawn0.refl _|apply Drawn0.step)⟩
             ·rw [if_neg c13] at H;obtain ⟨c13b0,c13b1⟩:=neB c13;clear c13;obtain rfl:=Option.some.inj H;go_wp2
              go_ret
              exact ⟨by first|rfl|(simp;done)|(simp [*];done),by repeat (first|exact Drawn0.refl _|apply Drawn0.step)⟩
            ·rw [if_neg c12] at H;obtain ⟨c12b0,c12b1⟩:=neB c12;clear c12;obtain rfl:=Option.some.inj H;go_wp2
             go_ret
             exact ⟨by first|rfl|(simp;done)|(simp [*];done),by repeat (first|exact Drawn0.refl _|apply Drawn0.step)⟩
           ·rw [if_neg c11] at H;obtain ⟨c11b0,c11b1⟩:=neB c11;clear c11;obtain rfl:=Option.some.inj H;go_wp2
            go_ret
            exact ⟨by first|rfl|(simp;done)|(simp [*];done),by repeat (first|exact Drawn0.refl _|apply Drawn0.step)⟩
          ·rw [if_neg c10] at H;obtain ⟨c10b0,c10b1⟩:=neB c10;clear c10;obtain rfl:=Option.some.inj H;go_wp2
           go_ret
           exact ⟨by first|rfl|(simp;done)|(simp [*];done),by repeat (first|exact Drawn0.refl _|apply Drawn0.step)⟩
         ·rw [if_neg c9] at H;obtain ⟨c9b0,c9b1⟩:=neB c9;clear c9;obtain rfl:=Option.some.inj H;go_wp2
          go_ret
          exact ⟨by first|rfl|(simp;done)|(simp [*];done),by repeat (first|exact Drawn0.refl _|apply Drawn0.step)⟩
        ·rw [if_neg c8] at H;obtain ⟨c8b0,c8b1⟩:=neB c8;clear c8;obtain rfl:=Option.some.inj H;go_wp2
         go_ret
         exact ⟨by first|rfl|(simp;done)|(simp [*];done),by repeat (first|exact Drawn0.refl _|apply Drawn0.step)⟩
       ·rw [if_neg c7] at H;obtain ⟨c7b0,c7b1⟩:=neB c7;clear c7;obtain rfl:=Option.some.inj H;go_wp2
        go_ret
        exact ⟨by first|rfl|(simp;done)|(simp [*];done),by repeat (first|exact Drawn0.refl _|apply Drawn0.step)⟩
      ·rw [if_neg c6] at H;obtain ⟨c6b0,c6b1⟩:=neB c6;clear c6;obtain rfl:=Option.some.inj H;go_wp2
       go_ret
       exact ⟨by first|rfl|(simp;done)|(simp [*];done),by repeat (first|exact Drawn0.refl _|apply Drawn0.step)⟩
     ·rw [if_neg c5] at H;obtain ⟨c5b0,c5b1⟩:=neB c5;clear c5;obtain rfl:=Option.some.inj H
      go_wp2
      go_ret
      exact ⟨by first|rfl|(simp;done)|(simp [*];done),by repeat (first|exact Drawn0.refl _|apply Drawn0.step)⟩
    ·rw [if_neg c4] at H
     exact absurd H (by simp)
   ·rw [if_neg c3] at H;have c3b0:decide (x5_1<(l0.length:Int))=false:=decide_eq_false c3;clear c3;obtain rfl:=Option.some.inj H
    go_wp2
    go_ret
    exact ⟨by first|rfl|(simp;done)|(simp [*];done),by repeat (first|exact Drawn0.refl _|apply Drawn0.step)⟩
/-! ### spec_l11Nums: function 65 -/
def spec_l11Nums.f (a0_0 a0_1 a0_2 a0_3 a0_4 a0_5 a0_6 a0_7 a0_8 a0_9 a0_10 a0_11 a0_12 a0_13 a0_14 a0_15 a0_16 a0_17 a0_18 a0_19 a0_20 a0_21 a0_22 a0_23 : Int) (l0_24 : List (S138)) (l0_25 : List (S140)) : Option (List Int) := some (([a0_0, a0_1, a0_2, a0_3, a0_4, a0_5, a0_6, a0_7, a0_8, a0_9, a0_10, a0_11, a0_12, a0_13, a0_14, a0_15, a0_16, a0_17, a0_18, a0_19, a0_20, a0_21, a0_22, a0_23] : List Int))
set_option maxHeartbeats 8000000 in
set_option maxRecDepth 100000 in
theorem spec_l11Nums.calls {a0_0 a0_1 a0_2 a0_3 a0_4 a0_5 a0_6 a0_7 a0_8 a0_9 a0_10 a0_11 a0_12 a0_13 a0_14 a0_15 a0_16 a0_17 a0_18 a0_19 a0_20 a0_21 a0_22 a0_23 : Int} {A0_24 : Option Addr} {c0_24 : Nat} {l0_24 : List (S138)} {A0_25 : Option Addr} {c0_25 : Nat} {l0_25 : List (S140)} {r : List Int} {w : World} (hr0_24 : Kd.C k138 w A0_24 l0_24.length l0_24) (hc0_24 : l0_24.length ≤ c0_24) (hr0_25 : Kd.C k140 w A0_25 l0_25.length l0_25) (hc0_25 : l0_25.length ≤ c0_25) (h : spec_l11Nums.f a0_0 a0_1 a0_2 a0_3 a0_4 a0_5 a0_6 a0_7 a0_8 a0_9 a0_10 a0_11 a0_12 a0_13 a0_14 a0_15 a0_16 a0_17 a0_18 a0_19 a0_20 a0_21 a0_22 a0_23 l0_24 l0_25 = some r) :
  Calls Try.prog 65 #[.agg #[.int .i64 a0_0,.int .i64 a0_1,.int .i64 a0_2,.int .i64 a0_3,.int .i64 a0_4,.int .i64 a0_5,.int .i64 a0_6,.int .i64 a0_7,.int .i64 a0_8,.int .i64 a0_9,.int .i64 a0_10,.int .i64 a0_11,.int .i64 a0_12,.int .i64 a0_13,.int .i64 a0_14,.int .i64 a0_15,.int .i64 a0_16,.int .i64 a0_17,.int .i64 a0_18,.int .i64 a0_19,.int .i64 a0_20,.int .i64 a0_21,.int .i64 a0_22,.int .i64 a0_23,.slice A0_24 l0_24.length c0_24,.slice A0_25 l0_25.length c0_25]] w fun e w'=>∃ v0_:Value,e=.returned (v0_)∧Kd.R (Kd.int .i64) 3 w' w.heap.size (fun _=>True) v0_ r∧Below w.heap.size w w':=by
 have hu28:=Try.underlying28;have hu24:=Try.underlying24;have HR0_24:=mA hr0_24;have HC0_24:=mA hc0_24;clear hr0_24 hc0_24;have HR0_25:=mA hr0_25;have HC0_25:=mA hc0_25;clear hr0_25 hc0_25;have HB:=mA (Below.refl w.heap.size w);have H:(some (([a0_0,a0_1,a0_2,a0_3,a0_4,a0_5,a0_6,a0_7,a0_8,a0_9,a0_10,a0_11,a0_12,a0_13,a0_14,a0_15,a0_16,a0_17,a0_18,a0_19,a0_20,a0_21,a0_22,a0_23]:List Int)))=some r:=h;clear h;obtain ⟨y310,hy310⟩:∃ y_:List Int,y_=(([a0_0,a0_1,a0_2,a0_3,a0_4,a0_5,a0_6,a0_7,a0_8,a0_9,a0_10,a0_11,a0_12,a0_13,a0_14,a0_15,a0_16,a0_17,a0_18,a0_19,a0_20,a0_21,a0_22,a0_23]:List Int)):=⟨_,rfl⟩
 replace H:(some y310)=some r:=qH hy310 H
 have Ny310:=mA hy310;clear hy310;obtain rfl:=Option.some.inj H
 go_enter Try.func65,Try.ntmps65
 go_wp2_with (first|((with_reducible refine gLg rfl (by assumption) ?_);refine ldV ?_)|((with_reducible refine gSt rfl (by assumption) ?_);refine stV ?_)|((with_reducible refine gT 1 rfl ?_);refine bX 1 ?_;intro gb308 hg w2 hbox hb;have BK308:=mA hbox;have GW308:=gbpB HB hg;have GE308:=gbpB HB hg;replace HB:=spB HB hb;clear hb hbox hg;have hcz3_0:=fun i_=>blk_cell BK308.out i_;have hfz3_0:=fun i_=>blk_frozen BK308.out i_)|((with_reducible refine gT 3 rfl ?_);refine bJ 3 y24 ?_;intro gb309 hg w4 hbox hb;have BK309:=mA hbox;have GW309:=gbpS HB hg;have GE309:=gbpS HB hg;replace HB:=spS HB hb;have NB308_309:=mA (lN (blk_lt (pK BK308.out)) hg);have hN308_309:=NB308_309.out;have NB309_308:=nS NB308_309;have hN309_308:=NB309_308.out;replace BK308:=bK BK308 hb;clear hb hbox hg;have hcz6_0:=fun i_=>blk_cell BK309.out i_;have hfz6_0:=fun i_=>blk_frozen BK309.out i_;have hcz7_0:=fun i_=>blk_cell BK308.out i_;have hfz7_0:=fun i_=>blk_frozen BK308.out i_)|((with_reducible refine gT 54 rfl ?_);refine Kd.R_lit (Kd.int .i64) _ 3 ?hg (N:=54) ?hd (xs:=([a0_0,a0_1,a0_2,a0_3,a0_4,a0_5,a0_6,a0_7,a0_8,a0_9,a0_10,a0_11,a0_12,a0_13,a0_14,a0_15,a0_16,a0_17,a0_18,a0_19,a0_20,a0_21,a0_22,a0_23]:List Int)) (inner:=[.int .i64 a0_0,.int .i64 a0_1,.int .i64 a0_2,.int .i64 a0_3,.int .i64 a0_4,.int .i64 a0_5,.int .i64 a0_6,.int .i64 a0_7,.int .i64 a0_8,.int .i64 a0_9,.int .i64 a0_10,.int .i64 a0_11,.int .i64 a0_12,.int .i64 a0_13,.int .i64 a0_14,.int .i64 a0_15,.int .i64 a0_16,.int .i64 a0_17,.int .i64 a0_18,.int .i64 a0_19,.int .i64 a0_20,.int .i64 a0_21,.int .i64 a0_22,.int .i64 a0_23]) (ok:=fun _=>True) (okp:=fun _=>True) ?hr ?hp (fun _ hk=>hk) trivial (Below.refl _ _) (Nat.le_refl _) (by simp) ?_;(case hd=>rfl);(case hg=>rfl);(case hr=>first|(go_simp;done)|(go_simp;rfl));(case hp=>repeat (first|exact Reps.none _ _|refine Reps.one (show Kd.M (Kd.int .i64) _ _ _ _ [_] from rfl) ?_));intro v311 w8 ho9 hb hg_ hnew_;clear hg_ hnew_;(first|rw [← Ny310.out] at ho9|(simp only [Int.reduceToNat] at ho9;rw [← Ny310.out] at ho9));have HO312:=mA (Kd.R_lower ho9 (bpS HB));replace BK308:=bF BK308 hb;replace BK309:=mA (blk_below (g:=gb309) (o:=.cells #[.int .i64 a0_6,.int .i64 a0_7,.int .i64 a0_8,.int .i64 a0_9,.int .i64 a0_10,.int .i64 a0_11,.int .i64 a0_12,.int .i64 a0_13,.int .i64 a0_14,.int .i64 a0_15] 24 (0,0)) (pP BK309) hb);replace HB:=spS HB hb;clear hb ho9))
 go_ret
 exact ⟨_,by first|rfl|(simp [errW_none,errW_some]<;>rfl)|(simp [*,errW_none,errW_some]<;>rfl),pR HO312.out,pS HB.out⟩
/-! ### spec_l6In: function 67 -/
def spec_l6In.f (a0 a1 a2 : Int) : Option (Bool) := if a0 ≥ a1 then (some (decide (a0 ≤ a2))) else (some false)
set_option maxHeartbeats 8000000 in
set_option maxRecDepth 100000 in
theorem spec_l6In.calls {a0 a1 a2 : Int} {r : Bool} {w : World} (h : spec_l6In.f a0 a1 a2 = some r) :
  Calls Try.prog 67 #[.int .i64 a0,.int .i64 a1,.int .i64 a2] w fun e w'=>e=.returned (.bool r)∧Drawn0 w w':=by
 have H:(if a0 ≥ a1 then (some (decide (a0≤a2))) else (some false))=some r:=h;clear h
 by_cases c4:a0 ≥ a1
 ·rw [if_pos c4] at H;have c4b0:decide (a1≤a0)=true:=decide_eq_true c4;clear c4;obtain rfl:=Option.some.inj H
  go_enter Try.func67,Try.ntmps67
  go_wp2
  go_ret
  exact ⟨by first|rfl|(simp;done)|(simp [*];done),by repeat (first|exact Drawn0.refl _|apply Drawn0.step)⟩
 ·rw [if_neg c4] at H;have c4b0:decide (a1≤a0)=false:=decide_eq_false c4;clear c4;obtain rfl:=Option.some.inj H
  go_enter Try.func67,Try.ntmps67
  go_wp2
  go_ret
  exact ⟨by first|rfl|(simp;done)|(simp [*];done),by repeat (first|exact Drawn0.refl _|apply Drawn0.step)⟩
/-! ### spec_l11Num: function 66 -/
def spec_l11Num.f (a0 : Int) : Option (Bool) := (spec_l6In.f a0 (-1) 99999).bind fun t313 => (some t313)
set_option maxHeartbeats 8000000 in
set_option maxRecDepth 100000 in
theorem spec_l11Num.calls {a0 : Int} {r : Bool} {w : World} (h : spec_l11Num.f a0 = some r) :
  Calls Try.prog 66 #[.int .i64 a0] w fun e w'=>e=.returned (.bool r)∧Drawn0 w w':=by
 have H:((spec_l6In.f a0 (-1) 99999).bind fun t313=>(some t313))=some r:=h;clear h;obtain ⟨t313,A2,H⟩:=bI H;(try dsimp only at H);obtain rfl:=Option.some.inj H
 go_enter Try.func66,Try.ntmps66
 go_wp2_with (first|((with_reducible refine gT 4 rfl ?_);refine gC (some 4) Try.func67 (spec_l6In.calls A2.out) ?_;rintro e w' ⟨rfl,⟨nd,rfl⟩⟩;refine ⟨_,rfl,?_⟩))
 go_ret
 exact ⟨by first|rfl|(simp;done)|(simp [*];done),by repeat (first|exact Drawn0.refl _|apply Drawn0.step)⟩
/-! ### spec_l11Place: function 68 -/
def spec_l11Place.f (a0 : Int) : Option (Bool) := (spec_l6In.f a0 0 4).bind fun t314 => (if t314 = true then (some true) else ((spec_l6In.f a0 100 103).bind fun t315 => (some t315)))
set_option maxHeartbeats 8000000 in
set_option maxRecDepth 100000 in
theorem spec_l11Place.calls {a0 : Int} {r : Bool} {w : World} (h : spec_l11Place.f a0 = some r) :
  Calls Try.prog 68 #[.int .i64 a0] w fun e w'=>e=.returned (.bool r)∧Drawn0 w w':=by
 have H:((spec_l6In.f a0 0 4).bind fun t314=>(if t314=true then (some true) else ((spec_l6In.f a0 100 103).bind fun t315=>(some t315))))=some r:=h;clear h;obtain ⟨t314,A2,H⟩:=bI H;(try dsimp only at H)
 by_cases c3:t314=true
 ·subst c3;rw [if_pos rfl] at H;obtain rfl:=Option.some.inj H
  go_enter Try.func68,Try.ntmps68
  go_wp2_with (first|((with_reducible refine gT 4 rfl ?_);refine gC (some 4) Try.func67 (spec_l6In.calls A2.out) ?_;rintro e w' ⟨rfl,⟨nd,rfl⟩⟩;refine ⟨_,rfl,?_⟩))
  go_ret
  exact ⟨by first|rfl|(simp;done)|(simp [*];done),by repeat (first|exact Drawn0.refl _|apply Drawn0.step)⟩
 ·replace c3:=Bool.eq_false_iff.mpr c3;subst c3
  rw [if_neg nFT] at H
  obtain ⟨t315,A4,H⟩:=bI H;(try dsimp only at H);obtain rfl:=Option.some.inj H
  go_enter Try.func68,Try.ntmps68
  go_wp2_with (first|((with_reducible refine gT 4 rfl ?_);refine gC (some 4) Try.func67 (spec_l6In.calls A2.out) ?_;rintro e w' ⟨rfl,⟨nd,rfl⟩⟩;refine ⟨_,rfl,?_⟩)|(go_at_call 67;(with_reducible refine (spec_l6In.calls A4.out).mono ?_);rintro e w' ⟨rfl,⟨nd,rfl⟩⟩))
  go_ret
  exact ⟨by first|rfl|(simp;done)|(simp [*];done),by repeat (first|exact Drawn0.refl _|apply Drawn0.step)⟩
end Go.Proofs.Ytoieojmfkkidnaa.P
