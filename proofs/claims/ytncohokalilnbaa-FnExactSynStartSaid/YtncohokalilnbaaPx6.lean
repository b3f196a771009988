-- printed by pprint.py (this session's program over the kit's printer) out of the translation. Lean checks it.
import Derived.Test.YtncohokalilnbaaPx0
import Derived.Test.YtncohokalilnbaaPx5
namespace Go.Proofs.Ytncohokalilnbaa.P
open Go.RowKit Go.Proofs.YtncohokalilnbaaX Go.Proofs.YtncohokalilnbaaW.PrintWords Go.Proofs.YtncohokalilnbaaW.PrintLast Go.Proofs.YtncohokalilnbaaW.PrintMore
attribute [local go_sem] max2_int min2_int max_two min_two max_three min_three max_four min_four   -- for this text's walks alone
set_option linter.unusedVariables false
set_option linter.unusedSimpArgs false

/-! ### laws_eqSynVoter: function 86 -/
def laws_eqSynVoter.f (k : Nat) (a0_0 : Int) (a0_1 : Unit) (a1_0 : Int) (a1_1 : Unit) : Option (Bool) := if a0_0 = a1_0 then ((laws_eqSynPaperS.f k ([] : List (S53)) ([] : List (S53))).bind fun t131 => (if t131 = true then (some true) else (some false))) else (some false)
theorem laws_eqSynVoter.mono : ∀ a0 a1 a2 a3 k, LeO (laws_eqSynVoter.f k a0 a1 a2 a3) (laws_eqSynVoter.f (k + 1) a0 a1 a2 a3) := by
 intro a0 a1 a2 a3 k
 unfold laws_eqSynVoter.f
 repeat' first
   | (with_reducible first|apply laws_eqSynPaperS.mono|exact LeO.refl _|exact LeO.none _|refine LeO.ite ?_ ?_|refine LeO.bind ?_ (fun _=>?_))|exact LeO.none _|refine LeO.ite ?_ ?_|refine LeO.bind ?_ (fun _=>?_)
set_option maxHeartbeats 8000000 in
set_option maxRecDepth 100000 in
theorem laws_eqSynVoter.calls {k : Nat} {a0_0 : Int} {a0_1 : Unit} {a1_0 : Int} {a1_1 : Unit} {r : Bool} {w : World} (h : laws_eqSynVoter.f k a0_0 a0_1 a1_0 a1_1 = some r) :
  Calls Try.prog 86 #[.agg #[.int .i64 a0_0,.slice none 0 0],.agg #[.int .i64 a1_0,.slice none 0 0]] w fun e w'=>e=.returned (.bool r)∧Below w.heap.size w w':=by
 have hu84:=Try.underlying84;have HB:=mA (Below.refl w.heap.size w);have H:(if a0_0=a1_0 then ((laws_eqSynPaperS.f k ([]:List (S53)) ([]:List (S53))).bind fun t131=>(if t131=true then (some true) else (some false))) else (some false))=some r:=h;clear h
 by_cases c3:a0_0=a1_0
 ·rw [if_pos c3] at H;obtain ⟨c3b0,c3b1⟩:=eqB c3;clear c3;obtain ⟨t131,A4,H⟩:=bI H;(try dsimp only at H)
  by_cases c5:t131=true
  ·subst c5;rw [if_pos rfl] at H;obtain rfl:=Option.some.inj H
   go_enter Try.func86,Try.ntmps86
   go_wp2_with (first|((with_reducible refine gT 2 rfl ?_);refine bE 2 #[.int .i64 a0_0,.slice none 0 0] 84 ?_;intro gb129 hg w6 hbox hb;have BK129:=mA hbox;have GW129:=gbpB HB hg;have GE129:=gbpB HB hg;replace HB:=spB HB hb;clear hb hbox hg)|((with_reducible refine gT 3 rfl ?_);refine bE 3 #[.int .i64 a1_0,.slice none 0 0] 84 ?_;intro gb130 hg w7 hbox hb;have BK130:=mA hbox;have GW130:=gbpS HB hg;have GE130:=gbpS HB hg;replace HB:=spS HB hb;have NB129_130:=mA (lN (blk_lt (pK BK129.out)) hg);have hN129_130:=NB129_130.out;have NB130_129:=nS NB129_130;have hN130_129:=NB130_129.out;replace BK129:=bK BK129 hb;clear hb hbox hg;obtain ⟨hcz9_0,hcz9_1,hfz9_0,hfz9_1⟩:=box2 BK129.out;obtain ⟨hcz10_0,hcz10_1,hfz10_0,hfz10_1⟩:=box2 BK130.out)|(refine gL (some 14) Try.func38 #[.slice none 0 0,.slice none 0 0] ?_;(refine (laws_eqSynPaperS.calls ?s1 ?s2 ?s3 ?s4 A4.out).mono ?_);(case s1=>exact Kd.C_nil _ _);(case s2=>exact Nat.le_refl _);(case s3=>exact Kd.C_nil _ _);(case s4=>exact Nat.le_refl _);rintro e w11 ⟨rfl,hb⟩;refine ⟨_,rfl,?_⟩;replace BK129:=bK BK129 hb;replace BK130:=bK BK130 hb;replace HB:=spS HB hb;(try clear hb)))
   go_ret
   exact rZ (pS HB.out)
  ·replace c5:=Bool.eq_false_iff.mpr c5;subst c5
   rw [if_neg nFT] at H
   obtain rfl:=Option.some.inj H
   go_enter Try.func86,Try.ntmps86
   go_wp2_with (first|((with_reducible refine gT 2 rfl ?_);refine bE 2 #[.int .i64 a0_0,.slice none 0 0] 84 ?_;intro gb129 hg w12 hbox hb;have BK129:=mA hbox;have GW129:=gbpB HB hg;have GE129:=gbpB HB hg;replace HB:=spB HB hb;clear hb hbox hg)|((with_reducible refine gT 3 rfl ?_);refine bE 3 #[.int .i64 a1_0,.slice none 0 0] 84 ?_;intro gb130 hg w13 hbox hb;have BK130:=mA hbox;have GW130:=gbpS HB hg;have GE130:=gbpS HB hg;replace HB:=spS HB hb;have NB129_130:=mA (lN (blk_lt (pK BK129.out)) hg);have hN129_130:=NB129_130.out;have NB130_129:=nS NB129_130;have hN130_129:=NB130_129.out;replace BK129:=bK BK129 hb;clear hb hbox hg;obtain ⟨hcz15_0,hcz15_1,hfz15_0,hfz15_1⟩:=box2 BK129.out;obtain ⟨hcz16_0,hcz16_1,hfz16_0,hfz16_1⟩:=box2 BK130.out)|(refine gL (some 14) Try.func38 #[.slice none 0 0,.slice none 0 0] ?_;(refine (laws_eqSynPaperS.calls ?s1 ?s2 ?s3 ?s4 A4.out).mono ?_);(case s1=>exact Kd.C_nil _ _);(case s2=>exact Nat.le_refl _);(case s3=>exact Kd.C_nil _ _);(case s4=>exact Nat.le_refl _);rintro e w17 ⟨rfl,hb⟩;refine ⟨_,rfl,?_⟩;replace BK129:=bK BK129 hb;replace BK130:=bK BK130 hb;replace HB:=spS HB hb;(try clear hb)))
   go_ret
   exact rZ (pS HB.out)
 ·rw [if_neg c3] at H;have c3b0:(a0_0 == a1_0)=false:=beq_eq_false_iff_ne.mpr c3;have c3b1:(a0_0 != a1_0)=true:=bne_iff_ne.mpr c3;obtain rfl:=Option.some.inj H
  go_enter Try.func86,Try.ntmps86
  go_wp2_with (first|((with_reducible refine gT 2 rfl ?_);refine bE 2 #[.int .i64 a0_0,.slice none 0 0] 84 ?_;intro gb129 hg w18 hbox hb;have BK129:=mA hbox;have GW129:=gbpB HB hg;have GE129:=gbpB HB hg;replace HB:=spB HB hb;clear hb hbox hg)|((with_reducible refine gT 3 rfl ?_);refine bE 3 #[.int .i64 a1_0,.slice none 0 0] 84 ?_;intro gb130 hg w19 hbox hb;have BK130:=mA hbox;have GW130:=gbpS HB hg;have GE130:=gbpS HB hg;replace HB:=spS HB hb;have NB129_130:=mA (lN (blk_lt (pK BK129.out)) hg);have hN129_130:=NB129_130.out;have NB130_129:=nS NB129_130;have hN130_129:=NB130_129.out;replace BK129:=bK BK129 hb;clear hb hbox hg;obtain ⟨hcz21_0,hcz21_1,hfz21_0,hfz21_1⟩:=box2 BK129.out;obtain ⟨hcz22_0,hcz22_1,hfz22_0,hfz22_1⟩:=box2 BK130.out))
  go_ret
  exact rZ (pS HB.out)

/-! ### laws_eqSynVoterS: function 34 -/
def laws_eqSynVoterS.l0 : Nat → List (S84) → List (S84) → Int → Option (Bool)
 | 0,_,_,_=>none
 | k+1,x0,x1,x5=>if x5<(x0.length:Int) then (if 0≤x5 then (if x5<(x1.length:Int) then ((laws_eqSynVoter.f k ((rd_T84 x0 x5).f0) ((rd_T84 x0 x5).f1) ((rd_T84 x1 x5).f0) ((rd_T84 x1 x5).f1)).bind fun t134=>(if t134=true then (laws_eqSynVoterS.l0 k x0 x1 (wrap64 (x5+1))) else (some false))) else (none)) else (none)) else (some true)
def laws_eqSynVoterS.f (k : Nat) (l0 : List (S84)) (l1 : List (S84)) : Option (Bool) := if (l0.length : Int) = (l1.length : Int) then (laws_eqSynVoterS.l0 k l0 l1 0) else (some false)
theorem laws_eqSynVoterS.mono_l : ∀ k, (∀ y0 y1 y2, LeO (laws_eqSynVoterS.l0 k y0 y1 y2) (laws_eqSynVoterS.l0 (k + 1) y0 y1 y2))
 | 0=>fun _ _ _ r h=>by simp [laws_eqSynVoterS.l0] at h
 | k+1=>by
  have ih0:=laws_eqSynVoterS.mono_l k
  ·intros
   unfold laws_eqSynVoterS.l0
   repeat' first
   | (with_reducible first|apply ih0|apply laws_eqSynVoter.mono|exact LeO.refl _|exact LeO.none _|refine LeO.ite ?_ ?_|refine LeO.bind ?_ (fun _=>?_))|exact LeO.none _|refine LeO.ite ?_ ?_|refine LeO.bind ?_ (fun _=>?_)
theorem laws_eqSynVoterS.mono : ∀ a0 a1 k, LeO (laws_eqSynVoterS.f k a0 a1) (laws_eqSynVoterS.f (k + 1) a0 a1) := by
 intro a0 a1 k;have ih0:=laws_eqSynVoterS.mono_l k
 unfold laws_eqSynVoterS.f
 repeat' first
   | (with_reducible first|apply ih0|apply laws_eqSynVoter.mono|exact LeO.refl _|exact LeO.none _|refine LeO.ite ?_ ?_|refine LeO.bind ?_ (fun _=>?_))|exact LeO.none _|refine LeO.ite ?_ ?_|refine LeO.bind ?_ (fun _=>?_)
def laws_eqSynVoterS.T6 : Bool × List (List Nat × List Nat) := (true, [([], []), ([], []), ([0, 1], [0, 1]), ([2], [2]), ([], []), ([], []), ([4, 5], [4, 5]), ([6], [6]), ([3, 7], [3, 7]), ([8], [8])])
def laws_eqSynVoterS.B6 : List Nat := [0, 0, 3, 7, 0, 0, 48, 112, 255, 511]
theorem laws_eqSynVoterS.tab6 : rtab .any (opsOf Try.f34 6) = laws_eqSynVoterS.T6 := by kernel_rfl
theorem laws_eqSynVoterS.bits6 : waitsOk laws_eqSynVoterS.T6.2 laws_eqSynVoterS.B6 = true := by kernel_rfl
set_option maxHeartbeats 8000000 in
set_option maxRecDepth 100000 in
theorem laws_eqSynVoterS.calls {k : Nat} {A0 : Option Addr} {c0 : Nat} {l0 : List (S84)} {A1 : Option Addr} {c1 : Nat} {l1 : List (S84)} {r : Bool} {w : World} (hr0 : Kd.C k84 w A0 l0.length l0) (hc0 : l0.length ≤ c0) (hr1 : Kd.C k84 w A1 l1.length l1) (hc1 : l1.length ≤ c1) (h : laws_eqSynVoterS.f k l0 l1 = some r) :
  Calls Try.prog 34 #[.slice A0 l0.length c0,.slice A1 l1.length c1] w fun e w'=>e=.returned (.bool r)∧Below w.heap.size w w':=by
 have hu84:=Try.underlying84;have HR0:=mA hr0;have HC0:=mA hc0;clear hr0 hc0;have HR1:=mA hr1;have HC1:=mA hc1;clear hr1 hc1;have HB:=mA (Below.refl w.heap.size w);have H:(if (l0.length:Int)=(l1.length:Int) then (laws_eqSynVoterS.l0 k l0 l1 0) else (some false))=some r:=h;clear h
 by_cases c3:(l0.length:Int)=(l1.length:Int)
 ·rw [if_pos c3] at H;have c3b0:((l0.length:Int) == (l1.length:Int))=true:=beq_iff_eq.mpr c3;have c3b1:((l0.length:Int) != (l1.length:Int))=false:=bne_eq_false_iff_eq.mpr c3
  have c3b2:(l0.length == l1.length)=true:=by first|simpa using c3|(simp at c3 ⊢;omega)
  clear c3;have H':=mA H;clear H
  go_enter Try.func34,Try.ntmps34
  go_wp2
  go_loopg [5] k (fun kq v5 w'=>∃ (x5_1:Int),v5=.int .i64 x5_1∧Aside0 (laws_eqSynVoterS.l0 kq l0 l1 x5_1=some r)∧Aside0 (kq≤k)∧Aside0 (Below w.heap.size w w'))
  case atStart=>exact ⟨(0),bZ,H',⟨Nat.le_refl _⟩,⟨pB HB.out⟩⟩
  case round =>
   clear H'
   (try clear c3);(try clear c3b0);(try clear c3b1);(try clear c3b2)
   obtain ⟨x5_1,rfl,HA,HK1,HB⟩:=hrel
   cases gk with
   | zero=>exact absurd HA.out (by simp [laws_eqSynVoterS.l0])
   | succ k1 =>
    have H:=HA.out;clear HA;simp only [laws_eqSynVoterS.l0] at H
    by_cases c4:x5_1<(l0.length:Int)
    ·rw [if_pos c4] at H;have c4b0:decide (x5_1<(l0.length:Int))=true:=decide_eq_true c4;clear c4
     by_cases c5:0≤x5_1
     ·rw [if_pos c5] at H;have c5b0:decide (0≤x5_1)=true:=decide_eq_true c5;clear c5
      by_cases c6:x5_1<(l1.length:Int)
      ·rw [if_pos c6] at H;have c6b0:decide (x5_1<(l1.length:Int))=true:=decide_eq_true c6;clear c6;obtain ⟨t134,A7,H⟩:=bI H;(try dsimp only at H)
       have H0_:=mA H;clear H
       try go_wp2
       replace HB:=mA (below_drew1 HB.out);have p132:0≤(x5_1:Int):=of_decide_eq_true bA;have q132:x5_1<(l0.length:Int):=of_decide_eq_true bA;obtain ⟨ad132,e132,hs132⟩:=at_R84 HR0.out x5_1 p132 q132;cases e132;replace p132:=eq_true p132;replace q132:=eq_true q132;have p133:0≤(x5_1:Int):=of_decide_eq_true bA;have q133:x5_1<(l1.length:Int):=of_decide_eq_true bA;obtain ⟨ad133,e133,hs133⟩:=at_R84 HR1.out x5_1 p133 q133;cases e133;replace p133:=eq_true p133;replace q133:=eq_true q133
       refine start_ (n:=10) (S:=fun w'=>RS w' (ad132.add ((x5_1).toNat * 2)) (d84 (rd_T84 l0 x5_1) (.slice none 0 0))∧RS w' (ad133.add ((x5_1).toNat * 2)) (d84 (rd_T84 l1 x5_1) (.slice none 0 0))) (ds:=[]) _ aK rfl rfl ⟨rS HB hs132,rS HB hs133⟩ (fun hHeld=>?_);refine with_tabW laws_eqSynVoterS.tab6 laws_eqSynVoterS.bits6 (fun HT_ HW_=>?_)
       generalize wr.drew=w9 at HB hHeld ⊢
       refine qu 0 ?_;refine qu 1 ?_;refine qu 2 ?_;refine qu 4 ?_;refine qu 5 ?_;refine qu 6 ?_;refine qt 3 ?_;refine qt 7 ?_
       refine qo 8 ?_;intro K hK
       refine gD Try.func86 (laws_eqSynVoter.calls A7.out) ?_
       rintro e w10 ⟨rfl,hb⟩;refine ⟨_,rfl,?_⟩;replace HB:=spB HB hb
       (try clear hb)
       refine hK.out _ _ ⟨rS HB hs132,rS HB hs133⟩ (fun hHeld=>?_);clear hK K;refine no_ (some 25) ?_;refine qu 9 ?_;refine qe ?_
       have H:=H0_.out;clear H0_
       by_cases c8:t134=true
       ·subst c8;rw [if_pos rfl] at H;have H':=mA H;clear H
        try go_wp2
        go_roundg k1
        case measure=>have:=HK1.out;omega
        case rel=>exact ⟨(wrap64 (x5_1+1)),bZ,H',⟨by have:=HK1.out;omega⟩,⟨pB HB.out⟩⟩
       ·replace c8:=Bool.eq_false_iff.mpr c8;subst c8
        rw [if_neg nFT] at H
        obtain rfl:=Option.some.inj H
        try go_wp2
        go_ret
        exact rZ (pB HB.out)
      ·rw [if_neg c6] at H
       exact absurd H (by simp)
     ·rw [if_neg c5] at H
      exact absurd H (by simp)
    ·rw [if_neg c4] at H;have c4b0:decide (x5_1<(l0.length:Int))=false:=decide_eq_false c4;clear c4;obtain rfl:=Option.some.inj H
     go_wp2
     go_ret
     exact rZ (pB HB.out)
 ·rw [if_neg c3] at H;have c3b0:((l0.length:Int) == (l1.length:Int))=false:=beq_eq_false_iff_ne.mpr c3;have c3b1:((l0.length:Int) != (l1.length:Int))=true:=bne_iff_ne.mpr c3
  have c3b2:(l0.length == l1.length)=false:=by first|simpa using c3|(simp at c3 ⊢;omega)
  obtain rfl:=Option.some.inj H
  go_enter Try.func34,Try.ntmps34
  go_wp2
  go_ret
  exact rZ (pB HB.out)

/-! ### laws_eqIntS: function 35 -/
def laws_eqIntS.l0 : Nat → List Int → List Int → Int → Option (Bool)
 | 0,_,_,_=>none
 | k+1,x0,x1,x5=>if x5<(x0.length:Int) then (if 0≤x5 then (if x5<(x1.length:Int) then (if (rd x0 x5)=(rd x1 x5) then (laws_eqIntS.l0 k x0 x1 (wrap64 (x5+1))) else (some false)) else (none)) else (none)) else (some true)
def laws_eqIntS.f (k : Nat) (l0 : List Int) (l1 : List Int) : Option (Bool) := if (l0.length : Int) = (l1.length : Int) then (laws_eqIntS.l0 k l0 l1 0) else (some false)
theorem laws_eqIntS.mono_l : ∀ k, (∀ y0 y1 y2, LeO (laws_eqIntS.l0 k y0 y1 y2) (laws_eqIntS.l0 (k + 1) y0 y1 y2))
 | 0=>fun _ _ _ r h=>by simp [laws_eqIntS.l0] at h
 | k+1=>by
  have ih0:=laws_eqIntS.mono_l k
  ·intros
   unfold laws_eqIntS.l0
   repeat' first
   | (with_reducible first|apply ih0|exact LeO.refl _|exact LeO.none _|refine LeO.ite ?_ ?_|refine LeO.bind ?_ (fun _=>?_))|exact LeO.none _|refine LeO.ite ?_ ?_|refine LeO.bind ?_ (fun _=>?_)
theorem laws_eqIntS.mono : ∀ a0 a1 k, LeO (laws_eqIntS.f k a0 a1) (laws_eqIntS.f (k + 1) a0 a1) := by
 intro a0 a1 k;have ih0:=laws_eqIntS.mono_l k
 unfold laws_eqIntS.f
 repeat' first
   | (with_reducible first|apply ih0|exact LeO.refl _|exact LeO.none _|refine LeO.ite ?_ ?_|refine LeO.bind ?_ (fun _=>?_))|exact LeO.none _|refine LeO.ite ?_ ?_|refine LeO.bind ?_ (fun _=>?_)
set_option maxHeartbeats 8000000 in
set_option maxRecDepth 100000 in
theorem laws_eqIntS.calls {k : Nat} {A0 : Option Addr} {c0 : Nat} {l0 : List Int} {A1 : Option Addr} {c1 : Nat} {l1 : List Int} {r : Bool} {w : World} (hr0 : Kd.C (Kd.int .i64) w A0 l0.length l0) (hc0 : l0.length ≤ c0) (hr1 : Kd.C (Kd.int .i64) w A1 l1.length l1) (hc1 : l1.length ≤ c1) (h : laws_eqIntS.f k l0 l1 = some r) :
  Calls Try.prog 35 #[.slice A0 l0.length c0,.slice A1 l1.length c1] w fun e w'=>e=.returned (.bool r)∧Drawn0 w w':=by
 have HR0:=mA hr0;have HC0:=mA hc0;clear hr0 hc0;have HR1:=mA hr1;have HC1:=mA hc1;clear hr1 hc1;have H:(if (l0.length:Int)=(l1.length:Int) then (laws_eqIntS.l0 k l0 l1 0) else (some false))=some r:=h;clear h
 by_cases c3:(l0.length:Int)=(l1.length:Int)
 ·rw [if_pos c3] at H;have c3b0:((l0.length:Int) == (l1.length:Int))=true:=beq_iff_eq.mpr c3;have c3b1:((l0.length:Int) != (l1.length:Int))=false:=bne_eq_false_iff_eq.mpr c3
  have c3b2:(l0.length == l1.length)=true:=by first|simpa using c3|(simp at c3 ⊢;omega)
  clear c3;have H':=mA H;clear H
  go_enter Try.func35,Try.ntmps35
  go_wp2
  repeat (go_quiet (fail);try go_wp2)
  go_loopg [5] k (fun kq v5 w'=>∃ (x5_1:Int),v5=.int .i64 x5_1∧Aside0 (laws_eqIntS.l0 kq l0 l1 x5_1=some r)∧Aside0 (kq≤k)∧Drawn0 w w')
  case atStart=>exact ⟨(0),bZ,H',⟨Nat.le_refl _⟩,by repeat (first|exact Drawn0.refl _|apply Drawn0.step)⟩
  case round =>
   clear H'
   (try clear c3);(try clear c3b0);(try clear c3b1);(try clear c3b2)
   obtain ⟨x5_1,rfl,HA,HK1,⟨m1,rfl⟩⟩:=hrel
   cases gk with
   | zero=>exact absurd HA.out (by simp [laws_eqIntS.l0])
   | succ k1 =>
    have H:=HA.out;clear HA;simp only [laws_eqIntS.l0] at H
    by_cases c4:x5_1<(l0.length:Int)
    ·rw [if_pos c4] at H;have c4b0:decide (x5_1<(l0.length:Int))=true:=decide_eq_true c4;clear c4
     by_cases c5:0≤x5_1
     ·rw [if_pos c5] at H;have c5b0:decide (0≤x5_1)=true:=decide_eq_true c5;clear c5
      by_cases c6:x5_1<(l1.length:Int)
      ·rw [if_pos c6] at H;have c6b0:decide (x5_1<(l1.length:Int))=true:=decide_eq_true c6;clear c6
       by_cases c7:(rd l0 x5_1)=(rd l1 x5_1)
       ·rw [if_pos c7] at H;obtain ⟨c7b0,c7b1⟩:=eqB c7;clear c7;have H':=mA H;clear H;have p135:0≤(x5_1:Int):=of_decide_eq_true bA;have q135:x5_1<(l0.length:Int):=of_decide_eq_true bA;obtain ⟨ad135,e135,hx135_0⟩:=Kd.at_int HR0.out x5_1 p135 q135;cases e135;replace p135:=eq_true p135;replace q135:=eq_true q135;have p136:0≤(x5_1:Int):=of_decide_eq_true bA;have q136:x5_1<(l1.length:Int):=of_decide_eq_true bA;obtain ⟨ad136,e136,hx136_0⟩:=Kd.at_int HR1.out x5_1 p136 q136;cases e136;replace p136:=eq_true p136;replace q136:=eq_true q136
        go_wp2
        repeat (go_quiet (fail);try go_wp2)
        go_roundg k1
        case measure=>have:=HK1.out;omega
        case rel=>exact ⟨(wrap64 (x5_1+1)),bZ,H',⟨by have:=HK1.out;omega⟩,by repeat (first|exact Drawn0.refl _|apply Drawn0.step)⟩
       ·rw [if_neg c7] at H;have c7b0:((rd l0 x5_1) == (rd l1 x5_1))=false:=beq_eq_false_iff_ne.mpr c7;have c7b1:((rd l0 x5_1) != (rd l1 x5_1))=true:=bne_iff_ne.mpr c7;obtain rfl:=Option.some.inj H;have p135:0≤(x5_1:Int):=of_decide_eq_true bA;have q135:x5_1<(l0.length:Int):=of_decide_eq_true bA;obtain ⟨ad135,e135,hx135_0⟩:=Kd.at_int HR0.out x5_1 p135 q135;cases e135;replace p135:=eq_true p135;replace q135:=eq_true q135;have p136:0≤(x5_1:Int):=of_decide_eq_true bA;have q136:x5_1<(l1.length:Int):=of_decide_eq_true bA;obtain ⟨ad136,e136,hx136_0⟩:=Kd.at_int HR1.out x5_1 p136 q136;cases e136;replace p136:=eq_true p136;replace q136:=eq_true q136
        go_wp2
        repeat (go_quiet (fail);try go_wp2)
        go_ret
        exact ⟨by first|rfl|(simp;done)|(simp [*];done),by repeat (first|exact Drawn0.refl _|apply Drawn0.step)⟩
      ·rw [if_neg c6] at H
       exact absurd H (by simp)
     ·rw [if_neg c5] at H
      exact absurd H (by simp)
    ·rw [if_neg c4] at H;have c4b0:decide (x5_1<(l0.length:Int))=false:=decide_eq_false c4;clear c4;obtain rfl:=Option.some.inj H
     go_wp2
     repeat (go_quiet (fail);try go_wp2)
     go_ret
     exact ⟨by first|rfl|(simp;done)|(simp [*];done),by repeat (first|exact Drawn0.refl _|apply Drawn0.step)⟩
 ·rw [if_neg c3] at H;have c3b0:((l0.length:Int) == (l1.length:Int))=false:=beq_eq_false_iff_ne.mpr c3;have c3b1:((l0.length:Int) != (l1.length:Int))=true:=bne_iff_ne.mpr c3
  have c3b2:(l0.length == l1.length)=false:=by first|simpa using c3|(simp at c3 ⊢;omega)
  obtain rfl:=Option.some.inj H
  go_enter Try.func35,Try.ntmps35
  go_wp2
  repeat (go_quiet (fail);try go_wp2)
  go_ret
  exact ⟨by first|rfl|(simp;done)|(simp [*];done),by repeat (first|exact Drawn0.refl _|apply Drawn0.step)⟩

end Go.Proofs.Ytncohokalilnbaa.P
