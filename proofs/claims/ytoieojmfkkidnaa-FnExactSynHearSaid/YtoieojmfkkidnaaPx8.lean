-- printed by pprint.py (this session's program over the kit's printer) out of the translation. Lean checks it.
import Derived.Test.YtoieojmfkkidnaaPx0
import Derived.Test.YtoieojmfkkidnaaPx5
namespace Go.Proofs.Ytoieojmfkkidnaa.P
open Go.RowKit Go.Proofs.YtoieojmfkkidnaaX Go.Proofs.YtoieojmfkkidnaaW.PrintWords Go.Proofs.YtoieojmfkkidnaaW.PrintLast Go.Proofs.YtoieojmfkkidnaaW.PrintMore
attribute [local go_sem] max2_int min2_int max_two min_two max_three min_three max_four min_four   -- for this text's walks alone
set_option linter.unusedVariables false
set_option linter.unusedSimpArgs false
/-! ### laws_eqWordS: function 38 -/
def laws_eqWordS.l0 : Nat → List (S9028) → List (S9028) → Int → Option (Bool)
 | 0,_,_,_=>none
 | k+1,x0,x1,x5=>if x5<(x0.length:Int) then (if 0≤x5 then (if x5<(x1.length:Int) then ((laws_eqWord.f k ((rd_T9028 x0 x5).f0) ((rd_T9028 x0 x5).f1) ((rd_T9028 x0 x5).f2) ((rd_T9028 x0 x5).f3) ((rd_T9028 x0 x5).f4) ((rd_T9028 x0 x5).f5) ((rd_T9028 x0 x5).f6.f0) ((rd_T9028 x0 x5).f6.f1) ((rd_T9028 x0 x5).f6.f2) ((rd_T9028 x0 x5).f6.f3) ((rd_T9028 x0 x5).f6.f4) ((rd_T9028 x0 x5).f6.f5) ((rd_T9028 x0 x5).f6.f6) ((rd_T9028 x0 x5).f6.f7) ((rd_T9028 x0 x5).f6.f8) ((rd_T9028 x0 x5).f6.f9) ((rd_T9028 x0 x5).f7) ((rd_T9028 x0 x5).f8) ((rd_T9028 x0 x5).f9) ((rd_T9028 x0 x5).f10) ((rd_T9028 x0 x5).f11) ((rd_T9028 x0 x5).f12) ((rd_T9028 x0 x5).f13) ((rd_T9028 x0 x5).f14) ([]:List (S138)) ([]:List (S140)) ((rd_T9028 x1 x5).f0) ((rd_T9028 x1 x5).f1) ((rd_T9028 x1 x5).f2) ((rd_T9028 x1 x5).f3) ((rd_T9028 x1 x5).f4) ((rd_T9028 x1 x5).f5) ((rd_T9028 x1 x5).f6.f0) ((rd_T9028 x1 x5).f6.f1) ((rd_T9028 x1 x5).f6.f2) ((rd_T9028 x1 x5).f6.f3) ((rd_T9028 x1 x5).f6.f4) ((rd_T9028 x1 x5).f6.f5) ((rd_T9028 x1 x5).f6.f6) ((rd_T9028 x1 x5).f6.f7) ((rd_T9028 x1 x5).f6.f8) ((rd_T9028 x1 x5).f6.f9) ((rd_T9028 x1 x5).f7) ((rd_T9028 x1 x5).f8) ((rd_T9028 x1 x5).f9) ((rd_T9028 x1 x5).f10) ((rd_T9028 x1 x5).f11) ((rd_T9028 x1 x5).f12) ((rd_T9028 x1 x5).f13) ((rd_T9028 x1 x5).f14) ([]:List (S138)) ([]:List (S140))).bind fun t236=>(if t236=true then (laws_eqWordS.l0 k x0 x1 (wrap64 (x5+1))) else (some false))) else (none)) else (none)) else (some true)
def laws_eqWordS.f (k : Nat) (l0 : List (S9028)) (l1 : List (S9028)) : Option (Bool) := if (l0.length : Int) = (l1.length : Int) then (laws_eqWordS.l0 k l0 l1 0) else (some false)
def laws_eqWordS.T6 : Bool × List (List Nat × List Nat) := (true, [([], []), ([], []), ([0, 1], [0, 1]), ([2], [2]), ([], []), ([], []), ([4, 5], [4, 5]), ([6], [6]), ([3, 7], [3, 7]), ([8], [8])])
def laws_eqWordS.B6 : List Nat := [0, 0, 3, 7, 0, 0, 48, 112, 255, 511]
theorem laws_eqWordS.tab6 : rtab .any (opsOf Try.f38 6) = laws_eqWordS.T6 := by kernel_rfl
theorem laws_eqWordS.bits6 : waitsOk laws_eqWordS.T6.2 laws_eqWordS.B6 = true := by kernel_rfl
set_option maxHeartbeats 8000000 in
set_option maxRecDepth 100000 in
theorem laws_eqWordS.calls {k : Nat} {A0 : Option Addr} {c0 : Nat} {l0 : List (S9028)} {A1 : Option Addr} {c1 : Nat} {l1 : List (S9028)} {r : Bool} {w : World} (hr0 : Kd.C k9028 w A0 l0.length l0) (hc0 : l0.length ≤ c0) (hr1 : Kd.C k9028 w A1 l1.length l1) (hc1 : l1.length ≤ c1) (h : laws_eqWordS.f k l0 l1 = some r) :
  Calls Try.prog 38 #[.slice A0 l0.length c0,.slice A1 l1.length c1] w fun e w'=>e=.returned (.bool r)∧Below w.heap.size w w':=by
 have hu28:=Try.underlying28;have HR0:=mA hr0;have HC0:=mA hc0;clear hr0 hc0;have HR1:=mA hr1;have HC1:=mA hc1;clear hr1 hc1;have HB:=mA (Below.refl w.heap.size w);have H:(if (l0.length:Int)=(l1.length:Int) then (laws_eqWordS.l0 k l0 l1 0) else (some false))=some r:=h;clear h
 by_cases c3:(l0.length:Int)=(l1.length:Int)
 ·rw [if_pos c3] at H;have c3b0:((l0.length:Int) == (l1.length:Int))=true:=beq_iff_eq.mpr c3;have c3b1:((l0.length:Int) != (l1.length:Int))=false:=bne_eq_false_iff_eq.mpr c3
  have c3b2:(l0.length == l1.length)=true:=by first|simpa using c3|(simp at c3 ⊢;omega)
  clear c3;have H':=mA H;clear H
  go_enter Try.func38,Try.ntmps38
  go_wp2
  go_loopg [5] k (fun kq v5 w'=>∃ (x5_1:Int),v5=.int .i64 x5_1∧Aside0 (laws_eqWordS.l0 kq l0 l1 x5_1=some r)∧Aside0 (kq≤k)∧Aside0 (Below w.heap.size w w'))
  case atStart=>exact ⟨(0),bZ,H',⟨Nat.le_refl _⟩,⟨pB HB.out⟩⟩
  case round =>
   clear H'
   (try clear c3);(try clear c3b0);(try clear c3b1);(try clear c3b2)
   obtain ⟨x5_1,rfl,HA,HK1,HB⟩:=hrel
   cases gk with
   | zero=>exact absurd HA.out (by simp [laws_eqWordS.l0])
   | succ k1 =>
    have H:=HA.out;clear HA;simp only [laws_eqWordS.l0] at H
    by_cases c4:x5_1<(l0.length:Int)
    ·rw [if_pos c4] at H;have c4b0:decide (x5_1<(l0.length:Int))=true:=decide_eq_true c4;clear c4
     by_cases c5:0≤x5_1
     ·rw [if_pos c5] at H;have c5b0:decide (0≤x5_1)=true:=decide_eq_true c5;clear c5
      by_cases c6:x5_1<(l1.length:Int)
      ·rw [if_pos c6] at H;have c6b0:decide (x5_1<(l1.length:Int))=true:=decide_eq_true c6;clear c6;obtain ⟨t236,A7,H⟩:=bI H;(try dsimp only at H)
       have H0_:=mA H;clear H
       try go_wp2
       replace HB:=mA (below_drew1 HB.out);have p234:0≤(x5_1:Int):=of_decide_eq_true bA;have q234:x5_1<(l0.length:Int):=of_decide_eq_true bA;obtain ⟨ad234,e234,hs234⟩:=at_R9028 HR0.out x5_1 p234 q234;cases e234;replace p234:=eq_true p234;replace q234:=eq_true q234;have p235:0≤(x5_1:Int):=of_decide_eq_true bA;have q235:x5_1<(l1.length:Int):=of_decide_eq_true bA;obtain ⟨ad235,e235,hs235⟩:=at_R9028 HR1.out x5_1 p235 q235;cases e235;replace p235:=eq_true p235;replace q235:=eq_true q235
       refine start_ (n:=10) (S:=fun w'=>RS w' (ad234.add ((x5_1).toNat * 26)) (d9028 (rd_T9028 l0 x5_1) (.slice none 0 0) (.slice none 0 0))∧RS w' (ad235.add ((x5_1).toNat * 26)) (d9028 (rd_T9028 l1 x5_1) (.slice none 0 0) (.slice none 0 0))) (ds:=[]) _ aK rfl rfl ⟨rS HB hs234,rS HB hs235⟩ (fun hHeld=>?_);refine with_tabW laws_eqWordS.tab6 laws_eqWordS.bits6 (fun HT_ HW_=>?_)
       generalize wr.drew=w9 at HB hHeld ⊢
       refine qu 0 ?_;refine qu 1 ?_;refine qu 2 ?_;refine qu 4 ?_;refine qu 5 ?_;refine qu 6 ?_;refine qt 3 ?_;refine qt 7 ?_
       refine qo 8 ?_;intro K hK
       refine gS Try.func20 #[.agg #[.int .i64 ((rd_T9028 l0 x5_1).f0),.int .i64 ((rd_T9028 l0 x5_1).f1),.int .i64 ((rd_T9028 l0 x5_1).f2),.int .i64 ((rd_T9028 l0 x5_1).f3),.int .i64 ((rd_T9028 l0 x5_1).f4),.int .i64 ((rd_T9028 l0 x5_1).f5),.int .i64 ((rd_T9028 l0 x5_1).f6.f0),.int .i64 ((rd_T9028 l0 x5_1).f6.f1),.int .i64 ((rd_T9028 l0 x5_1).f6.f2),.int .i64 ((rd_T9028 l0 x5_1).f6.f3),.int .i64 ((rd_T9028 l0 x5_1).f6.f4),.int .i64 ((rd_T9028 l0 x5_1).f6.f5),.int .i64 ((rd_T9028 l0 x5_1).f6.f6),.int .i64 ((rd_T9028 l0 x5_1).f6.f7),.int .i64 ((rd_T9028 l0 x5_1).f6.f8),.int .i64 ((rd_T9028 l0 x5_1).f6.f9),.int .i64 ((rd_T9028 l0 x5_1).f7),.int .i64 ((rd_T9028 l0 x5_1).f8),.int .i64 ((rd_T9028 l0 x5_1).f9),.int .i64 ((rd_T9028 l0 x5_1).f10),.int .i64 ((rd_T9028 l0 x5_1).f11),.int .i64 ((rd_T9028 l0 x5_1).f12),.int .i64 ((rd_T9028 l0 x5_1).f13),.int .i64 ((rd_T9028 l0 x5_1).f14),.slice none 0 0,.slice none 0 0],.agg #[.int .i64 ((rd_T9028 l1 x5_1).f0),.int .i64 ((rd_T9028 l1 x5_1).f1),.int .i64 ((rd_T9028 l1 x5_1).f2),.int .i64 ((rd_T9028 l1 x5_1).f3),.int .i64 ((rd_T9028 l1 x5_1).f4),.int .i64 ((rd_T9028 l1 x5_1).f5),.int .i64 ((rd_T9028 l1 x5_1).f6.f0),.int .i64 ((rd_T9028 l1 x5_1).f6.f1),.int .i64 ((rd_T9028 l1 x5_1).f6.f2),.int .i64 ((rd_T9028 l1 x5_1).f6.f3),.int .i64 ((rd_T9028 l1 x5_1).f6.f4),.int .i64 ((rd_T9028 l1 x5_1).f6.f5),.int .i64 ((rd_T9028 l1 x5_1).f6.f6),.int .i64 ((rd_T9028 l1 x5_1).f6.f7),.int .i64 ((rd_T9028 l1 x5_1).f6.f8),.int .i64 ((rd_T9028 l1 x5_1).f6.f9),.int .i64 ((rd_T9028 l1 x5_1).f7),.int .i64 ((rd_T9028 l1 x5_1).f8),.int .i64 ((rd_T9028 l1 x5_1).f9),.int .i64 ((rd_T9028 l1 x5_1).f10),.int .i64 ((rd_T9028 l1 x5_1).f11),.int .i64 ((rd_T9028 l1 x5_1).f12),.int .i64 ((rd_T9028 l1 x5_1).f13),.int .i64 ((rd_T9028 l1 x5_1).f14),.slice none 0 0,.slice none 0 0]] ?_
       refine (laws_eqWord.calls ?s1 ?s2 ?s3 ?s4 ?s5 ?s6 ?s7 ?s8 A7.out).mono ?_
       (case s1=>exact Kd.C_nil _ _)
       (case s2=>exact Nat.le_refl _)
       (case s3=>exact Kd.C_nil _ _)
       (case s4=>exact Nat.le_refl _)
       (case s5=>exact Kd.C_nil _ _)
       (case s6=>exact Nat.le_refl _)
       (case s7=>exact Kd.C_nil _ _)
       (case s8=>exact Nat.le_refl _)
       rintro e w10 ⟨rfl,hb⟩;refine ⟨_,rfl,?_⟩;replace HB:=spB HB hb
       (try clear hb)
       refine hK.out _ _ ⟨rS HB hs234,rS HB hs235⟩ (fun hHeld=>?_);clear hK K;refine no_ (some 25) ?_;refine qu 9 ?_;refine qe ?_
       have H:=H0_.out;clear H0_
       by_cases c8:t236=true
       ·subst c8;rw [if_pos rfl] at H;have H':=mA H;clear H
        try go_wp2
        go_roundg k1
        case measure=>have:=HK1.out;omega
        case rel=>exact ⟨(wrap64 (x5_1+1)),bZ,H',⟨by have:=HK1.out;omega⟩,⟨pB HB.out⟩⟩
       ·replace c8:=Bool.eq_false_iff.mpr c8;subst c8
        rw [if_neg nFT] at H
        obtain rfl:=Option.some.inj H
        try go_wp2
        go_ret
        exact rZ (pB HB.out)
      ·rw [if_neg c6] at H
       exact absurd H (by simp)
     ·rw [if_neg c5] at H
      exact absurd H (by simp)
    ·rw [if_neg c4] at H;have c4b0:decide (x5_1<(l0.length:Int))=false:=decide_eq_false c4;clear c4;obtain rfl:=Option.some.inj H
     go_wp2
     go_ret
     exact rZ (pB HB.out)
 ·rw [if_neg c3] at H;have c3b0:((l0.length:Int) == (l1.length:Int))=false:=beq_eq_false_iff_ne.mpr c3;have c3b1:((l0.length:Int) != (l1.length:Int))=true:=bne_iff_ne.mpr c3
  have c3b2:(l0.length == l1.length)=false:=by first|simpa using c3|(simp at c3 ⊢;omega)
  obtain rfl:=Option.some.inj H
  go_enter Try.func38,Try.ntmps38
  go_wp2
  go_ret
  exact rZ (pB HB.out)
/-! ### laws_markIntS: function 100 -/
def laws_markIntS.l0 : Nat → List Int → Int → Int → Option (Int × List Int)
 | 0,_,_,_=>none
 | k+1,x0,x1,x5=>if x5<(x0.length:Int) then (if 0≤x5 then (laws_markIntS.l0 k (x0.set (x5:Int).toNat x1) (wrap64 (x1+1)) (wrap64 (x5+1))) else (none)) else (some (x1,x0))
def laws_markIntS.f (k : Nat) (l0 : List Int) (a1 : Int) : Option (Int × List Int) := laws_markIntS.l0 k l0 a1 0
set_option maxHeartbeats 8000000 in
set_option maxRecDepth 100000 in
theorem laws_markIntS.calls (k : Nat) (P0_ : Nat → Prop) (u9000_ : Value) (l0 : List Int) (a1 r1 : Int) (r2 : List Int) (w0 w : World) (hB : Below w0.heap.size w0 w) (ho0 : Kd.R (Kd.int .i64) 3 w w0.heap.size P0_ u9000_ l0) (h : laws_markIntS.f k l0 a1 = some (r1, r2)) :
  Calls Try.prog 100 #[u9000_,.int .i64 a1] w fun e w'=>e=.returned (.int .i64 r1)∧Kd.R (Kd.int .i64) 3 w' w0.heap.size (fun k_=>(P0_ k_ ∨ w.heap.size≤k_)) u9000_ r2∧Below w0.heap.size w0 w'∧Kept w w' (fun k_=>P0_ k_):=by
 have HO0:=mA (show Kd.R (Kd.int .i64) 3 w w0.heap.size (fun k_=>(P0_ k_ ∨ w.heap.size≤k_)) u9000_ l0 from Kd.R_mono ho0 (fun k_ hk=>(.inl hk)));have HK:=mA (Kept.refl w (fun k_=>P0_ k_));have HW0:=mA hB.size;have HB:=mA hB;clear hB;have H:(laws_markIntS.l0 k l0 a1 0)=some (r1,r2):=h;clear h;have H':=mA H;clear H
 go_enter Try.func100,Try.ntmps100
 go_wp2
 go_loopg [1,5] k (fun kq v1 v5 w'=>∃ (x0_1:List Int) (x1_1:Int) (x5_1:Int),v1=.int .i64 x1_1∧v5=.int .i64 x5_1∧Aside0 (laws_markIntS.l0 kq x0_1 x1_1 x5_1=some (r1,r2))∧Aside0 (kq≤k)∧Aside0 (Kd.R (Kd.int .i64) 3 w' w0.heap.size (fun k_=>(P0_ k_ ∨ w.heap.size≤k_)) u9000_ x0_1)∧Aside0 (Kept w w' (fun k_=>P0_ k_))∧Aside0 (Below w0.heap.size w0 w'))
 case atStart=>exact ⟨(l0),(a1),(0),bZ,bZ,H',⟨Nat.le_refl _⟩,⟨pR HO0.out⟩,⟨by repeat (first|(with_reducible first|exact HK.out|apply Kept.alloc|apply Kept.drewN|apply Kept.drew)|exact HK.out)⟩,⟨pB HB.out⟩⟩
 case round =>
  clear H'
  obtain ⟨x0_1,x1_1,x5_1,rfl,rfl,HA,HK1,HO_0,HK,HB⟩:=hrel
  cases gk with
  | zero=>exact absurd HA.out (by simp [laws_markIntS.l0])
  | succ k1 =>
   have H:=HA.out;clear HA;simp only [laws_markIntS.l0] at H
   by_cases c3:x5_1<(x0_1.length:Int)
   ·rw [if_pos c3] at H;have c3b0:decide (x5_1<(x0_1.length:Int))=true:=decide_eq_true c3;clear c3
    by_cases c4:0≤x5_1
    ·rw [if_pos c4] at H;have c4b0:decide (0≤x5_1)=true:=decide_eq_true c4;clear c4;obtain ⟨y237,hy237⟩:∃ y_:List Int,y_=(x0_1.set (x5_1:Int).toNat x1_1):=⟨_,rfl⟩
     replace H:(laws_markIntS.l0 k1 y237 (wrap64 (x1_1+1)) (wrap64 (x5_1+1)))=some (r1,r2):=qH hy237 H
     have Ny237:=mA hy237;clear hy237;have H':=mA H;clear H;obtain ⟨Ao6,co6,rfl⟩:=Kd.R_slice HO_0.out;have p5:0≤(x5_1:Int):=of_decide_eq_true bA;have q5:(x5_1:Int)<((x0_1.length:Int):Int):=of_decide_eq_true bA
     obtain ⟨go5,co5,eo5,gb5,gl5,cl5,HG5⟩:=Kd.R_form HO_0.out (by omega)
     (first|cases eo5|(injection eo5 with ea_ en_ ec_;(first|subst ea_|(injection ea_ with ea_;subst ea_));subst ec_;clear en_))
     have GB5:=mA gb5;have GG5:=mA HG5;clear gb5 gl5 HG5;have HMgo5:=mA (show (P0_ go5 ∨ w.heap.size≤go5) from (HO_0.out.1 _ rfl));obtain ⟨hx5_0,hf5_0⟩:=Kd.R_celln 0 HO_0.out (x5_1:Int) p5 q5;replace p5:=eq_true p5;replace q5:=eq_true q5;have HP7:=Kd.R_putg HO_0.out (x5_1:Int) x1_1
     go_wp2_with (first|((with_reducible refine gate_store (t:=3) (p:=15) rfl ?_);refine store_event (t:=3) (p:=15) (v:=?vo_w8) (w1:=(wr.setCell ⟨go5,(x5_1:Int).toNat,none⟩ (.int .i64 x1_1))) ?hg ?ho ?hn ?hr ?_;(case ho=>rfl);(case hg=>rfl);(case hn=>rfl);(case hr=>first|(go_simp;done)|(go_simp;rfl));intro w8 hw;have hg:wr.grownBy w8 (some go5):=(by rw [hw];exact HP7.2);have hp_:Kd.R (Kd.int .i64) 3 w8 w0.heap.size (fun k_=>(P0_ k_ ∨ w.heap.size≤k_)) (.slice (some ⟨go5,0,none⟩) x0_1.length co6) y237:=(by rw [hw,Ny237.out];exact HP7.1);clear HP7;replace HB:=mA (by rw [hw];exact below_set (HB.out) GB5.out:Below w0.heap.size w0 w8);replace HK:=mA (Kept.of_grown (S:=(fun k_=>P0_ k_)) hg (by repeat (first|(with_reducible first|exact HK.out|apply Kept.alloc|apply Kept.drewN|apply Kept.drew)|exact HK.out)) (fun k_ e_=>(HO_0.out.1 k_ e_)));replace HO_0:=mA hp_;clear hg hw hp_))
     go_roundg k1
     case measure=>have:=HK1.out;omega
     case rel=>exact ⟨(y237),(wrap64 (x1_1+1)),(wrap64 (x5_1+1)),bZ,bZ,H',⟨by have:=HK1.out;omega⟩,⟨pR HO_0.out⟩,⟨by repeat (first|(with_reducible first|exact HK.out|apply Kept.alloc|apply Kept.drewN|apply Kept.drew)|exact HK.out)⟩,⟨pB HB.out⟩⟩
    ·rw [if_neg c4] at H
     exact absurd H (by simp)
   ·rw [if_neg c3] at H;have c3b0:decide (x5_1<(x0_1.length:Int))=false:=decide_eq_false c3;clear c3;simp only [Option.some.injEq,Prod.mk.injEq] at H;obtain ⟨rfl,rfl⟩:=H;obtain ⟨Ao9,co9,rfl⟩:=Kd.R_slice HO_0.out
    go_wp2
    go_ret
    exact ⟨by first|rfl|(simp [errW_none,errW_some]<;>rfl)|(simp [*,errW_none,errW_some]<;>rfl),pR HO_0.out,pB HB.out,by repeat (first|(with_reducible first|exact HK.out|apply Kept.alloc|apply Kept.drewN|apply Kept.drew)|exact HK.out)⟩
end Go.Proofs.Ytoieojmfkkidnaa.P
