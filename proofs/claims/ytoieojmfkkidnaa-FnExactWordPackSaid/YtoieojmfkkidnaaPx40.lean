-- printed by pprint.py (this session's program over the kit's printer) out of the translation. Lean checks it.
import Derived.Test.YtoieojmfkkidnaaPx0
import Derived.Test.YtoieojmfkkidnaaPx11
import Derived.Test.YtoieojmfkkidnaaPx14
import Derived.Test.YtoieojmfkkidnaaPx19
import Derived.Test.YtoieojmfkkidnaaPx25
namespace Go.Proofs.Ytoieojmfkkidnaa.P
open Go.RowKit Go.Proofs.YtoieojmfkkidnaaX Go.Proofs.YtoieojmfkkidnaaW.PrintWords Go.Proofs.YtoieojmfkkidnaaW.PrintLast Go.Proofs.YtoieojmfkkidnaaW.PrintMore
attribute [local go_sem] max2_int min2_int max_two min_two max_three min_three max_four min_four   -- for this text's walks alone
set_option linter.unusedVariables false
set_option linter.unusedSimpArgs false

/-! ### laws_eqByteS: function 21 -/
def laws_eqByteS.l0 : Nat → List Int → List Int → Int → Option (Bool)
 | 0,_,_,_=>none
 | k+1,x0,x1,x5=>if x5<(x0.length:Int) then (if 0≤x5 then (if x5<(x1.length:Int) then (if (rd x0 x5)=(rd x1 x5) then (laws_eqByteS.l0 k x0 x1 (wrap64 (x5+1))) else (some false)) else (none)) else (none)) else (some true)
def laws_eqByteS.f (k : Nat) (l0 : List Int) (l1 : List Int) : Option (Bool) := if (l0.length : Int) = (l1.length : Int) then (laws_eqByteS.l0 k l0 l1 0) else (some false)
theorem laws_eqByteS.mono_l : ∀ k, (∀ y0 y1 y2, LeO (laws_eqByteS.l0 k y0 y1 y2) (laws_eqByteS.l0 (k + 1) y0 y1 y2))
 | 0=>fun _ _ _ r h=>by simp [laws_eqByteS.l0] at h
 | k+1=>by
  have ih0:=laws_eqByteS.mono_l k
  ·intros
   unfold laws_eqByteS.l0
   repeat' first
   | (with_reducible first|apply ih0|exact LeO.refl _|exact LeO.none _|refine LeO.ite ?_ ?_|refine LeO.bind ?_ (fun _=>?_))|exact LeO.none _|refine LeO.ite ?_ ?_|refine LeO.bind ?_ (fun _=>?_)
theorem laws_eqByteS.mono : ∀ a0 a1 k, LeO (laws_eqByteS.f k a0 a1) (laws_eqByteS.f (k + 1) a0 a1) := by
 intro a0 a1 k;have ih0:=laws_eqByteS.mono_l k
 unfold laws_eqByteS.f
 repeat' first
   | (with_reducible first|apply ih0|exact LeO.refl _|exact LeO.none _|refine LeO.ite ?_ ?_|refine LeO.bind ?_ (fun _=>?_))|exact LeO.none _|refine LeO.ite ?_ ?_|refine LeO.bind ?_ (fun _=>?_)
set_option maxHeartbeats 8000000 in
set_option maxRecDepth 100000 in
theorem laws_eqByteS.calls {k : Nat} {A0 : Option Addr} {c0 : Nat} {l0 : List Int} {A1 : Option Addr} {c1 : Nat} {l1 : List Int} {r : Bool} {w : World} (hr0 : Kd.C (Kd.int .u8) w A0 l0.length l0) (hc0 : l0.length ≤ c0) (hr1 : Kd.C (Kd.int .u8) w A1 l1.length l1) (hc1 : l1.length ≤ c1) (h : laws_eqByteS.f k l0 l1 = some r) :
  Calls Try.prog 21 #[.slice A0 l0.length c0,.slice A1 l1.length c1] w fun e w'=>e=.returned (.bool r)∧Drawn0 w w':=by
 have HR0:=mA hr0;have HC0:=mA hc0;clear hr0 hc0;have HR1:=mA hr1;have HC1:=mA hc1;clear hr1 hc1;have H:(if (l0.length:Int)=(l1.length:Int) then (laws_eqByteS.l0 k l0 l1 0) else (some false))=some r:=h;clear h
 by_cases c3:(l0.length:Int)=(l1.length:Int)
 ·rw [if_pos c3] at H;have c3b0:((l0.length:Int) == (l1.length:Int))=true:=beq_iff_eq.mpr c3;have c3b1:((l0.length:Int) != (l1.length:Int))=false:=bne_eq_false_iff_eq.mpr c3
  have c3b2:(l0.length == l1.length)=true:=by first|simpa using c3|(simp at c3 ⊢;omega)
  clear c3;have H':=mA H;clear H
  go_enter Try.func21,Try.ntmps21
  go_wp2
  repeat (go_quiet (fail);try go_wp2)
  go_loopg [5] k (fun kq v5 w'=>∃ (x5_1:Int),v5=.int .i64 x5_1∧Aside0 (laws_eqByteS.l0 kq l0 l1 x5_1=some r)∧Aside0 (kq≤k)∧Drawn0 w w')
  case atStart=>exact ⟨(0),bZ,H',⟨Nat.le_refl _⟩,by repeat (first|exact Drawn0.refl _|apply Drawn0.step)⟩
  case round =>
   clear H'
   (try clear c3);(try clear c3b0);(try clear c3b1);(try clear c3b2)
   obtain ⟨x5_1,rfl,HA,HK1,⟨m1,rfl⟩⟩:=hrel
   cases gk with
   | zero=>exact absurd HA.out (by simp [laws_eqByteS.l0])
   | succ k1 =>
    have H:=HA.out;clear HA;simp only [laws_eqByteS.l0] at H
    by_cases c4:x5_1<(l0.length:Int)
    ·rw [if_pos c4] at H;have c4b0:decide (x5_1<(l0.length:Int))=true:=decide_eq_true c4;clear c4
     by_cases c5:0≤x5_1
     ·rw [if_pos c5] at H;have c5b0:decide (0≤x5_1)=true:=decide_eq_true c5;clear c5
      by_cases c6:x5_1<(l1.length:Int)
      ·rw [if_pos c6] at H;have c6b0:decide (x5_1<(l1.length:Int))=true:=decide_eq_true c6;clear c6
       by_cases c7:(rd l0 x5_1)=(rd l1 x5_1)
       ·rw [if_pos c7] at H;obtain ⟨c7b0,c7b1⟩:=eqB c7;clear c7;have H':=mA H;clear H;have p790:0≤(x5_1:Int):=of_decide_eq_true bA;have q790:x5_1<(l0.length:Int):=of_decide_eq_true bA;obtain ⟨ad790,e790,hx790_0⟩:=Kd.at_int HR0.out x5_1 p790 q790;cases e790;replace p790:=eq_true p790;replace q790:=eq_true q790;have p791:0≤(x5_1:Int):=of_decide_eq_true bA;have q791:x5_1<(l1.length:Int):=of_decide_eq_true bA;obtain ⟨ad791,e791,hx791_0⟩:=Kd.at_int HR1.out x5_1 p791 q791;cases e791;replace p791:=eq_true p791;replace q791:=eq_true q791
        go_wp2
        repeat (go_quiet (fail);try go_wp2)
        go_roundg k1
        case measure=>have:=HK1.out;omega
        case rel=>exact ⟨(wrap64 (x5_1+1)),bZ,H',⟨by have:=HK1.out;omega⟩,by repeat (first|exact Drawn0.refl _|apply Drawn0.step)⟩
       ·rw [if_neg c7] at H;have c7b0:((rd l0 x5_1) == (rd l1 x5_1))=false:=beq_eq_false_iff_ne.mpr c7;have c7b1:((rd l0 x5_1) != (rd l1 x5_1))=true:=bne_iff_ne.mpr c7;obtain rfl:=Option.some.inj H;have p790:0≤(x5_1:Int):=of_decide_eq_true bA;have q790:x5_1<(l0.length:Int):=of_decide_eq_true bA;obtain ⟨ad790,e790,hx790_0⟩:=Kd.at_int HR0.out x5_1 p790 q790;cases e790;replace p790:=eq_true p790;replace q790:=eq_true q790;have p791:0≤(x5_1:Int):=of_decide_eq_true bA;have q791:x5_1<(l1.length:Int):=of_decide_eq_true bA;obtain ⟨ad791,e791,hx791_0⟩:=Kd.at_int HR1.out x5_1 p791 q791;cases e791;replace p791:=eq_true p791;replace q791:=eq_true q791
        go_wp2
        repeat (go_quiet (fail);try go_wp2)
        go_ret
        exact ⟨by first|rfl|(simp;done)|(simp [*];done),by repeat (first|exact Drawn0.refl _|apply Drawn0.step)⟩
      ·rw [if_neg c6] at H
       exact absurd H (by simp)
     ·rw [if_neg c5] at H
      exact absurd H (by simp)
    ·rw [if_neg c4] at H;have c4b0:decide (x5_1<(l0.length:Int))=false:=decide_eq_false c4;clear c4;obtain rfl:=Option.some.inj H
     go_wp2
     repeat (go_quiet (fail);try go_wp2)
     go_ret
     exact ⟨by first|rfl|(simp;done)|(simp [*];done),by repeat (first|exact Drawn0.refl _|apply Drawn0.step)⟩
 ·rw [if_neg c3] at H;have c3b0:((l0.length:Int) == (l1.length:Int))=false:=beq_eq_false_iff_ne.mpr c3;have c3b1:((l0.length:Int) != (l1.length:Int))=true:=bne_iff_ne.mpr c3
  have c3b2:(l0.length == l1.length)=false:=by first|simpa using c3|(simp at c3 ⊢;omega)
  obtain rfl:=Option.some.inj H
  go_enter Try.func21,Try.ntmps21
  go_wp2
  repeat (go_quiet (fail);try go_wp2)
  go_ret
  exact ⟨by first|rfl|(simp;done)|(simp [*];done),by repeat (first|exact Drawn0.refl _|apply Drawn0.step)⟩

/-! ### laws_markByteS: function 23 -/
def laws_markByteS.l0 : Nat → List Int → Int → Int → Option (Int × List Int)
 | 0,_,_,_=>none
 | k+1,x0,x1,x5=>if x5<(x0.length:Int) then (if 0≤x5 then (laws_markByteS.l0 k (x0.set (x5:Int).toNat ((x1) % 256)) (wrap64 (x1+1)) (wrap64 (x5+1))) else (none)) else (some (x1,x0))
def laws_markByteS.f (k : Nat) (l0 : List Int) (a1 : Int) : Option (Int × List Int) := laws_markByteS.l0 k l0 a1 0
theorem laws_markByteS.mono_l : ∀ k, (∀ y0 y1 y2, LeO (laws_markByteS.l0 k y0 y1 y2) (laws_markByteS.l0 (k + 1) y0 y1 y2))
 | 0=>fun _ _ _ r h=>by simp [laws_markByteS.l0] at h
 | k+1=>by
  have ih0:=laws_markByteS.mono_l k
  ·intros
   unfold laws_markByteS.l0
   repeat' first
   | (with_reducible first|apply ih0|exact LeO.refl _|exact LeO.none _|refine LeO.ite ?_ ?_|refine LeO.bind ?_ (fun _=>?_))|exact LeO.none _|refine LeO.ite ?_ ?_|refine LeO.bind ?_ (fun _=>?_)
theorem laws_markByteS.mono : ∀ a0 a1 k, LeO (laws_markByteS.f k a0 a1) (laws_markByteS.f (k + 1) a0 a1) := by
 intro a0 a1 k;have ih0:=laws_markByteS.mono_l k
 unfold laws_markByteS.f
 repeat' first
   | (with_reducible first|apply ih0|exact LeO.refl _|exact LeO.none _|refine LeO.ite ?_ ?_|refine LeO.bind ?_ (fun _=>?_))|exact LeO.none _|refine LeO.ite ?_ ?_|refine LeO.bind ?_ (fun _=>?_)
set_option maxHeartbeats 8000000 in
set_option maxRecDepth 100000 in
theorem laws_markByteS.calls (k : Nat) (P0_ : Nat → Prop) (u9000_ : Value) (l0 : List Int) (a1 : Int) (r1 : Int) (r2 : List Int) (w0 w : World) (hB : Below w0.heap.size w0 w) (ho0 : Kd.R (Kd.int .u8) 5 w w0.heap.size P0_ u9000_ l0) (h : laws_markByteS.f k l0 a1 = some (r1, r2)) :
  Calls Try.prog 23 #[u9000_,.int .i64 a1] w fun e w'=>e=.returned (.int .i64 r1)∧Kd.R (Kd.int .u8) 5 w' w0.heap.size (fun k_=>(P0_ k_ ∨ w.heap.size≤k_)) u9000_ r2∧Below w0.heap.size w0 w'∧Kept w w' (fun k_=>P0_ k_):=by
 have HO0:=mA (show Kd.R (Kd.int .u8) 5 w w0.heap.size (fun k_=>(P0_ k_ ∨ w.heap.size≤k_)) u9000_ l0 from Kd.R_mono ho0 (fun k_ hk=>(.inl hk)));have HK:=mA (Kept.refl w (fun k_=>P0_ k_));have HW0:=mA hB.size;have HB:=mA hB;clear hB;have H:(laws_markByteS.l0 k l0 a1 0)=some (r1,r2):=h;clear h;have H':=mA H;clear H
 go_enter Try.func23,Try.ntmps23
 go_wp2
 go_loopg [1,5] k (fun kq v1 v5 w'=>∃ (x0_1:List Int) (x1_1:Int) (x5_1:Int),v1=.int .i64 x1_1∧v5=.int .i64 x5_1∧Aside0 (laws_markByteS.l0 kq x0_1 x1_1 x5_1=some (r1,r2))∧Aside0 (kq≤k)∧Aside0 (Kd.R (Kd.int .u8) 5 w' w0.heap.size (fun k_=>(P0_ k_ ∨ w.heap.size≤k_)) u9000_ x0_1)∧Aside0 (Kept w w' (fun k_=>P0_ k_))∧Aside0 (Below w0.heap.size w0 w'))
 case atStart=>exact ⟨(l0),(a1),(0),bZ,bZ,H',⟨Nat.le_refl _⟩,⟨pR HO0.out⟩,⟨by repeat (first|(with_reducible first|exact HK.out|apply Kept.alloc|apply Kept.drewN|apply Kept.drew)|exact HK.out)⟩,⟨pB HB.out⟩⟩
 case round =>
  clear H'
  obtain ⟨x0_1,x1_1,x5_1,rfl,rfl,HA,HK1,HO_0,HK,HB⟩:=hrel
  cases gk with
  | zero=>exact absurd HA.out (by simp [laws_markByteS.l0])
  | succ k1 =>
   have H:=HA.out;clear HA;simp only [laws_markByteS.l0] at H
   by_cases c3:x5_1<(x0_1.length:Int)
   ·rw [if_pos c3] at H;have c3b0:decide (x5_1<(x0_1.length:Int))=true:=decide_eq_true c3;clear c3
    by_cases c4:0≤x5_1
    ·rw [if_pos c4] at H;have c4b0:decide (0≤x5_1)=true:=decide_eq_true c4;clear c4;obtain ⟨y803,hy803⟩:∃ y_:List Int,y_=(x0_1.set (x5_1:Int).toNat ((x1_1) % 256)):=⟨_,rfl⟩
     replace H:(laws_markByteS.l0 k1 y803 (wrap64 (x1_1+1)) (wrap64 (x5_1+1)))=some (r1,r2):=qH hy803 H
     have Ny803:=mA hy803;clear hy803;have H':=mA H;clear H;obtain ⟨Ao6,co6,rfl⟩:=Kd.R_slice HO_0.out;have p5:0≤(x5_1:Int):=of_decide_eq_true bA;have q5:(x5_1:Int)<((x0_1.length:Int):Int):=of_decide_eq_true bA
     obtain ⟨go5,co5,eo5,gb5,gl5,cl5,HG5⟩:=Kd.R_form HO_0.out (by omega)
     (first|cases eo5|(injection eo5 with ea_ en_ ec_;(first|subst ea_|(injection ea_ with ea_;subst ea_));subst ec_;clear en_))
     have GB5:=mA gb5;have GG5:=mA HG5;clear gb5 gl5 HG5;have HMgo5:=mA (show (P0_ go5 ∨ w.heap.size≤go5) from (HO_0.out.1 _ rfl));obtain ⟨hx5_0,hf5_0⟩:=Kd.R_celln 0 HO_0.out (x5_1:Int) p5 q5;replace p5:=eq_true p5;replace q5:=eq_true q5;have HP7:=Kd.R_putg HO_0.out (x5_1:Int) ((x1_1) % 256)
     go_wp2_with (first|((with_reducible refine gate_store (t:=5) (p:=16) rfl ?_);refine store_event (t:=5) (p:=16) (v:=?vo_w8) (w1:=(wr.setCell ⟨go5,(x5_1:Int).toNat,none⟩ (.int .u8 ((x1_1) % 256)))) ?hg ?ho ?hn ?hr ?_;(case ho=>rfl);(case hg=>rfl);(case hn=>rfl);(case hr=>first|(go_simp;done)|(go_simp;rfl));intro w8 hw;have hg:wr.grownBy w8 (some go5):=(by rw [hw];exact HP7.2);have hp_:Kd.R (Kd.int .u8) 5 w8 w0.heap.size (fun k_=>(P0_ k_ ∨ w.heap.size≤k_)) (.slice (some ⟨go5,0,none⟩) x0_1.length co6) y803:=(by rw [hw,Ny803.out];exact HP7.1);clear HP7;replace HB:=mA (by rw [hw];exact below_set (HB.out) GB5.out:Below w0.heap.size w0 w8);replace HK:=mA (Kept.of_grown (S:=(fun k_=>P0_ k_)) hg (by repeat (first|(with_reducible first|exact HK.out|apply Kept.alloc|apply Kept.drewN|apply Kept.drew)|exact HK.out)) (fun k_ e_=>(HO_0.out.1 k_ e_)));replace HO_0:=mA hp_;clear hg hw hp_))
     go_roundg k1
     case measure=>have:=HK1.out;omega
     case rel=>exact ⟨(y803),(wrap64 (x1_1+1)),(wrap64 (x5_1+1)),bZ,bZ,H',⟨by have:=HK1.out;omega⟩,⟨pR HO_0.out⟩,⟨by repeat (first|(with_reducible first|exact HK.out|apply Kept.alloc|apply Kept.drewN|apply Kept.drew)|exact HK.out)⟩,⟨pB HB.out⟩⟩
    ·rw [if_neg c4] at H
     exact absurd H (by simp)
   ·rw [if_neg c3] at H;have c3b0:decide (x5_1<(x0_1.length:Int))=false:=decide_eq_false c3;clear c3;simp only [Option.some.injEq,Prod.mk.injEq] at H;obtain ⟨rfl,rfl⟩:=H;obtain ⟨Ao9,co9,rfl⟩:=Kd.R_slice HO_0.out
    go_wp2
    go_ret
    exact ⟨by first|rfl|(simp [errW_none,errW_some]<;>rfl)|(simp [*,errW_none,errW_some]<;>rfl),pR HO_0.out,pB HB.out,by repeat (first|(with_reducible first|exact HK.out|apply Kept.alloc|apply Kept.drewN|apply Kept.drew)|exact HK.out)⟩

/-! ### laws_heldByteS: function 24 -/
def laws_heldByteS.l0 : Nat → List Int → Int → Int → Option (Int)
 | 0,_,_,_=>none
 | k+1,x0,x1,x5=>if x5<(x0.length:Int) then (if 0≤x5 then (if (rd x0 x5)=((x1) % 256) then (laws_heldByteS.l0 k x0 (wrap64 (x1+1)) (wrap64 (x5+1))) else (some (-1))) else (none)) else (some x1)
def laws_heldByteS.f (k : Nat) (l0 : List Int) (a1 : Int) : Option (Int) := laws_heldByteS.l0 k l0 a1 0
theorem laws_heldByteS.mono_l : ∀ k, (∀ y0 y1 y2, LeO (laws_heldByteS.l0 k y0 y1 y2) (laws_heldByteS.l0 (k + 1) y0 y1 y2))
 | 0=>fun _ _ _ r h=>by simp [laws_heldByteS.l0] at h
 | k+1=>by
  have ih0:=laws_heldByteS.mono_l k
  ·intros
   unfold laws_heldByteS.l0
   repeat' first
   | (with_reducible first|apply ih0|exact LeO.refl _|exact LeO.none _|refine LeO.ite ?_ ?_|refine LeO.bind ?_ (fun _=>?_))|exact LeO.none _|refine LeO.ite ?_ ?_|refine LeO.bind ?_ (fun _=>?_)
theorem laws_heldByteS.mono : ∀ a0 a1 k, LeO (laws_heldByteS.f k a0 a1) (laws_heldByteS.f (k + 1) a0 a1) := by
 intro a0 a1 k;have ih0:=laws_heldByteS.mono_l k
 unfold laws_heldByteS.f
 repeat' first
   | (with_reducible first|apply ih0|exact LeO.refl _|exact LeO.none _|refine LeO.ite ?_ ?_|refine LeO.bind ?_ (fun _=>?_))|exact LeO.none _|refine LeO.ite ?_ ?_|refine LeO.bind ?_ (fun _=>?_)
set_option maxHeartbeats 8000000 in
set_option maxRecDepth 100000 in
theorem laws_heldByteS.calls {k : Nat} {A0 : Option Addr} {c0 : Nat} {l0 : List Int} {a1 : Int} {r : Int} {w : World} (hr0 : Kd.C (Kd.int .u8) w A0 l0.length l0) (hc0 : l0.length ≤ c0) (h : laws_heldByteS.f k l0 a1 = some r) :
  Calls Try.prog 24 #[.slice A0 l0.length c0,.int .i64 a1] w fun e w'=>e=.returned (.int .i64 r)∧Drawn0 w w':=by
 have HR0:=mA hr0;have HC0:=mA hc0;clear hr0 hc0;have H:(laws_heldByteS.l0 k l0 a1 0)=some r:=h;clear h;have H':=mA H;clear H
 go_enter Try.func24,Try.ntmps24
 go_wp2
 go_loopg [1,5] k (fun kq v1 v5 w'=>∃ (x1_1:Int) (x5_1:Int),v1=.int .i64 x1_1∧v5=.int .i64 x5_1∧Aside0 (laws_heldByteS.l0 kq l0 x1_1 x5_1=some r)∧Aside0 (kq≤k)∧Drawn0 w w')
 case atStart=>exact ⟨(a1),(0),bZ,bZ,H',⟨Nat.le_refl _⟩,by repeat (first|exact Drawn0.refl _|apply Drawn0.step)⟩
 case round =>
  clear H'
  obtain ⟨x1_1,x5_1,rfl,rfl,HA,HK1,⟨m1,rfl⟩⟩:=hrel
  cases gk with
  | zero=>exact absurd HA.out (by simp [laws_heldByteS.l0])
  | succ k1 =>
   have H:=HA.out;clear HA;simp only [laws_heldByteS.l0] at H
   by_cases c3:x5_1<(l0.length:Int)
   ·rw [if_pos c3] at H;have c3b0:decide (x5_1<(l0.length:Int))=true:=decide_eq_true c3;clear c3
    by_cases c4:0≤x5_1
    ·rw [if_pos c4] at H;have c4b0:decide (0≤x5_1)=true:=decide_eq_true c4;clear c4
     by_cases c5:(rd l0 x5_1)=((x1_1) % 256)
     ·rw [if_pos c5] at H;obtain ⟨c5b0,c5b1⟩:=eqB c5;clear c5;have H':=mA H;clear H;have p804:0≤(x5_1:Int):=of_decide_eq_true bA;have q804:x5_1<(l0.length:Int):=of_decide_eq_true bA;obtain ⟨ad804,e804,hx804_0⟩:=Kd.at_int HR0.out x5_1 p804 q804;cases e804;replace p804:=eq_true p804;replace q804:=eq_true q804
      go_wp2
      go_roundg k1
      case measure=>have:=HK1.out;omega
      case rel=>exact ⟨(wrap64 (x1_1+1)),(wrap64 (x5_1+1)),bZ,bZ,H',⟨by have:=HK1.out;omega⟩,by repeat (first|exact Drawn0.refl _|apply Drawn0.step)⟩
     ·rw [if_neg c5] at H;have c5b0:((rd l0 x5_1) == ((x1_1) % 256))=false:=beq_eq_false_iff_ne.mpr c5;have c5b1:((rd l0 x5_1) != ((x1_1) % 256))=true:=bne_iff_ne.mpr c5;obtain rfl:=Option.some.inj H;have p804:0≤(x5_1:Int):=of_decide_eq_true bA;have q804:x5_1<(l0.length:Int):=of_decide_eq_true bA;obtain ⟨ad804,e804,hx804_0⟩:=Kd.at_int HR0.out x5_1 p804 q804;cases e804;replace p804:=eq_true p804;replace q804:=eq_true q804
      go_wp2
      go_ret
      exact ⟨by first|rfl|(simp;done)|(simp [*];done),by repeat (first|exact Drawn0.refl _|apply Drawn0.step)⟩
    ·rw [if_neg c4] at H
     exact absurd H (by simp)
   ·rw [if_neg c3] at H;have c3b0:decide (x5_1<(l0.length:Int))=false:=decide_eq_false c3;clear c3;obtain rfl:=Option.some.inj H
    go_wp2
    go_ret
    exact ⟨by first|rfl|(simp;done)|(simp [*];done),by repeat (first|exact Drawn0.refl _|apply Drawn0.step)⟩

/-! ### laws_FnExactWordPack: function 5 -/
mutual
def laws_FnExactWordPack.j0 : Nat → Int → Int → Int → Int → Int → Int → Int → Int → Int → Int → Int → Int → Int → Int → Int → Int → Int → Int → Int → Int → Int → Int → Int → Int → List (S146) → List (S148) → Option (Bool)
 | 0,_,_,_,_,_,_,_,_,_,_,_,_,_,_,_,_,_,_,_,_,_,_,_,_,_,_=>none
 | k+1,x806000,x806001,x806002,x806003,x806004,x806005,x806006,x806007,x806008,x806009,x806010,x806011,x806012,x806013,x806014,x806015,x806016,x806017,x806018,x806019,x806020,x806021,x806022,x806023,x806024,x806025=>(laws_toWord.f k x806000 x806001 x806002 x806003 x806004 x806005 x806006 x806007 x806008 x806009 x806010 x806011 x806012 x806013 x806014 x806015 x806016 x806017 x806018 x806019 x806020 x806021 x806022 x806023 x806024 x806025).bind fun bt807=>((spec_WordPack.f k bt807.1 bt807.2.1 bt807.2.2.1 bt807.2.2.2.1 bt807.2.2.2.2.1 bt807.2.2.2.2.2.1 bt807.2.2.2.2.2.2.1 bt807.2.2.2.2.2.2.2.1 bt807.2.2.2.2.2.2.2.2.1 bt807.2.2.2.2.2.2.2.2.2.1 bt807.2.2.2.2.2.2.2.2.2.2.1 bt807.2.2.2.2.2.2.2.2.2.2.2.1 bt807.2.2.2.2.2.2.2.2.2.2.2.2.1 bt807.2.2.2.2.2.2.2.2.2.2.2.2.2.1 bt807.2.2.2.2.2.2.2.2.2.2.2.2.2.2.1 bt807.2.2.2.2.2.2.2.2.2.2.2.2.2.2.2.1 bt807.2.2.2.2.2.2.2.2.2.2.2.2.2.2.2.2.1 bt807.2.2.2.2.2.2.2.2.2.2.2.2.2.2.2.2.2.1 bt807.2.2.2.2.2.2.2.2.2.2.2.2.2.2.2.2.2.2.1 bt807.2.2.2.2.2.2.2.2.2.2.2.2.2.2.2.2.2.2.2.1 bt807.2.2.2.2.2.2.2.2.2.2.2.2.2.2.2.2.2.2.2.2.1 bt807.2.2.2.2.2.2.2.2.2.2.2.2.2.2.2.2.2.2.2.2.2.1 bt807.2.2.2.2.2.2.2.2.2.2.2.2.2.2.2.2.2.2.2.2.2.2.1 bt807.2.2.2.2.2.2.2.2.2.2.2.2.2.2.2.2.2.2.2.2.2.2.2.1 bt807.2.2.2.2.2.2.2.2.2.2.2.2.2.2.2.2.2.2.2.2.2.2.2.2.1 bt807.2.2.2.2.2.2.2.2.2.2.2.2.2.2.2.2.2.2.2.2.2.2.2.2.2).bind fun t837=>((laws_toWord.f k x806000 x806001 x806002 x806003 x806004 x806005 x806006 x806007 x806008 x806009 x806010 x806011 x806012 x806013 x806014 x806015 x806016 x806017 x806018 x806019 x806020 x806021 x806022 x806023 x806024 x806025).bind fun bt840=>((impl_WordPack.f k bt840.1 bt840.2.1 bt840.2.2.1 bt840.2.2.2.1 bt840.2.2.2.2.1 bt840.2.2.2.2.2.1 bt840.2.2.2.2.2.2.1 bt840.2.2.2.2.2.2.2.1 bt840.2.2.2.2.2.2.2.2.1 bt840.2.2.2.2.2.2.2.2.2.1 bt840.2.2.2.2.2.2.2.2.2.2.1 bt840.2.2.2.2.2.2.2.2.2.2.2.1 bt840.2.2.2.2.2.2.2.2.2.2.2.2.1 bt840.2.2.2.2.2.2.2.2.2.2.2.2.2.1 bt840.2.2.2.2.2.2.2.2.2.2.2.2.2.2.1 bt840.2.2.2.2.2.2.2.2.2.2.2.2.2.2.2.1 bt840.2.2.2.2.2.2.2.2.2.2.2.2.2.2.2.2.1 bt840.2.2.2.2.2.2.2.2.2.2.2.2.2.2.2.2.2.1 bt840.2.2.2.2.2.2.2.2.2.2.2.2.2.2.2.2.2.2.1 bt840.2.2.2.2.2.2.2.2.2.2.2.2.2.2.2.2.2.2.2.1 bt840.2.2.2.2.2.2.2.2.2.2.2.2.2.2.2.2.2.2.2.2.1 bt840.2.2.2.2.2.2.2.2.2.2.2.2.2.2.2.2.2.2.2.2.2.1 bt840.2.2.2.2.2.2.2.2.2.2.2.2.2.2.2.2.2.2.2.2.2.2.1 bt840.2.2.2.2.2.2.2.2.2.2.2.2.2.2.2.2.2.2.2.2.2.2.2.1 bt840.2.2.2.2.2.2.2.2.2.2.2.2.2.2.2.2.2.2.2.2.2.2.2.2.1 bt840.2.2.2.2.2.2.2.2.2.2.2.2.2.2.2.2.2.2.2.2.2.2.2.2.2).bind fun t871=>((laws_eqByteS.f k t871 t837).bind fun t874=>(if t874=true then (laws_FnExactWordPack.j1 k t837 t871 x806000 x806001 x806002 x806003 x806004 x806005 x806006 x806007 x806008 x806009 x806010 x806011 x806012 x806013 x806014 x806015 x806016 x806017 x806018 x806019 x806020 x806021 x806022 x806023 x806024 x806025 bt840.1 bt840.2.1 bt840.2.2.1 bt840.2.2.2.1 bt840.2.2.2.2.1 bt840.2.2.2.2.2.1 bt840.2.2.2.2.2.2.1 bt840.2.2.2.2.2.2.2.1 bt840.2.2.2.2.2.2.2.2.1 bt840.2.2.2.2.2.2.2.2.2.1 bt840.2.2.2.2.2.2.2.2.2.2.1 bt840.2.2.2.2.2.2.2.2.2.2.2.1 bt840.2.2.2.2.2.2.2.2.2.2.2.2.1 bt840.2.2.2.2.2.2.2.2.2.2.2.2.2.1 bt840.2.2.2.2.2.2.2.2.2.2.2.2.2.2.1 bt840.2.2.2.2.2.2.2.2.2.2.2.2.2.2.2.1 bt840.2.2.2.2.2.2.2.2.2.2.2.2.2.2.2.2.1 bt840.2.2.2.2.2.2.2.2.2.2.2.2.2.2.2.2.2.1 bt840.2.2.2.2.2.2.2.2.2.2.2.2.2.2.2.2.2.2.1 bt840.2.2.2.2.2.2.2.2.2.2.2.2.2.2.2.2.2.2.2.1 bt840.2.2.2.2.2.2.2.2.2.2.2.2.2.2.2.2.2.2.2.2.1 bt840.2.2.2.2.2.2.2.2.2.2.2.2.2.2.2.2.2.2.2.2.2.1 bt840.2.2.2.2.2.2.2.2.2.2.2.2.2.2.2.2.2.2.2.2.2.2.1 bt840.2.2.2.2.2.2.2.2.2.2.2.2.2.2.2.2.2.2.2.2.2.2.2.1 bt840.2.2.2.2.2.2.2.2.2.2.2.2.2.2.2.2.2.2.2.2.2.2.2.2.1 bt840.2.2.2.2.2.2.2.2.2.2.2.2.2.2.2.2.2.2.2.2.2.2.2.2.2) else (some false))))))
def laws_FnExactWordPack.j1 : Nat → List Int → List Int → Int → Int → Int → Int → Int → Int → Int → Int → Int → Int → Int → Int → Int → Int → Int → Int → Int → Int → Int → Int → Int → Int → Int → Int → List (S146) → List (S148) → Int → Int → Int → Int → Int → Int → Int → Int → Int → Int → Int → Int → Int → Int → Int → Int → Int → Int → Int → Int → Int → Int → Int → Int → List (S138) → List (S140) → Option (Bool)
 | 0,_,_,_,_,_,_,_,_,_,_,_,_,_,_,_,_,_,_,_,_,_,_,_,_,_,_,_,_,_,_,_,_,_,_,_,_,_,_,_,_,_,_,_,_,_,_,_,_,_,_,_,_,_,_=>none
 | k+1,x4,x6,x806000,x806001,x806002,x806003,x806004,x806005,x806006,x806007,x806008,x806009,x806010,x806011,x806012,x806013,x806014,x806015,x806016,x806017,x806018,x806019,x806020,x806021,x806022,x806023,x806024,x806025,x871000,x871001,x871002,x871003,x871004,x871005,x871006,x871007,x871008,x871009,x871010,x871011,x871012,x871013,x871014,x871015,x871016,x871017,x871018,x871019,x871020,x871021,x871022,x871023,x871024,x871025=>(laws_toWord.f k x806000 x806001 x806002 x806003 x806004 x806005 x806006 x806007 x806008 x806009 x806010 x806011 x806012 x806013 x806014 x806015 x806016 x806017 x806018 x806019 x806020 x806021 x806022 x806023 x806024 x806025).bind fun bt875=>((laws_eqWord.f k x871000 x871001 x871002 x871003 x871004 x871005 x871006 x871007 x871008 x871009 x871010 x871011 x871012 x871013 x871014 x871015 x871016 x871017 x871018 x871019 x871020 x871021 x871022 x871023 x871024 x871025 bt875.1 bt875.2.1 bt875.2.2.1 bt875.2.2.2.1 bt875.2.2.2.2.1 bt875.2.2.2.2.2.1 bt875.2.2.2.2.2.2.1 bt875.2.2.2.2.2.2.2.1 bt875.2.2.2.2.2.2.2.2.1 bt875.2.2.2.2.2.2.2.2.2.1 bt875.2.2.2.2.2.2.2.2.2.2.1 bt875.2.2.2.2.2.2.2.2.2.2.2.1 bt875.2.2.2.2.2.2.2.2.2.2.2.2.1 bt875.2.2.2.2.2.2.2.2.2.2.2.2.2.1 bt875.2.2.2.2.2.2.2.2.2.2.2.2.2.2.1 bt875.2.2.2.2.2.2.2.2.2.2.2.2.2.2.2.1 bt875.2.2.2.2.2.2.2.2.2.2.2.2.2.2.2.2.1 bt875.2.2.2.2.2.2.2.2.2.2.2.2.2.2.2.2.2.1 bt875.2.2.2.2.2.2.2.2.2.2.2.2.2.2.2.2.2.2.1 bt875.2.2.2.2.2.2.2.2.2.2.2.2.2.2.2.2.2.2.2.1 bt875.2.2.2.2.2.2.2.2.2.2.2.2.2.2.2.2.2.2.2.2.1 bt875.2.2.2.2.2.2.2.2.2.2.2.2.2.2.2.2.2.2.2.2.2.1 bt875.2.2.2.2.2.2.2.2.2.2.2.2.2.2.2.2.2.2.2.2.2.2.1 bt875.2.2.2.2.2.2.2.2.2.2.2.2.2.2.2.2.2.2.2.2.2.2.2.1 bt875.2.2.2.2.2.2.2.2.2.2.2.2.2.2.2.2.2.2.2.2.2.2.2.2.1 bt875.2.2.2.2.2.2.2.2.2.2.2.2.2.2.2.2.2.2.2.2.2.2.2.2.2).bind fun t905=>(if t905=true then (laws_FnExactWordPack.j2 k x4 x6 x806000 x806001 x806002 x806003 x806004 x806005 x806006 x806007 x806008 x806009 x806010 x806011 x806012 x806013 x806014 x806015 x806016 x806017 x806018 x806019 x806020 x806021 x806022 x806023 x806024 x806025 x871000 x871001 x871002 x871003 x871004 x871005 x871006 x871007 x871008 x871009 x871010 x871011 x871012 x871013 x871014 x871015 x871016 x871017 x871018 x871019 x871020 x871021 x871022 x871023 x871024 x871025) else (some false)))
def laws_FnExactWordPack.j2 : Nat → List Int → List Int → Int → Int → Int → Int → Int → Int → Int → Int → Int → Int → Int → Int → Int → Int → Int → Int → Int → Int → Int → Int → Int → Int → Int → Int → List (S146) → List (S148) → Int → Int → Int → Int → Int → Int → Int → Int → Int → Int → Int → Int → Int → Int → Int → Int → Int → Int → Int → Int → Int → Int → Int → Int → List (S138) → List (S140) → Option (Bool)
 | 0,_,_,_,_,_,_,_,_,_,_,_,_,_,_,_,_,_,_,_,_,_,_,_,_,_,_,_,_,_,_,_,_,_,_,_,_,_,_,_,_,_,_,_,_,_,_,_,_,_,_,_,_,_,_=>none
 | k+1,x4,x6,x806000,x806001,x806002,x806003,x806004,x806005,x806006,x806007,x806008,x806009,x806010,x806011,x806012,x806013,x806014,x806015,x806016,x806017,x806018,x806019,x806020,x806021,x806022,x806023,x806024,x806025,x871000,x871001,x871002,x871003,x871004,x871005,x871006,x871007,x871008,x871009,x871010,x871011,x871012,x871013,x871014,x871015,x871016,x871017,x871018,x871019,x871020,x871021,x871022,x871023,x871024,x871025=>(laws_markWord.f k x871000 x871001 x871002 x871003 x871004 x871005 x871006 x871007 x871008 x871009 x871010 x871011 x871012 x871013 x871014 x871015 x871016 x871017 x871018 x871019 x871020 x871021 x871022 x871023 x871024 x871025 1).bind fun bt906=>(if bt906.1<0 then (laws_FnExactWordPack.j3 k x4 x6 true x806000 x806001 x806002 x806003 x806004 x806005 x806006 x806007 x806008 x806009 x806010 x806011 x806012 x806013 x806014 x806015 x806016 x806017 x806018 x806019 x806020 x806021 x806022 x806023 x806024 x806025) else ((laws_eqByteS.f k x6 x4).bind fun t909=>(laws_FnExactWordPack.j3 k x4 x6 (!t909) x806000 x806001 x806002 x806003 x806004 x806005 x806006 x806007 x806008 x806009 x806010 x806011 x806012 x806013 x806014 x806015 x806016 x806017 x806018 x806019 x806020 x806021 x806022 x806023 x806024 x806025)))
def laws_FnExactWordPack.j3 : Nat → List Int → List Int → Bool → Int → Int → Int → Int → Int → Int → Int → Int → Int → Int → Int → Int → Int → Int → Int → Int → Int → Int → Int → Int → Int → Int → Int → Int → List (S146) → List (S148) → Option (Bool)
 | 0,_,_,_,_,_,_,_,_,_,_,_,_,_,_,_,_,_,_,_,_,_,_,_,_,_,_,_,_,_=>none
 | k+1,x4,x6,x42,x806000,x806001,x806002,x806003,x806004,x806005,x806006,x806007,x806008,x806009,x806010,x806011,x806012,x806013,x806014,x806015,x806016,x806017,x806018,x806019,x806020,x806021,x806022,x806023,x806024,x806025=>if x42=true then (some false) else (laws_FnExactWordPack.j4 k x4 x6 x806000 x806001 x806002 x806003 x806004 x806005 x806006 x806007 x806008 x806009 x806010 x806011 x806012 x806013 x806014 x806015 x806016 x806017 x806018 x806019 x806020 x806021 x806022 x806023 x806024 x806025)
def laws_FnExactWordPack.j4 : Nat → List Int → List Int → Int → Int → Int → Int → Int → Int → Int → Int → Int → Int → Int → Int → Int → Int → Int → Int → Int → Int → Int → Int → Int → Int → Int → Int → List (S146) → List (S148) → Option (Bool)
 | 0,_,_,_,_,_,_,_,_,_,_,_,_,_,_,_,_,_,_,_,_,_,_,_,_,_,_,_,_=>none
 | k+1,x4,x6,x806000,x806001,x806002,x806003,x806004,x806005,x806006,x806007,x806008,x806009,x806010,x806011,x806012,x806013,x806014,x806015,x806016,x806017,x806018,x806019,x806020,x806021,x806022,x806023,x806024,x806025=>(laws_markByteS.f k x6 1).bind fun bt910=>((laws_heldByteS.f k bt910.2 1).bind fun t912=>(if t912<0 then (some false) else (laws_FnExactWordPack.j5 k x4 bt910.2 bt910.1 t912 x806000 x806001 x806002 x806003 x806004 x806005 x806006 x806007 x806008 x806009 x806010 x806011 x806012 x806013 x806014 x806015 x806016 x806017 x806018 x806019 x806020 x806021 x806022 x806023 x806024 x806025)))
def laws_FnExactWordPack.j5 : Nat → List Int → List Int → Int → Int → Int → Int → Int → Int → Int → Int → Int → Int → Int → Int → Int → Int → Int → Int → Int → Int → Int → Int → Int → Int → Int → Int → Int → Int → List (S146) → List (S148) → Option (Bool)
 | 0,_,_,_,_,_,_,_,_,_,_,_,_,_,_,_,_,_,_,_,_,_,_,_,_,_,_,_,_,_,_=>none
 | k+1,x4,x6,x8,x9,x806000,x806001,x806002,x806003,x806004,x806005,x806006,x806007,x806008,x806009,x806010,x806011,x806012,x806013,x806014,x806015,x806016,x806017,x806018,x806019,x806020,x806021,x806022,x806023,x806024,x806025=>if x9=x8 then (laws_FnExactWordPack.j6 k x4 x6 x8 x806000 x806001 x806002 x806003 x806004 x806005 x806006 x806007 x806008 x806009 x806010 x806011 x806012 x806013 x806014 x806015 x806016 x806017 x806018 x806019 x806020 x806021 x806022 x806023 x806024 x806025) else (some false)
def laws_FnExactWordPack.j6 : Nat → List Int → List Int → Int → Int → Int → Int → Int → Int → Int → Int → Int → Int → Int → Int → Int → Int → Int → Int → Int → Int → Int → Int → Int → Int → Int → Int → Int → List (S146) → List (S148) → Option (Bool)
 | 0,_,_,_,_,_,_,_,_,_,_,_,_,_,_,_,_,_,_,_,_,_,_,_,_,_,_,_,_,_=>none
 | k+1,x4,x6,x8,x806000,x806001,x806002,x806003,x806004,x806005,x806006,x806007,x806008,x806009,x806010,x806011,x806012,x806013,x806014,x806015,x806016,x806017,x806018,x806019,x806020,x806021,x806022,x806023,x806024,x806025=>(laws_toWord.f k x806000 x806001 x806002 x806003 x806004 x806005 x806006 x806007 x806008 x806009 x806010 x806011 x806012 x806013 x806014 x806015 x806016 x806017 x806018 x806019 x806020 x806021 x806022 x806023 x806024 x806025).bind fun bt913=>((impl_WordPack.f k bt913.1 bt913.2.1 bt913.2.2.1 bt913.2.2.2.1 bt913.2.2.2.2.1 bt913.2.2.2.2.2.1 bt913.2.2.2.2.2.2.1 bt913.2.2.2.2.2.2.2.1 bt913.2.2.2.2.2.2.2.2.1 bt913.2.2.2.2.2.2.2.2.2.1 bt913.2.2.2.2.2.2.2.2.2.2.1 bt913.2.2.2.2.2.2.2.2.2.2.2.1 bt913.2.2.2.2.2.2.2.2.2.2.2.2.1 bt913.2.2.2.2.2.2.2.2.2.2.2.2.2.1 bt913.2.2.2.2.2.2.2.2.2.2.2.2.2.2.1 bt913.2.2.2.2.2.2.2.2.2.2.2.2.2.2.2.1 bt913.2.2.2.2.2.2.2.2.2.2.2.2.2.2.2.2.1 bt913.2.2.2.2.2.2.2.2.2.2.2.2.2.2.2.2.2.1 bt913.2.2.2.2.2.2.2.2.2.2.2.2.2.2.2.2.2.2.1 bt913.2.2.2.2.2.2.2.2.2.2.2.2.2.2.2.2.2.2.2.1 bt913.2.2.2.2.2.2.2.2.2.2.2.2.2.2.2.2.2.2.2.2.1 bt913.2.2.2.2.2.2.2.2.2.2.2.2.2.2.2.2.2.2.2.2.2.1 bt913.2.2.2.2.2.2.2.2.2.2.2.2.2.2.2.2.2.2.2.2.2.2.1 bt913.2.2.2.2.2.2.2.2.2.2.2.2.2.2.2.2.2.2.2.2.2.2.2.1 bt913.2.2.2.2.2.2.2.2.2.2.2.2.2.2.2.2.2.2.2.2.2.2.2.2.1 bt913.2.2.2.2.2.2.2.2.2.2.2.2.2.2.2.2.2.2.2.2.2.2.2.2.2).bind fun t943=>((laws_eqByteS.f k t943 x4).bind fun t946=>(if t946=true then (laws_FnExactWordPack.j7 k x6 x8) else (some false))))
def laws_FnExactWordPack.j7 : Nat → List Int → Int → Option (Bool)
 | 0,_,_=>none
 | k+1,x6,x8=>(laws_heldByteS.f k x6 1).bind fun t947=>(if t947<0 then (some false) else (if t947=x8 then (some true) else (some false)))
end
def laws_FnExactWordPack.f (k : Nat) (a0_0 : Int) (a0_1 : Int) (a0_2 : Int) (a0_3 : Int) (a0_4 : Int) (a0_5 : Int) (a0_6 : Int) (a0_7 : Int) (a0_8 : Int) (a0_9 : Int) (a0_10 : Int) (a0_11 : Int) (a0_12 : Int) (a0_13 : Int) (a0_14 : Int) (a0_15 : Int) (a0_16 : Int) (a0_17 : Int) (a0_18 : Int) (a0_19 : Int) (a0_20 : Int) (a0_21 : Int) (a0_22 : Int) (a0_23 : Int) (l0_24 : List (S146)) (l0_25 : List (S148)) : Option (Bool) := (laws_szWord.f a0_0 a0_1 a0_2 a0_3 a0_4 a0_5 a0_6 a0_7 a0_8 a0_9 a0_10 a0_11 a0_12 a0_13 a0_14 a0_15 a0_16 a0_17 a0_18 a0_19 a0_20 a0_21 a0_22 a0_23 l0_24 l0_25 1048576).bind fun t806 => (if t806 < 0 then (some true) else (laws_FnExactWordPack.j0 k a0_0 a0_1 a0_2 a0_3 a0_4 a0_5 a0_6 a0_7 a0_8 a0_9 a0_10 a0_11 a0_12 a0_13 a0_14 a0_15 a0_16 a0_17 a0_18 a0_19 a0_20 a0_21 a0_22 a0_23 l0_24 l0_25))
theorem laws_FnExactWordPack.mono_l : ∀ k, (∀ y0 y1 y2 y3 y4 y5 y6 y7 y8 y9 y10 y11 y12 y13 y14 y15 y16 y17 y18 y19 y20 y21 y22 y23 y24 y25, LeO (laws_FnExactWordPack.j0 k y0 y1 y2 y3 y4 y5 y6 y7 y8 y9 y10 y11 y12 y13 y14 y15 y16 y17 y18 y19 y20 y21 y22 y23 y24 y25) (laws_FnExactWordPack.j0 (k + 1) y0 y1 y2 y3 y4 y5 y6 y7 y8 y9 y10 y11 y12 y13 y14 y15 y16 y17 y18 y19 y20 y21 y22 y23 y24 y25)) ∧ (∀ y0 y1 y2 y3 y4 y5 y6 y7 y8 y9 y10 y11 y12 y13 y14 y15 y16 y17 y18 y19 y20 y21 y22 y23 y24 y25 y26 y27 y28 y29 y30 y31 y32 y33 y34 y35 y36 y37 y38 y39 y40 y41 y42 y43 y44 y45 y46 y47 y48 y49 y50 y51 y52 y53, LeO (laws_FnExactWordPack.j1 k y0 y1 y2 y3 y4 y5 y6 y7 y8 y9 y10 y11 y12 y13 y14 y15 y16 y17 y18 y19 y20 y21 y22 y23 y24 y25 y26 y27 y28 y29 y30 y31 y32 y33 y34 y35 y36 y37 y38 y39 y40 y41 y42 y43 y44 y45 y46 y47 y48 y49 y50 y51 y52 y53) (laws_FnExactWordPack.j1 (k + 1) y0 y1 y2 y3 y4 y5 y6 y7 y8 y9 y10 y11 y12 y13 y14 y15 y16 y17 y18 y19 y20 y21 y22 y23 y24 y25 y26 y27 y28 y29 y30 y31 y32 y33 y34 y35 y36 y37 y38 y39 y40 y41 y42 y43 y44 y45 y46 y47 y48 y49 y50 y51 y52 y53)) ∧ (∀ y0 y1 y2 y3 y4 y5 y6 y7 y8 y9 y10 y11 y12 y13 y14 y15 y16 y17 y18 y19 y20 y21 y22 y23 y24 y25 y26 y27 y28 y29 y30 y31 y32 y33 y34 y35 y36 y37 y38 y39 y40 y41 y42 y43 y44 y45 y46 y47 y48 y49 y50 y51 y52 y53, LeO (laws_FnExactWordPack.j2 k y0 y1 y2 y3 y4 y5 y6 y7 y8 y9 y10 y11 y12 y13 y14 y15 y16 y17 y18 y19 y20 y21 y22 y23 y24 y25 y26 y27 y28 y29 y30 y31 y32 y33 y34 y35 y36 y37 y38 y39 y40 y41 y42 y43 y44 y45 y46 y47 y48 y49 y50 y51 y52 y53) (laws_FnExactWordPack.j2 (k + 1) y0 y1 y2 y3 y4 y5 y6 y7 y8 y9 y10 y11 y12 y13 y14 y15 y16 y17 y18 y19 y20 y21 y22 y23 y24 y25 y26 y27 y28 y29 y30 y31 y32 y33 y34 y35 y36 y37 y38 y39 y40 y41 y42 y43 y44 y45 y46 y47 y48 y49 y50 y51 y52 y53)) ∧ (∀ y0 y1 y2 y3 y4 y5 y6 y7 y8 y9 y10 y11 y12 y13 y14 y15 y16 y17 y18 y19 y20 y21 y22 y23 y24 y25 y26 y27 y28, LeO (laws_FnExactWordPack.j3 k y0 y1 y2 y3 y4 y5 y6 y7 y8 y9 y10 y11 y12 y13 y14 y15 y16 y17 y18 y19 y20 y21 y22 y23 y24 y25 y26 y27 y28) (laws_FnExactWordPack.j3 (k + 1) y0 y1 y2 y3 y4 y5 y6 y7 y8 y9 y10 y11 y12 y13 y14 y15 y16 y17 y18 y19 y20 y21 y22 y23 y24 y25 y26 y27 y28)) ∧ (∀ y0 y1 y2 y3 y4 y5 y6 y7 y8 y9 y10 y11 y12 y13 y14 y15 y16 y17 y18 y19 y20 y21 y22 y23 y24 y25 y26 y27, LeO (laws_FnExactWordPack.j4 k y0 y1 y2 y3 y4 y5 y6 y7 y8 y9 y10 y11 y12 y13 y14 y15 y16 y17 y18 y19 y20 y21 y22 y23 y24 y25 y26 y27) (laws_FnExactWordPack.j4 (k + 1) y0 y1 y2 y3 y4 y5 y6 y7 y8 y9 y10 y11 y12 y13 y14 y15 y16 y17 y18 y19 y20 y21 y22 y23 y24 y25 y26 y27)) ∧ (∀ y0 y1 y2 y3 y4 y5 y6 y7 y8 y9 y10 y11 y12 y13 y14 y15 y16 y17 y18 y19 y20 y21 y22 y23 y24 y25 y26 y27 y28 y29, LeO (laws_FnExactWordPack.j5 k y0 y1 y2 y3 y4 y5 y6 y7 y8 y9 y10 y11 y12 y13 y14 y15 y16 y17 y18 y19 y20 y21 y22 y23 y24 y25 y26 y27 y28 y29) (laws_FnExactWordPack.j5 (k + 1) y0 y1 y2 y3 y4 y5 y6 y7 y8 y9 y10 y11 y12 y13 y14 y15 y16 y17 y18 y19 y20 y21 y22 y23 y24 y25 y26 y27 y28 y29)) ∧ (∀ y0 y1 y2 y3 y4 y5 y6 y7 y8 y9 y10 y11 y12 y13 y14 y15 y16 y17 y18 y19 y20 y21 y22 y23 y24 y25 y26 y27 y28, LeO (laws_FnExactWordPack.j6 k y0 y1 y2 y3 y4 y5 y6 y7 y8 y9 y10 y11 y12 y13 y14 y15 y16 y17 y18 y19 y20 y21 y22 y23 y24 y25 y26 y27 y28) (laws_FnExactWordPack.j6 (k + 1) y0 y1 y2 y3 y4 y5 y6 y7 y8 y9 y10 y11 y12 y13 y14 y15 y16 y17 y18 y19 y20 y21 y22 y23 y24 y25 y26 y27 y28)) ∧ (∀ y0 y1, LeO (laws_FnExactWordPack.j7 k y0 y1) (laws_FnExactWordPack.j7 (k + 1) y0 y1))
 | 0=>⟨fun _ _ _ _ _ _ _ _ _ _ _ _ _ _ _ _ _ _ _ _ _ _ _ _ _ _ r h=>by simp [laws_FnExactWordPack.j0] at h,fun _ _ _ _ _ _ _ _ _ _ _ _ _ _ _ _ _ _ _ _ _ _ _ _ _ _ _ _ _ _ _ _ _ _ _ _ _ _ _ _ _ _ _ _ _ _ _ _ _ _ _ _ _ _ r h=>by simp [laws_FnExactWordPack.j1] at h,fun _ _ _ _ _ _ _ _ _ _ _ _ _ _ _ _ _ _ _ _ _ _ _ _ _ _ _ _ _ _ _ _ _ _ _ _ _ _ _ _ _ _ _ _ _ _ _ _ _ _ _ _ _ _ r h=>by simp [laws_FnExactWordPack.j2] at h,fun _ _ _ _ _ _ _ _ _ _ _ _ _ _ _ _ _ _ _ _ _ _ _ _ _ _ _ _ _ r h=>by simp [laws_FnExactWordPack.j3] at h,fun _ _ _ _ _ _ _ _ _ _ _ _ _ _ _ _ _ _ _ _ _ _ _ _ _ _ _ _ r h=>by simp [laws_FnExactWordPack.j4] at h,fun _ _ _ _ _ _ _ _ _ _ _ _ _ _ _ _ _ _ _ _ _ _ _ _ _ _ _ _ _ _ r h=>by simp [laws_FnExactWordPack.j5] at h,fun _ _ _ _ _ _ _ _ _ _ _ _ _ _ _ _ _ _ _ _ _ _ _ _ _ _ _ _ _ r h=>by simp [laws_FnExactWordPack.j6] at h,fun _ _ r h=>by simp [laws_FnExactWordPack.j7] at h⟩
 | k+1=>by
  obtain ⟨ih0,ih1,ih2,ih3,ih4,ih5,ih6,ih7⟩:=laws_FnExactWordPack.mono_l k;refine ⟨?_,?_,?_,?_,?_,?_,?_,?_⟩
  ·intros
   unfold laws_FnExactWordPack.j0
   repeat' first
   | (with_reducible first|apply ih0|apply ih1|apply ih2|apply ih3|apply ih4|apply ih5|apply ih6|apply ih7|apply impl_WordPack.mono|apply laws_eqByteS.mono|apply laws_eqWord.mono|apply laws_heldByteS.mono|apply laws_markByteS.mono|apply laws_markWord.mono|apply laws_toWord.mono|apply spec_WordPack.mono|exact LeO.refl _|exact LeO.none _|refine LeO.ite ?_ ?_|refine LeO.bind ?_ (fun _=>?_))|exact LeO.none _|refine LeO.ite ?_ ?_|refine LeO.bind ?_ (fun _=>?_)
  ·intros
   unfold laws_FnExactWordPack.j1
   repeat' first
   | (with_reducible first|apply ih0|apply ih1|apply ih2|apply ih3|apply ih4|apply ih5|apply ih6|apply ih7|apply impl_WordPack.mono|apply laws_eqByteS.mono|apply laws_eqWord.mono|apply laws_heldByteS.mono|apply laws_markByteS.mono|apply laws_markWord.mono|apply laws_toWord.mono|apply spec_WordPack.mono|exact LeO.refl _|exact LeO.none _|refine LeO.ite ?_ ?_|refine LeO.bind ?_ (fun _=>?_))|exact LeO.none _|refine LeO.ite ?_ ?_|refine LeO.bind ?_ (fun _=>?_)
  ·intros
   unfold laws_FnExactWordPack.j2
   repeat' first
   | (with_reducible first|apply ih0|apply ih1|apply ih2|apply ih3|apply ih4|apply ih5|apply ih6|apply ih7|apply impl_WordPack.mono|apply laws_eqByteS.mono|apply laws_eqWord.mono|apply laws_heldByteS.mono|apply laws_markByteS.mono|apply laws_markWord.mono|apply laws_toWord.mono|apply spec_WordPack.mono|exact LeO.refl _|exact LeO.none _|refine LeO.ite ?_ ?_|refine LeO.bind ?_ (fun _=>?_))|exact LeO.none _|refine LeO.ite ?_ ?_|refine LeO.bind ?_ (fun _=>?_)
  ·intros
   unfold laws_FnExactWordPack.j3
   repeat' first
   | (with_reducible first|apply ih0|apply ih1|apply ih2|apply ih3|apply ih4|apply ih5|apply ih6|apply ih7|apply impl_WordPack.mono|apply laws_eqByteS.mono|apply laws_eqWord.mono|apply laws_heldByteS.mono|apply laws_markByteS.mono|apply laws_markWord.mono|apply laws_toWord.mono|apply spec_WordPack.mono|exact LeO.refl _|exact LeO.none _|refine LeO.ite ?_ ?_|refine LeO.bind ?_ (fun _=>?_))|exact LeO.none _|refine LeO.ite ?_ ?_|refine LeO.bind ?_ (fun _=>?_)
  ·intros
   unfold laws_FnExactWordPack.j4
   repeat' first
   | (with_reducible first|apply ih0|apply ih1|apply ih2|apply ih3|apply ih4|apply ih5|apply ih6|apply ih7|apply impl_WordPack.mono|apply laws_eqByteS.mono|apply laws_eqWord.mono|apply laws_heldByteS.mono|apply laws_markByteS.mono|apply laws_markWord.mono|apply laws_toWord.mono|apply spec_WordPack.mono|exact LeO.refl _|exact LeO.none _|refine LeO.ite ?_ ?_|refine LeO.bind ?_ (fun _=>?_))|exact LeO.none _|refine LeO.ite ?_ ?_|refine LeO.bind ?_ (fun _=>?_)
  ·intros
   unfold laws_FnExactWordPack.j5
   repeat' first
   | (with_reducible first|apply ih0|apply ih1|apply ih2|apply ih3|apply ih4|apply ih5|apply ih6|apply ih7|apply impl_WordPack.mono|apply laws_eqByteS.mono|apply laws_eqWord.mono|apply laws_heldByteS.mono|apply laws_markByteS.mono|apply laws_markWord.mono|apply laws_toWord.mono|apply spec_WordPack.mono|exact LeO.refl _|exact LeO.none _|refine LeO.ite ?_ ?_|refine LeO.bind ?_ (fun _=>?_))|exact LeO.none _|refine LeO.ite ?_ ?_|refine LeO.bind ?_ (fun _=>?_)
  ·intros
   unfold laws_FnExactWordPack.j6
   repeat' first
   | (with_reducible first|apply ih0|apply ih1|apply ih2|apply ih3|apply ih4|apply ih5|apply ih6|apply ih7|apply impl_WordPack.mono|apply laws_eqByteS.mono|apply laws_eqWord.mono|apply laws_heldByteS.mono|apply laws_markByteS.mono|apply laws_markWord.mono|apply laws_toWord.mono|apply spec_WordPack.mono|exact LeO.refl _|exact LeO.none _|refine LeO.ite ?_ ?_|refine LeO.bind ?_ (fun _=>?_))|exact LeO.none _|refine LeO.ite ?_ ?_|refine LeO.bind ?_ (fun _=>?_)
  ·intros
   unfold laws_FnExactWordPack.j7
   repeat' first
   | (with_reducible first|apply ih0|apply ih1|apply ih2|apply ih3|apply ih4|apply ih5|apply ih6|apply ih7|apply impl_WordPack.mono|apply laws_eqByteS.mono|apply laws_eqWord.mono|apply laws_heldByteS.mono|apply laws_markByteS.mono|apply laws_markWord.mono|apply laws_toWord.mono|apply spec_WordPack.mono|exact LeO.refl _|exact LeO.none _|refine LeO.ite ?_ ?_|refine LeO.bind ?_ (fun _=>?_))|exact LeO.none _|refine LeO.ite ?_ ?_|refine LeO.bind ?_ (fun _=>?_)
theorem laws_FnExactWordPack.mono : ∀ a0 a1 a2 a3 a4 a5 a6 a7 a8 a9 a10 a11 a12 a13 a14 a15 a16 a17 a18 a19 a20 a21 a22 a23 a24 a25 k, LeO (laws_FnExactWordPack.f k a0 a1 a2 a3 a4 a5 a6 a7 a8 a9 a10 a11 a12 a13 a14 a15 a16 a17 a18 a19 a20 a21 a22 a23 a24 a25) (laws_FnExactWordPack.f (k + 1) a0 a1 a2 a3 a4 a5 a6 a7 a8 a9 a10 a11 a12 a13 a14 a15 a16 a17 a18 a19 a20 a21 a22 a23 a24 a25) := by
 intro a0 a1 a2 a3 a4 a5 a6 a7 a8 a9 a10 a11 a12 a13 a14 a15 a16 a17 a18 a19 a20 a21 a22 a23 a24 a25 k;obtain ⟨ih0,ih1,ih2,ih3,ih4,ih5,ih6,ih7⟩:=laws_FnExactWordPack.mono_l k
 unfold laws_FnExactWordPack.f
 repeat' first
   | (with_reducible first|apply ih0|apply ih1|apply ih2|apply ih3|apply ih4|apply ih5|apply ih6|apply ih7|apply impl_WordPack.mono|apply laws_eqByteS.mono|apply laws_eqWord.mono|apply laws_heldByteS.mono|apply laws_markByteS.mono|apply laws_markWord.mono|apply laws_toWord.mono|apply spec_WordPack.mono|exact LeO.refl _|exact LeO.none _|refine LeO.ite ?_ ?_|refine LeO.bind ?_ (fun _=>?_))|exact LeO.none _|refine LeO.ite ?_ ?_|refine LeO.bind ?_ (fun _=>?_)
set_option maxHeartbeats 8000000 in
set_option maxRecDepth 100000 in
theorem laws_FnExactWordPack.calls {k : Nat} {a0_0 : Int} {a0_1 : Int} {a0_2 : Int} {a0_3 : Int} {a0_4 : Int} {a0_5 : Int} {a0_6 : Int} {a0_7 : Int} {a0_8 : Int} {a0_9 : Int} {a0_10 : Int} {a0_11 : Int} {a0_12 : Int} {a0_13 : Int} {a0_14 : Int} {a0_15 : Int} {a0_16 : Int} {a0_17 : Int} {a0_18 : Int} {a0_19 : Int} {a0_20 : Int} {a0_21 : Int} {a0_22 : Int} {a0_23 : Int} {A0_24 : Option Addr} {c0_24 : Nat} {l0_24 : List (S146)} {A0_25 : Option Addr} {c0_25 : Nat} {l0_25 : List (S148)} {r : Bool} {w : World} (hr0_24 : Kd.C k146 w A0_24 l0_24.length l0_24) (hc0_24 : l0_24.length ≤ c0_24) (hr0_25 : Kd.C k148 w A0_25 l0_25.length l0_25) (hc0_25 : l0_25.length ≤ c0_25) (h : laws_FnExactWordPack.f k a0_0 a0_1 a0_2 a0_3 a0_4 a0_5 a0_6 a0_7 a0_8 a0_9 a0_10 a0_11 a0_12 a0_13 a0_14 a0_15 a0_16 a0_17 a0_18 a0_19 a0_20 a0_21 a0_22 a0_23 l0_24 l0_25 = some r) :
  Calls Try.prog 5 #[.agg #[.int .i64 a0_0,.int .i64 a0_1,.int .i64 a0_2,.int .i64 a0_3,.int .i64 a0_4,.int .i64 a0_5,.int .i64 a0_6,.int .i64 a0_7,.int .i64 a0_8,.int .i64 a0_9,.int .i64 a0_10,.int .i64 a0_11,.int .i64 a0_12,.int .i64 a0_13,.int .i64 a0_14,.int .i64 a0_15,.int .i64 a0_16,.int .i64 a0_17,.int .i64 a0_18,.int .i64 a0_19,.int .i64 a0_20,.int .i64 a0_21,.int .i64 a0_22,.int .i64 a0_23,.slice A0_24 l0_24.length c0_24,.slice A0_25 l0_25.length c0_25]] w fun e w'=>e=.returned (.bool r)∧Below w.heap.size w w':=by
 have hu36:=Try.underlying36;have hu28:=Try.underlying28;have HR0_24:=mA hr0_24;have HC0_24:=mA hc0_24;clear hr0_24 hc0_24;have HR0_25:=mA hr0_25;have HC0_25:=mA hc0_25;clear hr0_25 hc0_25;have HB:=mA (Below.refl w.heap.size w);have H:((laws_szWord.f a0_0 a0_1 a0_2 a0_3 a0_4 a0_5 a0_6 a0_7 a0_8 a0_9 a0_10 a0_11 a0_12 a0_13 a0_14 a0_15 a0_16 a0_17 a0_18 a0_19 a0_20 a0_21 a0_22 a0_23 l0_24 l0_25 1048576).bind fun t806=>(if t806<0 then (some true) else (laws_FnExactWordPack.j0 k a0_0 a0_1 a0_2 a0_3 a0_4 a0_5 a0_6 a0_7 a0_8 a0_9 a0_10 a0_11 a0_12 a0_13 a0_14 a0_15 a0_16 a0_17 a0_18 a0_19 a0_20 a0_21 a0_22 a0_23 l0_24 l0_25)))=some r:=h;clear h;obtain ⟨t806,A2,H⟩:=bI H;(try dsimp only at H);have HC3:=mA H;clear H
 go_enter Try.func5,Try.ntmps5
 go_upto_if 15 with (first|((with_reducible refine gLg rfl (by assumption) ?_);refine ldV ?_)|((with_reducible refine gSt rfl (by assumption) ?_);refine stV ?_)|((with_reducible refine gT 1 rfl ?_);refine bE 1 #[.int .i64 a0_0,.int .i64 a0_1,.int .i64 a0_2,.int .i64 a0_3,.int .i64 a0_4,.int .i64 a0_5,.int .i64 a0_6,.int .i64 a0_7,.int .i64 a0_8,.int .i64 a0_9,.int .i64 a0_10,.int .i64 a0_11,.int .i64 a0_12,.int .i64 a0_13,.int .i64 a0_14,.int .i64 a0_15,.int .i64 a0_16,.int .i64 a0_17,.int .i64 a0_18,.int .i64 a0_19,.int .i64 a0_20,.int .i64 a0_21,.int .i64 a0_22,.int .i64 a0_23,.slice A0_24 l0_24.length c0_24,.slice A0_25 l0_25.length c0_25] 36 ?_;intro gb805 hg w4 hbox hb;have BK805:=mA hbox;have GW805:=gbpB HB hg;have GE805:=gbpB HB hg;replace HB:=spB HB hb;clear hb hbox hg;have hcz5_0:=fun i_=>blk_cell BK805.out i_;have hfz5_0:=fun i_=>blk_frozen BK805.out i_)|((with_reducible refine gT 13 rfl ?_);refine gC (some 13) Try.func16 (laws_szWord.calls (cB HR0_24 HB) HC0_24.out (cB HR0_25 HB) HC0_25.out A2.out) ?_;rintro e w6 ⟨rfl,hb⟩;refine ⟨_,rfl,?_⟩;replace BK805:=bK BK805 hb;replace HB:=spS HB hb;(try clear hb)))
 (try simp only [Act.put,List.setIfInBounds_toArray,List.set_cons_zero,List.set_cons_succ])
 go_cut [] (fun wc=>∃ (kq:Nat),Aside0 (laws_FnExactWordPack.j0 kq a0_0 a0_1 a0_2 a0_3 a0_4 a0_5 a0_6 a0_7 a0_8 a0_9 a0_10 a0_11 a0_12 a0_13 a0_14 a0_15 a0_16 a0_17 a0_18 a0_19 a0_20 a0_21 a0_22 a0_23 l0_24 l0_25=some r)∧Aside0 (kq≤k)∧Aside0 (wc.heap[gb805]?=some (.cells #[.int .i64 a0_0,.int .i64 a0_1,.int .i64 a0_2,.int .i64 a0_3,.int .i64 a0_4,.int .i64 a0_5,.int .i64 a0_6,.int .i64 a0_7,.int .i64 a0_8,.int .i64 a0_9,.int .i64 a0_10,.int .i64 a0_11,.int .i64 a0_12,.int .i64 a0_13,.int .i64 a0_14,.int .i64 a0_15,.int .i64 a0_16,.int .i64 a0_17,.int .i64 a0_18,.int .i64 a0_19,.int .i64 a0_20,.int .i64 a0_21,.int .i64 a0_22,.int .i64 a0_23,(.slice A0_24 l0_24.length c0_24),(.slice A0_25 l0_25.length c0_25)] 36 (0,0)))∧Aside0 (Below w.heap.size w wc))
 case first =>
  have H:=HC3.out;clear HC3
  by_cases c7:t806<0
  ·rw [if_pos c7] at H;have c7b0:decide (t806<0)=true:=decide_eq_true c7;clear c7
   (first|rw [c7b0]|(simp only [i64_w,i32_w];rw [c7b0])|skip)
   obtain rfl:=Option.some.inj H
   go_wp2_with (first|((with_reducible refine gLg rfl (by assumption) ?_);refine ldV ?_)|((with_reducible refine gSt rfl (by assumption) ?_);refine stV ?_))
   go_ret
   exact rZ (pS HB.out)
  ·rw [if_neg c7] at H;have c7b0:decide (t806<0)=false:=decide_eq_false c7;clear c7
   (first|rw [c7b0]|(simp only [i64_w,i32_w];rw [c7b0])|skip)
   have H':=mA H;clear H
   go_wp2_with (first|((with_reducible refine gLg rfl (by assumption) ?_);refine ldV ?_)|((with_reducible refine gSt rfl (by assumption) ?_);refine stV ?_))
   go_meet
   case rel=>exact ⟨_,H',⟨by first|omega|exact Nat.le_refl _⟩,⟨pK BK805.out⟩,⟨pS HB.out⟩⟩
 case rest =>
  clear HC3
  (try clear hcz5_0);(try clear hfz5_0)
  obtain ⟨kq,HA,HJ2,BK805,HB⟩:=hcut
  cases kq with
  | zero=>exact absurd HA.out (by simp [laws_FnExactWordPack.j0])
  | succ kj2 =>
   have H:=HA.out;clear HA;simp only [laws_FnExactWordPack.j0] at H;obtain ⟨⟨t807,t808,t809,t810,t811,t812,t813,t814,t815,t816,t817,t818,t819,t820,t821,t822,t823,t824,t825,t826,t827,t828,t829,t830,t831,t834⟩,A8,H⟩:=bI H;(try dsimp only at H);obtain ⟨t837,A9,H⟩:=bI H;(try dsimp only at H);obtain ⟨⟨t840,t841,t842,t843,t844,t845,t846,t847,t848,t849,t850,t851,t852,t853,t854,t855,t856,t857,t858,t859,t860,t861,t862,t863,t864,t867⟩,A10,H⟩:=bI H;(try dsimp only at H);obtain ⟨t871,A11,H⟩:=bI H;(try dsimp only at H);obtain ⟨t874,A12,H⟩:=bI H;(try dsimp only at H);have HC13:=mA H;clear H;have hcz14_0:=fun i_=>blk_cell BK805.out i_;have hfz14_0:=fun i_=>blk_frozen BK805.out i_
   go_upto_if 26 with (first|((with_reducible refine gLg rfl (by assumption) ?_);refine ldV ?_)|((with_reducible refine gSt rfl (by assumption) ?_);refine stV ?_)|((with_reducible refine gT 17 rfl ?_);refine gC (some 17) Try.func18 (laws_toWord.calls (cB HR0_24 HB) HC0_24.out (cB HR0_25 HB) HC0_25.out A8.out) ?_;rintro e w15 ⟨v832,v835,rfl,ho0,ho1,hb⟩;refine ⟨_,rfl,?_⟩;have HO833:=mA (Kd.R_lower ho0 (bpS HB));have HO836:=mA (Kd.R_lower ho1 (bpS HB));replace BK805:=bK BK805 hb;replace HB:=spS HB hb;(try clear hb);(try clear ho0);(try clear ho1);obtain ⟨Ao16,co16,rfl⟩:=Kd.R_slice HO833.out;obtain ⟨Ao17,co17,rfl⟩:=Kd.R_slice HO836.out)|((with_reducible refine gT 18 rfl ?_);refine gC (some 18) Try.func14 (spec_WordPack.calls (cR HO833) (cL HO833) (cR HO836) (cL HO836) A9.out) ?_;rintro e w18 ⟨v838,rfl,ho0,hb⟩;refine ⟨_,rfl,?_⟩;replace HO833:=rB HO833 hb;replace HO836:=rB HO836 hb;have HO839:=mA (Kd.R_lower ho0 (bpS HB));replace BK805:=bK BK805 hb;replace HB:=spS HB hb;(try clear hb);(try clear ho0);have hcz19_0:=fun i_=>blk_cell BK805.out i_;have hfz19_0:=fun i_=>blk_frozen BK805.out i_)|((with_reducible refine gT 20 rfl ?_);refine gC (some 20) Try.func18 (laws_toWord.calls (cB HR0_24 HB) HC0_24.out (cB HR0_25 HB) HC0_25.out A10.out) ?_;rintro e w20 ⟨v865,v868,rfl,ho0,ho1,hb⟩;refine ⟨_,rfl,?_⟩;replace HO839:=rB HO839 hb;have HO866:=mA (Kd.R_lower (Kd.R_new' ho0 (rL HO833)) (bpS HB));replace HO833:=rE HO833 ho0 hb;have HO869:=mA (Kd.R_lower (Kd.R_new' ho1 (rL HO836)) (bpS HB));replace HO836:=rE HO836 ho1 hb;replace BK805:=bK BK805 hb;replace HB:=spS HB hb;(try clear hb);(try clear ho0);(try clear ho1))|((with_reducible refine gT 5 rfl ?_);refine bE 5 #[.int .i64 0,.int .i64 0,.int .i64 0,.int .i64 0,.int .i64 0,.int .i64 0,.int .i64 0,.int .i64 0,.int .i64 0,.int .i64 0,.int .i64 0,.int .i64 0,.int .i64 0,.int .i64 0,.int .i64 0,.int .i64 0,.int .i64 0,.int .i64 0,.int .i64 0,.int .i64 0,.int .i64 0,.int .i64 0,.int .i64 0,.int .i64 0,.slice none 0 0,.slice none 0 0] 28 ?_;intro gb870 hg w21 hbox hb;replace HO833:=rB HO833 hb;replace HO836:=rB HO836 hb;replace HO839:=rB HO839 hb;replace HO866:=rB HO866 hb;replace HO869:=rB HO869 hb;have BK870:=mA hbox;have GW870:=gbpS HB hg;have GE870:=gbpS HB hg;replace HB:=spS HB hb;have NB805_870:=mA (lN (blk_lt (pK BK805.out)) hg);have NB870_805:=nS NB805_870;replace BK805:=bK BK805 hb;clear hb hbox hg;have hnb22:=NB870_805.out;have hnc22:=NB805_870.out;have hcz23_0:=fun i_=>blk_cell BK870.out i_;have hfz23_0:=fun i_=>blk_frozen BK870.out i_;obtain ⟨Ao24,co24,rfl⟩:=Kd.R_slice HO866.out;obtain ⟨Ao25,co25,rfl⟩:=Kd.R_slice HO869.out)|((with_reducible refine gT 22 rfl ?_);refine gC (some 22) Try.func15 (impl_WordPack.calls ?s1 (cL HO866) ?s3 (cL HO869) A11.out) ?_;(case s1=>refine (Kd.R_reads' (e:=138) (base:=w.heap.size) (ok:=fun k_=>(True∧some k_≠(.slice Ao16 t831.length co16:Value).ownBlock)) (n:=t864.length) (c:=co24) ?_).2.2;exact (pG HO866 BK870));(case s3=>refine (Kd.R_reads' (e:=140) (base:=w.heap.size) (ok:=fun k_=>(True∧some k_≠(.slice Ao17 t834.length co17:Value).ownBlock)) (n:=t867.length) (c:=co25) ?_).2.2;exact (pG HO869 BK870));rintro e w26 ⟨v872,rfl,ho0,hb⟩;refine ⟨_,rfl,?_⟩;replace HO833:=mA (Kd.R_below (pG HO833 BK870) hb);replace HO836:=mA (Kd.R_below (pG HO836 BK870) hb);replace HO866:=mA (Kd.R_below (pG HO866 BK870) hb);replace HO869:=mA (Kd.R_below (pG HO869 BK870) hb);have HO873:=mA (Kd.R_lower (Kd.R_new' ho0 (Kd.R_lt (pG HO839 BK870))) (bpS HB));replace HO839:=mA (Kd.R_elder' (pG HO839 BK870) (Kd.R_base ho0) hb);replace BK805:=mA (blk_below (g:=gb805) (o:=.cells #[.int .i64 a0_0,.int .i64 a0_1,.int .i64 a0_2,.int .i64 a0_3,.int .i64 a0_4,.int .i64 a0_5,.int .i64 a0_6,.int .i64 a0_7,.int .i64 a0_8,.int .i64 a0_9,.int .i64 a0_10,.int .i64 a0_11,.int .i64 a0_12,.int .i64 a0_13,.int .i64 a0_14,.int .i64 a0_15,.int .i64 a0_16,.int .i64 a0_17,.int .i64 a0_18,.int .i64 a0_19,.int .i64 a0_20,.int .i64 a0_21,.int .i64 a0_22,.int .i64 a0_23,.slice A0_24 l0_24.length c0_24,.slice A0_25 l0_25.length c0_25] 36 (0,0)) (pF BK805.out) hb);replace BK870:=mA (blk_below (g:=gb870) (o:=.cells #[.int .i64 t840,.int .i64 t841,.int .i64 t842,.int .i64 t843,.int .i64 t844,.int .i64 t845,.int .i64 t846,.int .i64 t847,.int .i64 t848,.int .i64 t849,.int .i64 t850,.int .i64 t851,.int .i64 t852,.int .i64 t853,.int .i64 t854,.int .i64 t855,.int .i64 t856,.int .i64 t857,.int .i64 t858,.int .i64 t859,.int .i64 t860,.int .i64 t861,.int .i64 t862,.int .i64 t863,.slice Ao24 t864.length co24,.slice Ao25 t867.length co25] 28 (0,0)) (pP BK870) hb);replace HB:=spS HB hb;(try clear hb);(try clear ho0);obtain ⟨Ao27,co27,rfl⟩:=Kd.R_slice HO873.out;obtain ⟨Ao28,co28,rfl⟩:=Kd.R_slice HO839.out)|((with_reducible refine gT 25 rfl ?_);refine gC (some 25) Try.func21 (laws_eqByteS.calls (cR HO873) (cL HO873) (cR HO839) (cL HO839) A12.out) ?_;rintro e w' ⟨rfl,⟨nd,rfl⟩⟩;refine ⟨_,rfl,?_⟩))
   (try simp only [Act.put,List.setIfInBounds_toArray,List.set_cons_zero,List.set_cons_succ])
   go_cut [] (fun wc=>∃ (kq:Nat),Aside0 (laws_FnExactWordPack.j1 kq t837 t871 a0_0 a0_1 a0_2 a0_3 a0_4 a0_5 a0_6 a0_7 a0_8 a0_9 a0_10 a0_11 a0_12 a0_13 a0_14 a0_15 a0_16 a0_17 a0_18 a0_19 a0_20 a0_21 a0_22 a0_23 l0_24 l0_25 t840 t841 t842 t843 t844 t845 t846 t847 t848 t849 t850 t851 t852 t853 t854 t855 t856 t857 t858 t859 t860 t861 t862 t863 t864 t867=some r)∧Aside0 (kq≤kj2)∧Aside0 (Kd.R (Kd.int .u8) 5 wc w.heap.size (fun k_=>some k_≠((.slice Ao27 t871.length co27):Value).ownBlock) (.slice Ao28 t837.length co28) t837)∧Aside0 (Kd.R (Kd.int .u8) 5 wc w.heap.size (fun k_=>some k_≠((.slice Ao28 t837.length co28):Value).ownBlock) (.slice Ao27 t871.length co27) t871)∧Aside0 (Kd.R k138 138 wc w.heap.size (fun _=>True) (.slice Ao24 t864.length co24) t864)∧Aside0 (Kd.R k140 140 wc w.heap.size (fun _=>True) (.slice Ao25 t867.length co25) t867)∧Aside0 (wc.heap[gb805]?=some (.cells #[.int .i64 a0_0,.int .i64 a0_1,.int .i64 a0_2,.int .i64 a0_3,.int .i64 a0_4,.int .i64 a0_5,.int .i64 a0_6,.int .i64 a0_7,.int .i64 a0_8,.int .i64 a0_9,.int .i64 a0_10,.int .i64 a0_11,.int .i64 a0_12,.int .i64 a0_13,.int .i64 a0_14,.int .i64 a0_15,.int .i64 a0_16,.int .i64 a0_17,.int .i64 a0_18,.int .i64 a0_19,.int .i64 a0_20,.int .i64 a0_21,.int .i64 a0_22,.int .i64 a0_23,(.slice A0_24 l0_24.length c0_24),(.slice A0_25 l0_25.length c0_25)] 36 (0,0)))∧Aside0 (wc.heap[gb870]?=some (.cells #[.int .i64 t840,.int .i64 t841,.int .i64 t842,.int .i64 t843,.int .i64 t844,.int .i64 t845,.int .i64 t846,.int .i64 t847,.int .i64 t848,.int .i64 t849,.int .i64 t850,.int .i64 t851,.int .i64 t852,.int .i64 t853,.int .i64 t854,.int .i64 t855,.int .i64 t856,.int .i64 t857,.int .i64 t858,.int .i64 t859,.int .i64 t860,.int .i64 t861,.int .i64 t862,.int .i64 t863,(.slice Ao24 t864.length co24),(.slice Ao25 t867.length co25)] 28 (0,0)))∧Aside0 (Below w.heap.size w wc))
   case first =>
    have H:=HC13.out;clear HC13
    by_cases c29:t874=true
    ·subst c29;rw [if_pos rfl] at H;have H':=mA H;clear H
     go_wp2_with (first|((with_reducible refine gLg rfl (by assumption) ?_);refine ldV ?_)|((with_reducible refine gSt rfl (by assumption) ?_);refine stV ?_))
     go_meet
     case rel=>exact ⟨_,H',⟨by have:=HJ2.out;first|omega|exact Nat.le_refl _⟩,⟨pR (Kd.R_mono HO839.out (fun _ hk=>hk.2))⟩,⟨pR (Kd.R_mono HO873.out (fun _ hk=>hk.2))⟩,⟨pR (Kd.R_mono HO866.out (fun _ hk=>trivial))⟩,⟨pR (Kd.R_mono HO869.out (fun _ hk=>trivial))⟩,⟨pK BK805.out⟩,⟨pK BK870.out⟩,⟨pS HB.out⟩⟩
    ·replace c29:=Bool.eq_false_iff.mpr c29;subst c29
     rw [if_neg nFT] at H
     obtain rfl:=Option.some.inj H
     go_wp2_with (first|((with_reducible refine gLg rfl (by assumption) ?_);refine ldV ?_)|((with_reducible refine gSt rfl (by assumption) ?_);refine stV ?_))
     go_ret
     exact rZ (pS HB.out)
   case rest =>
    clear HC13
    (try clear hcz14_0);(try clear hcz19_0);(try clear hcz23_0);(try clear hcz5_0);(try clear hfz14_0);(try clear hfz19_0);(try clear hfz23_0);(try clear hfz5_0)
    obtain ⟨kq,HA,HJ12,HO_4,HO_6,HO_871024,HO_871025,BK805,BK870,HB⟩:=hcut
    cases kq with
    | zero=>exact absurd HA.out (by simp [laws_FnExactWordPack.j1])
    | succ kj12 =>
     have H:=HA.out;clear HA;simp only [laws_FnExactWordPack.j1] at H;obtain ⟨⟨t875,t876,t877,t878,t879,t880,t881,t882,t883,t884,t885,t886,t887,t888,t889,t890,t891,t892,t893,t894,t895,t896,t897,t898,t899,t902⟩,A30,H⟩:=bI H;(try dsimp only at H);obtain ⟨t905,A31,H⟩:=bI H;(try dsimp only at H);have HC32:=mA H;clear H
     try go_wp2_with (first|((with_reducible refine gLg rfl (by assumption) ?_);refine ldV ?_)|((with_reducible refine gSt rfl (by assumption) ?_);refine stV ?_))
     replace HO_4:=rD HO_4;replace HO_6:=rD HO_6;replace HO_871024:=rD HO_871024;replace HO_871025:=rD HO_871025;replace BK805:=mA (blk_drew BK805.out);replace BK870:=mA (blk_drew BK870.out);replace HB:=mA (below_drew1 HB.out)
     refine start_ (n:=5) (S:=fun w'=>w'.heap[gb870]?=some (.cells #[.int .i64 t840,.int .i64 t841,.int .i64 t842,.int .i64 t843,.int .i64 t844,.int .i64 t845,.int .i64 t846,.int .i64 t847,.int .i64 t848,.int .i64 t849,.int .i64 t850,.int .i64 t851,.int .i64 t852,.int .i64 t853,.int .i64 t854,.int .i64 t855,.int .i64 t856,.int .i64 t857,.int .i64 t858,.int .i64 t859,.int .i64 t860,.int .i64 t861,.int .i64 t862,.int .i64 t863,.slice Ao24 t864.length co24,.slice Ao25 t867.length co25] 28 (0,0))∧w'.heap[gb805]?=some (.cells #[.int .i64 a0_0,.int .i64 a0_1,.int .i64 a0_2,.int .i64 a0_3,.int .i64 a0_4,.int .i64 a0_5,.int .i64 a0_6,.int .i64 a0_7,.int .i64 a0_8,.int .i64 a0_9,.int .i64 a0_10,.int .i64 a0_11,.int .i64 a0_12,.int .i64 a0_13,.int .i64 a0_14,.int .i64 a0_15,.int .i64 a0_16,.int .i64 a0_17,.int .i64 a0_18,.int .i64 a0_19,.int .i64 a0_20,.int .i64 a0_21,.int .i64 a0_22,.int .i64 a0_23,.slice A0_24 l0_24.length c0_24,.slice A0_25 l0_25.length c0_25] 36 (0,0))) (ds:=[]) _ aK rfl rfl ⟨BK870.out,BK805.out⟩ (fun hHeld=>?_)
     generalize wc.drew=w33 at HO_4 HO_6 HO_871024 HO_871025 BK805 BK870 HB hHeld ⊢
     refine tb2_ 0 (some 27) aK hHeld ?_
     refine tb2_ 1 (some 28) aK hHeld ?_
     refine on_ 2 (some 29) aK ?_;intro K hK
     refine gD Try.func18 (laws_toWord.calls (cB HR0_24 HB) HC0_24.out (cB HR0_25 HB) HC0_25.out A30.out) ?_
     rintro e w34 ⟨v900,v903,rfl,ho0,ho1,hb⟩;refine ⟨_,rfl,?_⟩;replace HO_4:=rB HO_4 hb;replace HO_6:=rB HO_6 hb;have HO901:=mA (Kd.R_lower (Kd.R_new' ho0 (rL HO_871024)) (bpS HB));replace HO_871024:=rE HO_871024 ho0 hb;have HO904:=mA (Kd.R_lower (Kd.R_new' ho1 (rL HO_871025)) (bpS HB));replace HO_871025:=rE HO_871025 ho1 hb;replace BK805:=bK BK805 hb;replace BK870:=bK BK870 hb;replace HB:=spS HB hb
     (try clear hb);(try clear ho0);(try clear ho1)
     obtain ⟨Ao35,co35,eo35⟩:=Kd.R_slice HO901.out
     (first|subst eo35|(injection eo35 with f1_ f2_ f3_;have f4_:=f1_.symm;have f5_:=f3_.symm;clear f1_ f2_ f3_;subst f4_;subst f5_))
     obtain ⟨Ao36,co36,eo36⟩:=Kd.R_slice HO904.out
     (first|subst eo36|(injection eo36 with f1_ f2_ f3_;have f4_:=f1_.symm;have f5_:=f3_.symm;clear f1_ f2_ f3_;subst f4_;subst f5_))
     refine hK.out _ _ ⟨BK870.out,BK805.out⟩ (fun hHeld=>?_);clear hK K;refine no_ (some 29) ?_
     refine on_ 3 (some 30) aK ?_;intro K hK
     refine gD Try.func20 (laws_eqWord.calls (cR HO_871024) (cL HO_871024) (cR HO_871025) (cL HO_871025) (cR HO901) (cL HO901) (cR HO904) (cL HO904) A31.out) ?_
     rintro e w37 ⟨rfl,hb⟩;refine ⟨_,rfl,?_⟩;replace HO_4:=rB HO_4 hb;replace HO_6:=rB HO_6 hb;replace HO_871024:=rB HO_871024 hb;replace HO_871025:=rB HO_871025 hb;replace HO901:=rB HO901 hb;replace HO904:=rB HO904 hb;replace BK805:=bK BK805 hb;replace BK870:=bK BK870 hb;replace HB:=spS HB hb
     (try clear hb)
     refine hK.out _ _ ⟨BK870.out,BK805.out⟩ (fun hHeld=>?_);clear hK K;refine no_ (some 30) ?_
     refine pu_ 4 (some 31) aK ?_
     refine done_ aK ?_
     go_upto_if 31 with (fail)
     go_cut [] (fun wc=>∃ (kq:Nat),Aside0 (laws_FnExactWordPack.j2 kq t837 t871 a0_0 a0_1 a0_2 a0_3 a0_4 a0_5 a0_6 a0_7 a0_8 a0_9 a0_10 a0_11 a0_12 a0_13 a0_14 a0_15 a0_16 a0_17 a0_18 a0_19 a0_20 a0_21 a0_22 a0_23 l0_24 l0_25 t840 t841 t842 t843 t844 t845 t846 t847 t848 t849 t850 t851 t852 t853 t854 t855 t856 t857 t858 t859 t860 t861 t862 t863 t864 t867=some r)∧Aside0 (kq≤kj12)∧Aside0 (Kd.R (Kd.int .u8) 5 wc w.heap.size (fun k_=>some k_≠((.slice Ao27 t871.length co27):Value).ownBlock) (.slice Ao28 t837.length co28) t837)∧Aside0 (Kd.R (Kd.int .u8) 5 wc w.heap.size (fun k_=>some k_≠((.slice Ao28 t837.length co28):Value).ownBlock) (.slice Ao27 t871.length co27) t871)∧Aside0 (Kd.R k138 138 wc w.heap.size (fun _=>True) (.slice Ao24 t864.length co24) t864)∧Aside0 (Kd.R k140 140 wc w.heap.size (fun _=>True) (.slice Ao25 t867.length co25) t867)∧Aside0 (wc.heap[gb805]?=some (.cells #[.int .i64 a0_0,.int .i64 a0_1,.int .i64 a0_2,.int .i64 a0_3,.int .i64 a0_4,.int .i64 a0_5,.int .i64 a0_6,.int .i64 a0_7,.int .i64 a0_8,.int .i64 a0_9,.int .i64 a0_10,.int .i64 a0_11,.int .i64 a0_12,.int .i64 a0_13,.int .i64 a0_14,.int .i64 a0_15,.int .i64 a0_16,.int .i64 a0_17,.int .i64 a0_18,.int .i64 a0_19,.int .i64 a0_20,.int .i64 a0_21,.int .i64 a0_22,.int .i64 a0_23,(.slice A0_24 l0_24.length c0_24),(.slice A0_25 l0_25.length c0_25)] 36 (0,0)))∧Aside0 (wc.heap[gb870]?=some (.cells #[.int .i64 t840,.int .i64 t841,.int .i64 t842,.int .i64 t843,.int .i64 t844,.int .i64 t845,.int .i64 t846,.int .i64 t847,.int .i64 t848,.int .i64 t849,.int .i64 t850,.int .i64 t851,.int .i64 t852,.int .i64 t853,.int .i64 t854,.int .i64 t855,.int .i64 t856,.int .i64 t857,.int .i64 t858,.int .i64 t859,.int .i64 t860,.int .i64 t861,.int .i64 t862,.int .i64 t863,(.slice Ao24 t864.length co24),(.slice Ao25 t867.length co25)] 28 (0,0)))∧Aside0 (Below w.heap.size w wc))
     case first =>
      have H:=HC32.out;clear HC32
      by_cases c38:t905=true
      ·subst c38;rw [if_pos rfl] at H;have H':=mA H;clear H
       go_wp2_with (first|((with_reducible refine gLg rfl (by assumption) ?_);refine ldV ?_)|((with_reducible refine gSt rfl (by assumption) ?_);refine stV ?_))
       go_meet
       case rel=>exact ⟨_,H',⟨by have:=HJ2.out;have:=HJ12.out;first|omega|exact Nat.le_refl _⟩,⟨pR HO_4.out⟩,⟨pR HO_6.out⟩,⟨pR (Kd.R_mono HO_871024.out (fun _ hk=>trivial))⟩,⟨pR (Kd.R_mono HO_871025.out (fun _ hk=>trivial))⟩,⟨pK BK805.out⟩,⟨pK BK870.out⟩,⟨pS HB.out⟩⟩
      ·replace c38:=Bool.eq_false_iff.mpr c38;subst c38
       rw [if_neg nFT] at H
       obtain rfl:=Option.some.inj H
       go_wp2_with (first|((with_reducible refine gLg rfl (by assumption) ?_);refine ldV ?_)|((with_reducible refine gSt rfl (by assumption) ?_);refine stV ?_))
       go_ret
       exact rZ (pS HB.out)
     case rest =>
      clear HC32
      (try clear hcz14_0);(try clear hcz19_0);(try clear hcz23_0);(try clear hcz5_0);(try clear hfz14_0);(try clear hfz19_0);(try clear hfz23_0);(try clear hfz5_0)
      obtain ⟨kq,HA,HJ31,HO_4,HO_6,HO_871024,HO_871025,BK805,BK870,HB⟩:=hcut
      cases kq with
      | zero=>exact absurd HA.out (by simp [laws_FnExactWordPack.j2])
      | succ kj31 =>
       have H:=HA.out;clear HA;simp only [laws_FnExactWordPack.j2] at H;obtain ⟨⟨t906,t907,t908⟩,A39,H⟩:=bI H;(try dsimp only at H);have HC40:=mA H;clear H;have hnb41:=NB870_805.out;have hnc41:=NB805_870.out;have hcz42_0:=fun i_=>blk_cell BK870.out i_;have hfz42_0:=fun i_=>blk_frozen BK870.out i_
       go_upto_region 14 with (first|((with_reducible refine gLg rfl (by assumption) ?_);refine ldV ?_)|((with_reducible refine gSt rfl (by assumption) ?_);refine stV ?_)|((with_reducible refine gT 34 rfl ?_);refine gC (some 34) Try.func22 (laws_markWord.calls kj31 t840 t841 t842 t843 t844 t845 t846 t847 t848 t849 t850 t851 t852 t853 t854 t855 t856 t857 t858 t859 t860 t861 t862 t863 (fun k_=>some k_=(.slice Ao24 t864.length co24:Value).ownBlock) (.slice Ao24 t864.length co24) t864 (fun k_=>some k_=(.slice Ao25 t867.length co25:Value).ownBlock) (.slice Ao25 t867.length co25) t867 1 t906 t907 t908 w _ ?s1 (Kd.R_tight rfl HO_871024.out) (Kd.R_tight rfl HO_871025.out) A39.out) ?_;(case s1=>repeat (first|(with_reducible first|exact HB.out|apply below_alloc|apply pw_below_drewN|apply below_drew1|refine below_set ?_ GE805.out|refine below_set ?_ GE870.out)|exact HB.out));rintro e w43 ⟨rfl,hy0,hy1,hb,hkp⟩;refine ⟨_,rfl,?_⟩;replace HO_4:=mA (Kd.R_mono (ok':=fun k_=>some k_≠(.slice Ao27 t871.length co27:Value).ownBlock) (Kd.R_keptB ((Kd.R_apart' (Kd.R_apart' HO_4.out (Kd.R_typed HO_871024.out) aD) (Kd.R_typed HO_871025.out) aD)) hkp (fun k_ hk_ hs_=>Or.elim hs_ (fun e_=>(hk_.1.2) e_) (fun e_=>(hk_.2) e_))) (fun k_ hk_=>hk_.1.1.1));replace HO_6:=mA (Kd.R_mono (ok':=fun k_=>some k_≠(.slice Ao28 t837.length co28:Value).ownBlock) (Kd.R_keptB ((Kd.R_apart' (Kd.R_apart' HO_6.out (Kd.R_typed HO_871024.out) aD) (Kd.R_typed HO_871025.out) aD)) hkp (fun k_ hk_ hs_=>Or.elim hs_ (fun e_=>(hk_.1.2) e_) (fun e_=>(hk_.2) e_))) (fun k_ hk_=>hk_.1.1.1));replace BK805:=mA (blk_kept (pK BK805.out) hkp (fun hs_=>Or.elim hs_ (fun e_=>(fun e_=>(Kd.R_ne HO_871024.out BK805.out aD) e_) e_) (fun e_=>(fun e_=>(Kd.R_ne HO_871025.out BK805.out aD) e_) e_)));replace BK870:=mA (blk_kept (pK BK870.out) hkp (fun hs_=>Or.elim hs_ (fun e_=>(fun e_=>(Kd.R_ne HO_871024.out BK870.out aD) e_) e_) (fun e_=>(fun e_=>(Kd.R_ne HO_871025.out BK870.out aD) e_) e_)));replace HO_871024:=mA (Kd.R_reok rfl hy0 (fun k_ e_=>HO_871024.out.1 k_ e_));replace HO_871025:=mA (Kd.R_reok rfl hy1 (fun k_ e_=>HO_871025.out.1 k_ e_));replace HB:=mA hb;(try clear hb);(try clear hkp);(try clear hy0);(try clear hy1)))
       (try simp only [Act.put,List.setIfInBounds_toArray,List.set_cons_zero,List.set_cons_succ])
       go_cut [42] (fun v42 wc=>∃ (kq:Nat) (x42_39:Bool),v42=.bool x42_39∧Aside0 (laws_FnExactWordPack.j3 kq t837 t871 x42_39 a0_0 a0_1 a0_2 a0_3 a0_4 a0_5 a0_6 a0_7 a0_8 a0_9 a0_10 a0_11 a0_12 a0_13 a0_14 a0_15 a0_16 a0_17 a0_18 a0_19 a0_20 a0_21 a0_22 a0_23 l0_24 l0_25=some r)∧Aside0 (kq≤kj31)∧Aside0 (Kd.R (Kd.int .u8) 5 wc w.heap.size (fun k_=>some k_≠((.slice Ao27 t871.length co27):Value).ownBlock) (.slice Ao28 t837.length co28) t837)∧Aside0 (Kd.R (Kd.int .u8) 5 wc w.heap.size (fun k_=>some k_≠((.slice Ao28 t837.length co28):Value).ownBlock) (.slice Ao27 t871.length co27) t871)∧Aside0 (Kd.R k138 138 wc w.heap.size (fun _=>True) (.slice Ao24 t864.length co24) t907)∧Aside0 (Kd.R k140 140 wc w.heap.size (fun _=>True) (.slice Ao25 t867.length co25) t908)∧Aside0 (wc.heap[gb805]?=some (.cells #[.int .i64 a0_0,.int .i64 a0_1,.int .i64 a0_2,.int .i64 a0_3,.int .i64 a0_4,.int .i64 a0_5,.int .i64 a0_6,.int .i64 a0_7,.int .i64 a0_8,.int .i64 a0_9,.int .i64 a0_10,.int .i64 a0_11,.int .i64 a0_12,.int .i64 a0_13,.int .i64 a0_14,.int .i64 a0_15,.int .i64 a0_16,.int .i64 a0_17,.int .i64 a0_18,.int .i64 a0_19,.int .i64 a0_20,.int .i64 a0_21,.int .i64 a0_22,.int .i64 a0_23,(.slice A0_24 l0_24.length c0_24),(.slice A0_25 l0_25.length c0_25)] 36 (0,0)))∧Aside0 (wc.heap[gb870]?=some (.cells #[.int .i64 t840,.int .i64 t841,.int .i64 t842,.int .i64 t843,.int .i64 t844,.int .i64 t845,.int .i64 t846,.int .i64 t847,.int .i64 t848,.int .i64 t849,.int .i64 t850,.int .i64 t851,.int .i64 t852,.int .i64 t853,.int .i64 t854,.int .i64 t855,.int .i64 t856,.int .i64 t857,.int .i64 t858,.int .i64 t859,.int .i64 t860,.int .i64 t861,.int .i64 t862,.int .i64 t863,(.slice Ao24 t864.length co24),(.slice Ao25 t867.length co25)] 28 (0,0)))∧Aside0 (Below w.heap.size w wc))
       case first =>
        have H:=HC40.out;clear HC40
        by_cases c44:t906<0
        ·rw [if_pos c44] at H;have c44b0:decide (t906<0)=true:=decide_eq_true c44;clear c44
         (first|rw [c44b0]|(simp only [i64_w,i32_w];rw [c44b0])|skip)
         have H':=mA H;clear H
         go_wp2_with (first|((with_reducible refine gLg rfl (by assumption) ?_);refine ldV ?_)|((with_reducible refine gSt rfl (by assumption) ?_);refine stV ?_))
         go_meet
         case rel=>exact ⟨_,(true),bZ,H',⟨by have:=HJ2.out;have:=HJ12.out;have:=HJ31.out;first|omega|exact Nat.le_refl _⟩,⟨pR HO_4.out⟩,⟨pR HO_6.out⟩,⟨pR HO_871024.out⟩,⟨pR HO_871025.out⟩,⟨pK BK805.out⟩,⟨pK BK870.out⟩,⟨pS HB.out⟩⟩
        ·rw [if_neg c44] at H;have c44b0:decide (t906<0)=false:=decide_eq_false c44;clear c44
         (first|rw [c44b0]|(simp only [i64_w,i32_w];rw [c44b0])|skip)
         obtain ⟨t909,A45,H⟩:=bI H;(try dsimp only at H);have H':=mA H;clear H
         go_wp2_with (first|((with_reducible refine gLg rfl (by assumption) ?_);refine ldV ?_)|((with_reducible refine gSt rfl (by assumption) ?_);refine stV ?_)|(go_at_call 21;(with_reducible refine (laws_eqByteS.calls ?s1 ?s2 ?s3 ?s4 A45.out).mono ?_);(case s1=>exact cR HO_6);(case s2=>exact cL HO_6);(case s3=>exact cR HO_4);(case s4=>exact cL HO_4);rintro e w' ⟨rfl,⟨nd,rfl⟩⟩))
         go_meet
         case rel=>exact ⟨_,(!t909),bZ,H',⟨by have:=HJ2.out;have:=HJ12.out;have:=HJ31.out;first|omega|exact Nat.le_refl _⟩,⟨pR HO_4.out⟩,⟨pR HO_6.out⟩,⟨pR HO_871024.out⟩,⟨pR HO_871025.out⟩,⟨pK BK805.out⟩,⟨pK BK870.out⟩,⟨pS HB.out⟩⟩
       case rest =>
        clear HC40
        (try clear hcz14_0);(try clear hcz19_0);(try clear hcz23_0);(try clear hcz42_0);(try clear hcz5_0);(try clear hfz14_0);(try clear hfz19_0);(try clear hfz23_0);(try clear hfz42_0);(try clear hfz5_0)
        obtain ⟨kq,x42_39,rfl,HA,HJ39,HO_4,HO_6,HO_871024,HO_871025,BK805,BK870,HB⟩:=hcut;have hl871024_39:=(Kd.R_reads' HO_871024.out).1;rw [hl871024_39] at HO_871024
        (try simp only [hl871024_39])
        (try simp only [hl871024_39] at BK805)
        (try simp only [hl871024_39] at BK870)
        (try simp only [hl871024_39] at HO_4)
        (try simp only [hl871024_39] at HO_6)
        (try simp only [hl871024_39] at HO_871025)
        have hl871025_39:=(Kd.R_reads' HO_871025.out).1;rw [hl871025_39] at HO_871025
        (try simp only [hl871025_39])
        (try simp only [hl871025_39] at BK805)
        (try simp only [hl871025_39] at BK870)
        (try simp only [hl871025_39] at HO_4)
        (try simp only [hl871025_39] at HO_6)
        (try simp only [hl871025_39] at HO_871024)
        cases kq with
        | zero=>exact absurd HA.out (by simp [laws_FnExactWordPack.j3])
        | succ kj39 =>
         have H:=HA.out;clear HA;simp only [laws_FnExactWordPack.j3] at H;have HC46:=mA H;clear H
         go_upto_if 42 with (fail)
         go_cut [] (fun wc=>∃ (kq:Nat),Aside0 (laws_FnExactWordPack.j4 kq t837 t871 a0_0 a0_1 a0_2 a0_3 a0_4 a0_5 a0_6 a0_7 a0_8 a0_9 a0_10 a0_11 a0_12 a0_13 a0_14 a0_15 a0_16 a0_17 a0_18 a0_19 a0_20 a0_21 a0_22 a0_23 l0_24 l0_25=some r)∧Aside0 (kq≤kj39)∧Aside0 (Kd.R (Kd.int .u8) 5 wc w.heap.size (fun k_=>some k_≠((.slice Ao27 t871.length co27):Value).ownBlock) (.slice Ao28 t837.length co28) t837)∧Aside0 (Kd.R (Kd.int .u8) 5 wc w.heap.size (fun k_=>some k_≠((.slice Ao28 t837.length co28):Value).ownBlock) (.slice Ao27 t871.length co27) t871)∧Aside0 (Kd.R k138 138 wc w.heap.size (fun _=>True) (.slice Ao24 t907.length co24) t907)∧Aside0 (Kd.R k140 140 wc w.heap.size (fun _=>True) (.slice Ao25 t908.length co25) t908)∧Aside0 (wc.heap[gb805]?=some (.cells #[.int .i64 a0_0,.int .i64 a0_1,.int .i64 a0_2,.int .i64 a0_3,.int .i64 a0_4,.int .i64 a0_5,.int .i64 a0_6,.int .i64 a0_7,.int .i64 a0_8,.int .i64 a0_9,.int .i64 a0_10,.int .i64 a0_11,.int .i64 a0_12,.int .i64 a0_13,.int .i64 a0_14,.int .i64 a0_15,.int .i64 a0_16,.int .i64 a0_17,.int .i64 a0_18,.int .i64 a0_19,.int .i64 a0_20,.int .i64 a0_21,.int .i64 a0_22,.int .i64 a0_23,(.slice A0_24 l0_24.length c0_24),(.slice A0_25 l0_25.length c0_25)] 36 (0,0)))∧Aside0 (wc.heap[gb870]?=some (.cells #[.int .i64 t840,.int .i64 t841,.int .i64 t842,.int .i64 t843,.int .i64 t844,.int .i64 t845,.int .i64 t846,.int .i64 t847,.int .i64 t848,.int .i64 t849,.int .i64 t850,.int .i64 t851,.int .i64 t852,.int .i64 t853,.int .i64 t854,.int .i64 t855,.int .i64 t856,.int .i64 t857,.int .i64 t858,.int .i64 t859,.int .i64 t860,.int .i64 t861,.int .i64 t862,.int .i64 t863,(.slice Ao24 t907.length co24),(.slice Ao25 t908.length co25)] 28 (0,0)))∧Aside0 (Below w.heap.size w wc))
         case first =>
          have H:=HC46.out;clear HC46
          by_cases c47:x42_39=true
          ·subst c47;rw [if_pos rfl] at H;obtain rfl:=Option.some.inj H
           go_wp2_with (first|((with_reducible refine gLg rfl (by assumption) ?_);refine ldV ?_)|((with_reducible refine gSt rfl (by assumption) ?_);refine stV ?_))
           go_ret
           exact rZ (pS HB.out)
          ·replace c47:=Bool.eq_false_iff.mpr c47;subst c47
           rw [if_neg nFT] at H
           have H':=mA H;clear H
           go_wp2_with (first|((with_reducible refine gLg rfl (by assumption) ?_);refine ldV ?_)|((with_reducible refine gSt rfl (by assumption) ?_);refine stV ?_))
           go_meet
           case rel=>exact ⟨_,H',⟨by have:=HJ2.out;have:=HJ12.out;have:=HJ31.out;have:=HJ39.out;first|omega|exact Nat.le_refl _⟩,⟨by (try simp only [hl871024_39]);(try simp only [hl871025_39]);(with_reducible repeat (first|apply Kd.R_alloc|apply Kd.R_drewN|apply Kd.R_drew));exact HO_4.out⟩,⟨by (try simp only [hl871024_39]);(try simp only [hl871025_39]);(with_reducible repeat (first|apply Kd.R_alloc|apply Kd.R_drewN|apply Kd.R_drew));exact HO_6.out⟩,⟨by (try simp only [hl871024_39]);(try simp only [hl871025_39]);(with_reducible repeat (first|apply Kd.R_alloc|apply Kd.R_drewN|apply Kd.R_drew));exact HO_871024.out⟩,⟨by (try simp only [hl871024_39]);(try simp only [hl871025_39]);(with_reducible repeat (first|apply Kd.R_alloc|apply Kd.R_drewN|apply Kd.R_drew));exact HO_871025.out⟩,⟨by (try simp only [hl871024_39]);(try simp only [hl871025_39]);(with_reducible repeat (first|refine blk_drewN ?_ _|refine blk_drew ?_|refine blk_alloc ?_ _));exact BK805.out⟩,⟨by (try simp only [hl871024_39]);(try simp only [hl871025_39]);(with_reducible repeat (first|refine blk_drewN ?_ _|refine blk_drew ?_|refine blk_alloc ?_ _));exact BK870.out⟩,⟨pS HB.out⟩⟩
         case rest =>
          clear HC46
          (try clear hcz14_0);(try clear hcz19_0);(try clear hcz23_0);(try clear hcz42_0);(try clear hcz5_0);(try clear hfz14_0);(try clear hfz19_0);(try clear hfz23_0);(try clear hfz42_0);(try clear hfz5_0)
          obtain ⟨kq,HA,HJ45,HO_4,HO_6,HO_871024,HO_871025,BK805,BK870,HB⟩:=hcut
          cases kq with
          | zero=>exact absurd HA.out (by simp [laws_FnExactWordPack.j4])
          | succ kj45 =>
           have H:=HA.out;clear HA;simp only [laws_FnExactWordPack.j4] at H;obtain ⟨⟨t910,t911⟩,A48,H⟩:=bI H;(try dsimp only at H);obtain ⟨t912,A49,H⟩:=bI H;(try dsimp only at H);have HC50:=mA H;clear H
           go_upto_if 50 with (first|((with_reducible refine gLg rfl (by assumption) ?_);refine ldV ?_)|((with_reducible refine gSt rfl (by assumption) ?_);refine stV ?_)|((with_reducible refine gT 45 rfl ?_);refine gC (some 45) Try.func23 (laws_markByteS.calls kj45 (fun k_=>some k_=(.slice Ao27 t871.length co27:Value).ownBlock) (.slice Ao27 t871.length co27) t871 1 t910 t911 w _ ?s1 (Kd.R_tight rfl HO_6.out) A48.out) ?_;(case s1=>repeat (first|(with_reducible first|exact HB.out|apply below_alloc|apply pw_below_drewN|apply below_drew1|refine below_set ?_ GE805.out|refine below_set ?_ GE870.out)|exact HB.out));rintro e w51 ⟨rfl,hy0,hb,hkp⟩;refine ⟨_,rfl,?_⟩;replace HO_4:=mA (Kd.R_mono (ok':=fun k_=>some k_≠(.slice Ao27 t871.length co27:Value).ownBlock) (Kd.R_keptB (HO_4.out) hkp (fun k_ hk_ hs_=>(hk_) hs_)) (fun k_ hk_=>hk_.1));replace HO_871024:=mA (Kd.R_mono (ok':=fun k_=>True) (Kd.R_keptB ((Kd.R_apart' HO_871024.out (Kd.R_typed HO_6.out) aD)) hkp (fun k_ hk_ hs_=>(hk_.2) hs_)) (fun k_ hk_=>trivial));replace HO_871025:=mA (Kd.R_mono (ok':=fun k_=>True) (Kd.R_keptB ((Kd.R_apart' HO_871025.out (Kd.R_typed HO_6.out) aD)) hkp (fun k_ hk_ hs_=>(hk_.2) hs_)) (fun k_ hk_=>trivial));replace BK805:=mA (blk_kept (pK BK805.out) hkp (fun hs_=>(fun e_=>(Kd.R_ne HO_6.out BK805.out aD) e_) hs_));replace BK870:=mA (blk_kept (pK BK870.out) hkp (fun hs_=>(fun e_=>(Kd.R_ne HO_6.out BK870.out aD) e_) hs_));replace HO_6:=mA (Kd.R_reok rfl hy0 (fun k_ e_=>HO_6.out.1 k_ e_));replace HB:=mA hb;(try clear hb);(try clear hkp);(try clear hy0))|((with_reducible refine gate_callee (f:=24) rfl ?_);refine goesL_ (some 48) rfl rfl Try.func24 aK rfl #[.slice Ao27 t911.length co27,.int .i64 1] rfl (by (try simp only [List.map_toArray,List.map_cons,List.map_nil]);first|done|(rw [show t911.length=t871.length from (Kd.R_reads' HO_6.out).1.symm]<;>rfl)|rfl|(simp only [List.length_drop,List.length_take];rfl)) ?_;(with_reducible refine (laws_heldByteS.calls ?s1 ?s2 A49.out).mono ?_);(case s1=>exact cR HO_6);(case s2=>rw [show t911.length=t871.length from (Kd.R_reads' HO_6.out).1.symm];exact cL HO_6);rintro e w' ⟨rfl,⟨nd,rfl⟩⟩;refine ⟨_,rfl,?_⟩))
           (try simp only [Act.put,List.setIfInBounds_toArray,List.set_cons_zero,List.set_cons_succ])
           go_cut [] (fun wc=>∃ (kq:Nat),Aside0 (laws_FnExactWordPack.j5 kq t837 t911 t910 t912 a0_0 a0_1 a0_2 a0_3 a0_4 a0_5 a0_6 a0_7 a0_8 a0_9 a0_10 a0_11 a0_12 a0_13 a0_14 a0_15 a0_16 a0_17 a0_18 a0_19 a0_20 a0_21 a0_22 a0_23 l0_24 l0_25=some r)∧Aside0 (kq≤kj45)∧Aside0 (Kd.R (Kd.int .u8) 5 wc w.heap.size (fun k_=>some k_≠((.slice Ao27 t871.length co27):Value).ownBlock) (.slice Ao28 t837.length co28) t837)∧Aside0 (Kd.R (Kd.int .u8) 5 wc w.heap.size (fun k_=>some k_≠((.slice Ao28 t837.length co28):Value).ownBlock) (.slice Ao27 t871.length co27) t911)∧Aside0 (Kd.R k138 138 wc w.heap.size (fun _=>True) (.slice Ao24 t907.length co24) t907)∧Aside0 (Kd.R k140 140 wc w.heap.size (fun _=>True) (.slice Ao25 t908.length co25) t908)∧Aside0 (wc.heap[gb805]?=some (.cells #[.int .i64 a0_0,.int .i64 a0_1,.int .i64 a0_2,.int .i64 a0_3,.int .i64 a0_4,.int .i64 a0_5,.int .i64 a0_6,.int .i64 a0_7,.int .i64 a0_8,.int .i64 a0_9,.int .i64 a0_10,.int .i64 a0_11,.int .i64 a0_12,.int .i64 a0_13,.int .i64 a0_14,.int .i64 a0_15,.int .i64 a0_16,.int .i64 a0_17,.int .i64 a0_18,.int .i64 a0_19,.int .i64 a0_20,.int .i64 a0_21,.int .i64 a0_22,.int .i64 a0_23,(.slice A0_24 l0_24.length c0_24),(.slice A0_25 l0_25.length c0_25)] 36 (0,0)))∧Aside0 (wc.heap[gb870]?=some (.cells #[.int .i64 t840,.int .i64 t841,.int .i64 t842,.int .i64 t843,.int .i64 t844,.int .i64 t845,.int .i64 t846,.int .i64 t847,.int .i64 t848,.int .i64 t849,.int .i64 t850,.int .i64 t851,.int .i64 t852,.int .i64 t853,.int .i64 t854,.int .i64 t855,.int .i64 t856,.int .i64 t857,.int .i64 t858,.int .i64 t859,.int .i64 t860,.int .i64 t861,.int .i64 t862,.int .i64 t863,(.slice Ao24 t907.length co24),(.slice Ao25 t908.length co25)] 28 (0,0)))∧Aside0 (Below w.heap.size w wc))
           case first =>
            have H:=HC50.out;clear HC50
            by_cases c52:t912<0
            ·rw [if_pos c52] at H;have c52b0:decide (t912<0)=true:=decide_eq_true c52;clear c52
             (first|rw [c52b0]|(simp only [i64_w,i32_w];rw [c52b0])|skip)
             obtain rfl:=Option.some.inj H
             go_wp2_with (first|((with_reducible refine gLg rfl (by assumption) ?_);refine ldV ?_)|((with_reducible refine gSt rfl (by assumption) ?_);refine stV ?_))
             go_ret
             exact rZ (pS HB.out)
            ·rw [if_neg c52] at H;have c52b0:decide (t912<0)=false:=decide_eq_false c52;clear c52
             (first|rw [c52b0]|(simp only [i64_w,i32_w];rw [c52b0])|skip)
             have H':=mA H;clear H
             go_wp2_with (first|((with_reducible refine gLg rfl (by assumption) ?_);refine ldV ?_)|((with_reducible refine gSt rfl (by assumption) ?_);refine stV ?_))
             go_meet
             case rel=>exact ⟨_,H',⟨by have:=HJ2.out;have:=HJ12.out;have:=HJ31.out;have:=HJ39.out;have:=HJ45.out;first|omega|exact Nat.le_refl _⟩,⟨by (try simp only [hl871024_39]);(try simp only [hl871025_39]);(with_reducible repeat (first|apply Kd.R_alloc|apply Kd.R_drewN|apply Kd.R_drew));exact HO_4.out⟩,⟨by (try simp only [hl871024_39]);(try simp only [hl871025_39]);(with_reducible repeat (first|apply Kd.R_alloc|apply Kd.R_drewN|apply Kd.R_drew));exact HO_6.out⟩,⟨by (try simp only [hl871024_39]);(try simp only [hl871025_39]);(with_reducible repeat (first|apply Kd.R_alloc|apply Kd.R_drewN|apply Kd.R_drew));exact HO_871024.out⟩,⟨by (try simp only [hl871024_39]);(try simp only [hl871025_39]);(with_reducible repeat (first|apply Kd.R_alloc|apply Kd.R_drewN|apply Kd.R_drew));exact HO_871025.out⟩,⟨by (try simp only [hl871024_39]);(try simp only [hl871025_39]);(with_reducible repeat (first|refine blk_drewN ?_ _|refine blk_drew ?_|refine blk_alloc ?_ _));exact BK805.out⟩,⟨by (try simp only [hl871024_39]);(try simp only [hl871025_39]);(with_reducible repeat (first|refine blk_drewN ?_ _|refine blk_drew ?_|refine blk_alloc ?_ _));exact BK870.out⟩,⟨pS HB.out⟩⟩
           case rest =>
            clear HC50
            (try clear hcz14_0);(try clear hcz19_0);(try clear hcz23_0);(try clear hcz42_0);(try clear hcz5_0);(try clear hfz14_0);(try clear hfz19_0);(try clear hfz23_0);(try clear hfz42_0);(try clear hfz5_0)
            obtain ⟨kq,HA,HJ49,HO_4,HO_6,HO_871024,HO_871025,BK805,BK870,HB⟩:=hcut;have hl6_49:=(Kd.R_reads' HO_6.out).1;rw [hl6_49] at HO_6
            (try simp only [hl6_49])
            (try simp only [hl6_49] at BK805)
            (try simp only [hl6_49] at BK870)
            (try simp only [hl6_49] at HO_4)
            (try simp only [hl6_49] at HO_871024)
            (try simp only [hl6_49] at HO_871025)
            cases kq with
            | zero=>exact absurd HA.out (by simp [laws_FnExactWordPack.j5])
            | succ kj49 =>
             have H:=HA.out;clear HA;simp only [laws_FnExactWordPack.j5] at H;have HC53:=mA H;clear H
             go_upto_if 53 with (fail)
             go_cut [] (fun wc=>∃ (kq:Nat),Aside0 (laws_FnExactWordPack.j6 kq t837 t911 t910 a0_0 a0_1 a0_2 a0_3 a0_4 a0_5 a0_6 a0_7 a0_8 a0_9 a0_10 a0_11 a0_12 a0_13 a0_14 a0_15 a0_16 a0_17 a0_18 a0_19 a0_20 a0_21 a0_22 a0_23 l0_24 l0_25=some r)∧Aside0 (kq≤kj49)∧Aside0 (Kd.R (Kd.int .u8) 5 wc w.heap.size (fun k_=>some k_≠((.slice Ao27 t911.length co27):Value).ownBlock) (.slice Ao28 t837.length co28) t837)∧Aside0 (Kd.R (Kd.int .u8) 5 wc w.heap.size (fun k_=>some k_≠((.slice Ao28 t837.length co28):Value).ownBlock) (.slice Ao27 t911.length co27) t911)∧Aside0 (Kd.R k138 138 wc w.heap.size (fun _=>True) (.slice Ao24 t907.length co24) t907)∧Aside0 (Kd.R k140 140 wc w.heap.size (fun _=>True) (.slice Ao25 t908.length co25) t908)∧Aside0 (wc.heap[gb805]?=some (.cells #[.int .i64 a0_0,.int .i64 a0_1,.int .i64 a0_2,.int .i64 a0_3,.int .i64 a0_4,.int .i64 a0_5,.int .i64 a0_6,.int .i64 a0_7,.int .i64 a0_8,.int .i64 a0_9,.int .i64 a0_10,.int .i64 a0_11,.int .i64 a0_12,.int .i64 a0_13,.int .i64 a0_14,.int .i64 a0_15,.int .i64 a0_16,.int .i64 a0_17,.int .i64 a0_18,.int .i64 a0_19,.int .i64 a0_20,.int .i64 a0_21,.int .i64 a0_22,.int .i64 a0_23,(.slice A0_24 l0_24.length c0_24),(.slice A0_25 l0_25.length c0_25)] 36 (0,0)))∧Aside0 (wc.heap[gb870]?=some (.cells #[.int .i64 t840,.int .i64 t841,.int .i64 t842,.int .i64 t843,.int .i64 t844,.int .i64 t845,.int .i64 t846,.int .i64 t847,.int .i64 t848,.int .i64 t849,.int .i64 t850,.int .i64 t851,.int .i64 t852,.int .i64 t853,.int .i64 t854,.int .i64 t855,.int .i64 t856,.int .i64 t857,.int .i64 t858,.int .i64 t859,.int .i64 t860,.int .i64 t861,.int .i64 t862,.int .i64 t863,(.slice Ao24 t907.length co24),(.slice Ao25 t908.length co25)] 28 (0,0)))∧Aside0 (Below w.heap.size w wc))
             case first =>
              have H:=HC53.out;clear HC53
              by_cases c54:t912=t910
              ·rw [if_pos c54] at H;obtain ⟨c54b0,c54b1⟩:=eqB c54;clear c54
               (first|rw [c54b0]|(simp only [i64_w,i32_w];rw [c54b0])|skip)
               have H':=mA H;clear H
               go_wp2_with (first|((with_reducible refine gLg rfl (by assumption) ?_);refine ldV ?_)|((with_reducible refine gSt rfl (by assumption) ?_);refine stV ?_))
               go_meet
               case rel=>exact ⟨_,H',⟨by have:=HJ2.out;have:=HJ12.out;have:=HJ31.out;have:=HJ39.out;have:=HJ45.out;have:=HJ49.out;first|omega|exact Nat.le_refl _⟩,⟨by (try simp only [hl871024_39]);(try simp only [hl871025_39]);(try simp only [hl6_49]);(with_reducible repeat (first|apply Kd.R_alloc|apply Kd.R_drewN|apply Kd.R_drew));exact HO_4.out⟩,⟨by (try simp only [hl871024_39]);(try simp only [hl871025_39]);(try simp only [hl6_49]);(with_reducible repeat (first|apply Kd.R_alloc|apply Kd.R_drewN|apply Kd.R_drew));exact HO_6.out⟩,⟨by (try simp only [hl871024_39]);(try simp only [hl871025_39]);(try simp only [hl6_49]);(with_reducible repeat (first|apply Kd.R_alloc|apply Kd.R_drewN|apply Kd.R_drew));exact HO_871024.out⟩,⟨by (try simp only [hl871024_39]);(try simp only [hl871025_39]);(try simp only [hl6_49]);(with_reducible repeat (first|apply Kd.R_alloc|apply Kd.R_drewN|apply Kd.R_drew));exact HO_871025.out⟩,⟨by (try simp only [hl871024_39]);(try simp only [hl871025_39]);(try simp only [hl6_49]);(with_reducible repeat (first|refine blk_drewN ?_ _|refine blk_drew ?_|refine blk_alloc ?_ _));exact BK805.out⟩,⟨by (try simp only [hl871024_39]);(try simp only [hl871025_39]);(try simp only [hl6_49]);(with_reducible repeat (first|refine blk_drewN ?_ _|refine blk_drew ?_|refine blk_alloc ?_ _));exact BK870.out⟩,⟨pS HB.out⟩⟩
              ·rw [if_neg c54] at H;have c54b0:(t912 == t910)=false:=beq_eq_false_iff_ne.mpr c54;have c54b1:(t912 != t910)=true:=bne_iff_ne.mpr c54
               (first|rw [c54b0]|(simp only [i64_w,i32_w];rw [c54b0])|skip)
               obtain rfl:=Option.some.inj H
               go_wp2_with (first|((with_reducible refine gLg rfl (by assumption) ?_);refine ldV ?_)|((with_reducible refine gSt rfl (by assumption) ?_);refine stV ?_))
               go_ret
               exact rZ (pS HB.out)
             case rest =>
              clear HC53
              (try clear hcz14_0);(try clear hcz19_0);(try clear hcz23_0);(try clear hcz42_0);(try clear hcz5_0);(try clear hfz14_0);(try clear hfz19_0);(try clear hfz23_0);(try clear hfz42_0);(try clear hfz5_0)
              obtain ⟨kq,HA,HJ52,HO_4,HO_6,HO_871024,HO_871025,BK805,BK870,HB⟩:=hcut
              cases kq with
              | zero=>exact absurd HA.out (by simp [laws_FnExactWordPack.j6])
              | succ kj52 =>
               have H:=HA.out;clear HA;simp only [laws_FnExactWordPack.j6] at H;obtain ⟨⟨t913,t914,t915,t916,t917,t918,t919,t920,t921,t922,t923,t924,t925,t926,t927,t928,t929,t930,t931,t932,t933,t934,t935,t936,t937,t940⟩,A55,H⟩:=bI H;(try dsimp only at H);obtain ⟨t943,A56,H⟩:=bI H;(try dsimp only at H);obtain ⟨t946,A57,H⟩:=bI H;(try dsimp only at H);have HC58:=mA H;clear H;have hnb59:=NB805_870.out;have hnc59:=NB870_805.out;have hcz60_0:=fun i_=>blk_cell BK805.out i_;have hfz60_0:=fun i_=>blk_frozen BK805.out i_
               go_upto_if 60 with (first|((with_reducible refine gLg rfl (by assumption) ?_);refine ldV ?_)|((with_reducible refine gSt rfl (by assumption) ?_);refine stV ?_)|((with_reducible refine gT 55 rfl ?_);refine gC (some 55) Try.func18 (laws_toWord.calls (cB HR0_24 HB) HC0_24.out (cB HR0_25 HB) HC0_25.out A55.out) ?_;rintro e w61 ⟨v938,v941,rfl,ho0,ho1,hb⟩;refine ⟨_,rfl,?_⟩;replace HO_4:=rB HO_4 hb;replace HO_6:=rB HO_6 hb;have HO939:=mA (Kd.R_lower (Kd.R_new' ho0 (rL HO_871024)) (bpS HB));replace HO_871024:=rE HO_871024 ho0 hb;have HO942:=mA (Kd.R_lower (Kd.R_new' ho1 (rL HO_871025)) (bpS HB));replace HO_871025:=rE HO_871025 ho1 hb;replace BK805:=bK BK805 hb;replace BK870:=bK BK870 hb;replace HB:=spS HB hb;(try clear hb);(try clear ho0);(try clear ho1);obtain ⟨Ao62,co62,rfl⟩:=Kd.R_slice HO939.out;obtain ⟨Ao63,co63,rfl⟩:=Kd.R_slice HO942.out)|((with_reducible refine gT 56 rfl ?_);refine gC (some 56) Try.func15 (impl_WordPack.calls (cR HO939) (cL HO939) (cR HO942) (cL HO942) A56.out) ?_;rintro e w64 ⟨v944,rfl,ho0,hb⟩;refine ⟨_,rfl,?_⟩;replace HO_871024:=rB HO_871024 hb;replace HO_871025:=rB HO_871025 hb;replace HO939:=rB HO939 hb;replace HO942:=rB HO942 hb;have HO945:=mA (Kd.R_lower (Kd.R_new' (Kd.R_new' ho0 (rL HO_4)) (rL HO_6)) (bpS HB));replace HO_4:=rE HO_4 ho0 hb;replace HO_6:=rE HO_6 ho0 hb;replace BK805:=bK BK805 hb;replace BK870:=bK BK870 hb;replace HB:=spS HB hb;(try clear hb);(try clear ho0);obtain ⟨Ao65,co65,rfl⟩:=Kd.R_slice HO945.out)|((with_reducible refine gT 59 rfl ?_);refine gC (some 59) Try.func21 (laws_eqByteS.calls (cR HO945) (cL HO945) (cR HO_4) (cL HO_4) A57.out) ?_;rintro e w' ⟨rfl,⟨nd,rfl⟩⟩;refine ⟨_,rfl,?_⟩))
               (try simp only [Act.put,List.setIfInBounds_toArray,List.set_cons_zero,List.set_cons_succ])
               go_cut [] (fun wc=>∃ (kq:Nat),Aside0 (laws_FnExactWordPack.j7 kq t911 t910=some r)∧Aside0 (kq≤kj52)∧Aside0 (Kd.R (Kd.int .u8) 5 wc w.heap.size (fun _=>True) (.slice Ao27 t911.length co27) t911)∧Aside0 (Kd.R k138 138 wc w.heap.size (fun _=>True) (.slice Ao24 t907.length co24) t907)∧Aside0 (Kd.R k140 140 wc w.heap.size (fun _=>True) (.slice Ao25 t908.length co25) t908)∧Aside0 (wc.heap[gb805]?=some (.cells #[.int .i64 a0_0,.int .i64 a0_1,.int .i64 a0_2,.int .i64 a0_3,.int .i64 a0_4,.int .i64 a0_5,.int .i64 a0_6,.int .i64 a0_7,.int .i64 a0_8,.int .i64 a0_9,.int .i64 a0_10,.int .i64 a0_11,.int .i64 a0_12,.int .i64 a0_13,.int .i64 a0_14,.int .i64 a0_15,.int .i64 a0_16,.int .i64 a0_17,.int .i64 a0_18,.int .i64 a0_19,.int .i64 a0_20,.int .i64 a0_21,.int .i64 a0_22,.int .i64 a0_23,(.slice A0_24 l0_24.length c0_24),(.slice A0_25 l0_25.length c0_25)] 36 (0,0)))∧Aside0 (wc.heap[gb870]?=some (.cells #[.int .i64 t840,.int .i64 t841,.int .i64 t842,.int .i64 t843,.int .i64 t844,.int .i64 t845,.int .i64 t846,.int .i64 t847,.int .i64 t848,.int .i64 t849,.int .i64 t850,.int .i64 t851,.int .i64 t852,.int .i64 t853,.int .i64 t854,.int .i64 t855,.int .i64 t856,.int .i64 t857,.int .i64 t858,.int .i64 t859,.int .i64 t860,.int .i64 t861,.int .i64 t862,.int .i64 t863,(.slice Ao24 t907.length co24),(.slice Ao25 t908.length co25)] 28 (0,0)))∧Aside0 (Below w.heap.size w wc))
               case first =>
                have H:=HC58.out;clear HC58
                by_cases c66:t946=true
                ·subst c66;rw [if_pos rfl] at H;have H':=mA H;clear H
                 go_wp2_with (first|((with_reducible refine gLg rfl (by assumption) ?_);refine ldV ?_)|((with_reducible refine gSt rfl (by assumption) ?_);refine stV ?_))
                 go_meet
                 case rel=>exact ⟨_,H',⟨by have:=HJ2.out;have:=HJ12.out;have:=HJ31.out;have:=HJ39.out;have:=HJ45.out;have:=HJ49.out;have:=HJ52.out;first|omega|exact Nat.le_refl _⟩,⟨by (try simp only [hl871024_39]);(try simp only [hl871025_39]);(try simp only [hl6_49]);(with_reducible repeat (first|apply Kd.R_alloc|apply Kd.R_drewN|apply Kd.R_drew));exact Kd.R_mono HO_6.out (fun _ hk=>trivial)⟩,⟨by (try simp only [hl871024_39]);(try simp only [hl871025_39]);(try simp only [hl6_49]);(with_reducible repeat (first|apply Kd.R_alloc|apply Kd.R_drewN|apply Kd.R_drew));exact Kd.R_mono HO_871024.out (fun _ hk=>trivial)⟩,⟨by (try simp only [hl871024_39]);(try simp only [hl871025_39]);(try simp only [hl6_49]);(with_reducible repeat (first|apply Kd.R_alloc|apply Kd.R_drewN|apply Kd.R_drew));exact Kd.R_mono HO_871025.out (fun _ hk=>trivial)⟩,⟨by (try simp only [hl871024_39]);(try simp only [hl871025_39]);(try simp only [hl6_49]);(with_reducible repeat (first|refine blk_drewN ?_ _|refine blk_drew ?_|refine blk_alloc ?_ _));exact BK805.out⟩,⟨by (try simp only [hl871024_39]);(try simp only [hl871025_39]);(try simp only [hl6_49]);(with_reducible repeat (first|refine blk_drewN ?_ _|refine blk_drew ?_|refine blk_alloc ?_ _));exact BK870.out⟩,⟨pS HB.out⟩⟩
                ·replace c66:=Bool.eq_false_iff.mpr c66;subst c66
                 rw [if_neg nFT] at H
                 obtain rfl:=Option.some.inj H
                 go_wp2_with (first|((with_reducible refine gLg rfl (by assumption) ?_);refine ldV ?_)|((with_reducible refine gSt rfl (by assumption) ?_);refine stV ?_))
                 go_ret
                 exact rZ (pS HB.out)
               case rest =>
                clear HC58
                (try clear hcz14_0);(try clear hcz19_0);(try clear hcz23_0);(try clear hcz42_0);(try clear hcz5_0);(try clear hcz60_0);(try clear hfz14_0);(try clear hfz19_0);(try clear hfz23_0);(try clear hfz42_0);(try clear hfz5_0);(try clear hfz60_0)
                obtain ⟨kq,HA,HJ57,HO_6,HO_871024,HO_871025,BK805,BK870,HB⟩:=hcut
                cases kq with
                | zero=>exact absurd HA.out (by simp [laws_FnExactWordPack.j7])
                | succ kj57 =>
                 have H:=HA.out;clear HA;simp only [laws_FnExactWordPack.j7] at H;obtain ⟨t947,A67,H⟩:=bI H;(try dsimp only at H)
                 by_cases c68:t947<0
                 ·rw [if_pos c68] at H;have c68b0:decide (t947<0)=true:=decide_eq_true c68;clear c68;obtain rfl:=Option.some.inj H
                  go_wp2_with (first|((with_reducible refine gLg rfl (by assumption) ?_);refine ldV ?_)|((with_reducible refine gSt rfl (by assumption) ?_);refine stV ?_)|((with_reducible refine gT 63 rfl ?_);refine gC (some 63) Try.func24 (laws_heldByteS.calls (cR HO_6) (cL HO_6) A67.out) ?_;rintro e w' ⟨rfl,⟨nd,rfl⟩⟩;refine ⟨_,rfl,?_⟩))
                  go_ret
                  exact rZ (pS HB.out)
                 ·rw [if_neg c68] at H;have c68b0:decide (t947<0)=false:=decide_eq_false c68;clear c68
                  by_cases c69:t947=t910
                  ·rw [if_pos c69] at H;obtain ⟨c69b0,c69b1⟩:=eqB c69;clear c69;obtain rfl:=Option.some.inj H
                   go_wp2_with (first|((with_reducible refine gLg rfl (by assumption) ?_);refine ldV ?_)|((with_reducible refine gSt rfl (by assumption) ?_);refine stV ?_)|((with_reducible refine gT 63 rfl ?_);refine gC (some 63) Try.func24 (laws_heldByteS.calls (cR HO_6) (cL HO_6) A67.out) ?_;rintro e w' ⟨rfl,⟨nd,rfl⟩⟩;refine ⟨_,rfl,?_⟩))
                   go_ret
                   exact rZ (pS HB.out)
                  ·rw [if_neg c69] at H;have c69b0:(t947 == t910)=false:=beq_eq_false_iff_ne.mpr c69;have c69b1:(t947 != t910)=true:=bne_iff_ne.mpr c69;obtain rfl:=Option.some.inj H
                   go_wp2_with (first|((with_reducible refine gLg rfl (by assumption) ?_);refine ldV ?_)|((with_reducible refine gSt rfl (by assumption) ?_);refine stV ?_)|((with_reducible refine gT 63 rfl ?_);refine gC (some 63) Try.func24 (laws_heldByteS.calls (cR HO_6) (cL HO_6) A67.out) ?_;rintro e w' ⟨rfl,⟨nd,rfl⟩⟩;refine ⟨_,rfl,?_⟩))
                   go_ret
                   exact rZ (pS HB.out)

/-- THE ONE PURE STATEMENT of laws_FnExactWordPack. -/
def laws_FnExactWordPack.Pure : Prop := ∀ (a0_0 : Int) (a0_1 : Int) (a0_2 : Int) (a0_3 : Int) (a0_4 : Int) (a0_5 : Int) (a0_6 : Int) (a0_7 : Int) (a0_8 : Int) (a0_9 : Int) (a0_10 : Int) (a0_11 : Int) (a0_12 : Int) (a0_13 : Int) (a0_14 : Int) (a0_15 : Int) (a0_16 : Int) (a0_17 : Int) (a0_18 : Int) (a0_19 : Int) (a0_20 : Int) (a0_21 : Int) (a0_22 : Int) (a0_23 : Int) (l0_24 : List (S146)) (l0_25 : List (S148)), wf36 (⟨a0_0, a0_1, a0_2, a0_3, a0_4, a0_5, (⟨a0_6, a0_7, a0_8, a0_9, a0_10, a0_11, a0_12, a0_13, a0_14, a0_15⟩ : S32), a0_16, a0_17, a0_18, a0_19, a0_20, a0_21, a0_22, a0_23, l0_24, l0_25⟩ : S36) → ∃ k, laws_FnExactWordPack.f k a0_0 a0_1 a0_2 a0_3 a0_4 a0_5 a0_6 a0_7 a0_8 a0_9 a0_10 a0_11 a0_12 a0_13 a0_14 a0_15 a0_16 a0_17 a0_18 a0_19 a0_20 a0_21 a0_22 a0_23 l0_24 l0_25 = some true
theorem laws_FnExactWordPack.walk (P : laws_FnExactWordPack.Pure) (a0_0 : Int) (a0_1 : Int) (a0_2 : Int) (a0_3 : Int) (a0_4 : Int) (a0_5 : Int) (a0_6 : Int) (a0_7 : Int) (a0_8 : Int) (a0_9 : Int) (a0_10 : Int) (a0_11 : Int) (a0_12 : Int) (a0_13 : Int) (a0_14 : Int) (a0_15 : Int) (a0_16 : Int) (a0_17 : Int) (a0_18 : Int) (a0_19 : Int) (a0_20 : Int) (a0_21 : Int) (a0_22 : Int) (a0_23 : Int) (A0_24 : Option Addr) (c0_24 : Nat) (l0_24 : List (S146)) (A0_25 : Option Addr) (c0_25 : Nat) (l0_25 : List (S148)) (w : World) (hw0 : wf36 (⟨a0_0, a0_1, a0_2, a0_3, a0_4, a0_5, (⟨a0_6, a0_7, a0_8, a0_9, a0_10, a0_11, a0_12, a0_13, a0_14, a0_15⟩ : S32), a0_16, a0_17, a0_18, a0_19, a0_20, a0_21, a0_22, a0_23, l0_24, l0_25⟩ : S36)) (hr0_24 : Kd.C k146 w A0_24 l0_24.length l0_24) (hc0_24 : l0_24.length ≤ c0_24) (hr0_25 : Kd.C k148 w A0_25 l0_25.length l0_25) (hc0_25 : l0_25.length ≤ c0_25) :
  Calls Try.prog 5 #[.agg #[.int .i64 a0_0,.int .i64 a0_1,.int .i64 a0_2,.int .i64 a0_3,.int .i64 a0_4,.int .i64 a0_5,.int .i64 a0_6,.int .i64 a0_7,.int .i64 a0_8,.int .i64 a0_9,.int .i64 a0_10,.int .i64 a0_11,.int .i64 a0_12,.int .i64 a0_13,.int .i64 a0_14,.int .i64 a0_15,.int .i64 a0_16,.int .i64 a0_17,.int .i64 a0_18,.int .i64 a0_19,.int .i64 a0_20,.int .i64 a0_21,.int .i64 a0_22,.int .i64 a0_23,.slice A0_24 l0_24.length c0_24,.slice A0_25 l0_25.length c0_25]] w fun e w'=>e=.returned (.bool true)∧Below w.heap.size w w':=by
 obtain ⟨k,h⟩:=P a0_0 a0_1 a0_2 a0_3 a0_4 a0_5 a0_6 a0_7 a0_8 a0_9 a0_10 a0_11 a0_12 a0_13 a0_14 a0_15 a0_16 a0_17 a0_18 a0_19 a0_20 a0_21 a0_22 a0_23 l0_24 l0_25 hw0;refine (laws_FnExactWordPack.calls hr0_24 hc0_24 hr0_25 hc0_25 h).mono ?_;rintro e w' ⟨rfl,hd⟩
 exact ⟨rfl,hd⟩

end Go.Proofs.Ytoieojmfkkidnaa.P
