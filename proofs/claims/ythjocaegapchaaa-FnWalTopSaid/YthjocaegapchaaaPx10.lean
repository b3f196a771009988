-- printed by pprint.py (this session's program over the kit's printer) out of the translation. Lean checks it.
import Derived.Test.YthjocaegapchaaaPx0
import Derived.Test.YthjocaegapchaaaPx4
import Derived.Test.YthjocaegapchaaaPx5
namespace Go.Proofs.Ythjocaegapchaaa.P
open Go.RowKit Go.Proofs.YthjocaegapchaaaX Go.Proofs.YthjocaegapchaaaW.PrintWords Go.Proofs.YthjocaegapchaaaW.PrintLast Go.Proofs.YthjocaegapchaaaW.PrintMore
attribute [local go_sem] max2_int min2_int max_two min_two max_three min_three max_four min_four   -- for this text's walks alone
set_option linter.unusedVariables false
set_option linter.unusedSimpArgs false

/-! ### impl_WalSteps: function 28 -/
mutual
def impl_WalSteps.j0 : Nat → List ByteArray → List ByteArray → Bool → Option ((List (S61)) × Bool)
 | 0,_,_,_=>none
 | k+1,x1,x6,x30=>if x30=true then (some (([]:List (S61)),false)) else (impl_WalSteps.l0 k x6 ([]:List (S81)) x1 (x1.length:Int) 0)
def impl_WalSteps.l0 : Nat → List ByteArray → List (S81) → List ByteArray → Int → Int → Option ((List (S61)) × Bool)
 | 0,_,_,_,_,_=>none
 | k+1,x6,x8,x31,x32,x33=>if x33<x32 then (if 0≤x33 then (if x33<(x31.length:Int) then (if ((rdOf ByteArray.empty x31 x33).size:Int) > 15 then (some (([]:List (S61)),false)) else (if x33<(x6.length:Int) then (if (rdOf ByteArray.empty x31 x33).toList=(rdOf ByteArray.empty x6 x33).toList then (impl_WalSteps.l0 k x6 x8 x31 x32 (wrap64 (x33+1))) else (if x8.length<5864062014805 then (impl_WalSteps.l0 k x6 (x8 ++ [(⟨x33,rdOf ByteArray.empty x31 x33⟩:S81)]) x31 x32 (wrap64 (x33+1))) else (none))) else (none))) else (none)) else (none)) else (if (x8.length:Int)=0 then (some (([]:List (S61)),true)) else (impl_WalSteps.l1 k x8 ([]:List (S61)) x8 (x8.length:Int) 0))
def impl_WalSteps.l1 : Nat → List (S81) → List (S61) → List (S81) → Int → Int → Option ((List (S61)) × Bool)
 | 0,_,_,_,_,_=>none
 | k+1,x8,x11,x57,x58,x59=>if x59<x58 then (if 0≤x59 then (if x59<(x57.length:Int) then ((some (([((rd_T81 x57 x59).f0) % 256]:List Int):List Int)).bind fun y535=>(if (strOfNums y535).size+((rd_T81 x57 x59).f1).size≤9223372036854775807 then (if x11.length<4398046511104 then (impl_WalSteps.l1 k x8 (x11 ++ [(⟨false,wrap64 (1+x59),(strOfNums y535) ++ ((rd_T81 x57 x59).f1)⟩:S61)]) x57 x58 (wrap64 (x59+1))) else (none)) else (none))) else (none)) else (none)) else ((some (([(⟨true,0,(⟨#[]⟩:ByteArray)⟩:S61),(⟨false,0,strOfNums (([((x8.length:Int)) % 256]:List Int))⟩:S61),(⟨true,0,(⟨#[]⟩:ByteArray)⟩:S61)]:List (S61)):List (S61))).bind fun y544=>(if x11.length+y544.length<4398046511104 then ((impl_apply.f k x8 (x11 ++ y544)).bind fun t550=>((impl_copied_SecStep.f t550).bind fun t553=>(some (t553,true)))) else (none)))
end
def impl_WalSteps.f (k : Nat) (l0_0 : List ByteArray) (l0_1 : List (S75)) (l1 : List ByteArray) : Option ((List (S61)) × Bool) := (impl_WalRead.f k l0_0 l0_1).bind fun bt523 => (if bt523.2 = true then ((impl_SecLook.f k l0_0 l0_1 0).bind fun t527 => (if t527.toList = ([] : List UInt8) then (impl_WalSteps.j0 k l1 bt523.1 ((l1.length : Int) != 250)) else (impl_WalSteps.j0 k l1 bt523.1 true))) else (impl_WalSteps.j0 k l1 bt523.1 true))
theorem impl_WalSteps.mono_l : ∀ k, (∀ y0 y1 y2, LeO (impl_WalSteps.j0 k y0 y1 y2) (impl_WalSteps.j0 (k + 1) y0 y1 y2)) ∧ (∀ y0 y1 y2 y3 y4, LeO (impl_WalSteps.l0 k y0 y1 y2 y3 y4) (impl_WalSteps.l0 (k + 1) y0 y1 y2 y3 y4)) ∧ (∀ y0 y1 y2 y3 y4, LeO (impl_WalSteps.l1 k y0 y1 y2 y3 y4) (impl_WalSteps.l1 (k + 1) y0 y1 y2 y3 y4))
 | 0=>⟨fun _ _ _ r h=>by simp [impl_WalSteps.j0] at h,fun _ _ _ _ _ r h=>by simp [impl_WalSteps.l0] at h,fun _ _ _ _ _ r h=>by simp [impl_WalSteps.l1] at h⟩
 | k+1=>by
  obtain ⟨ih0,ih1,ih2⟩:=impl_WalSteps.mono_l k;refine ⟨?_,?_,?_⟩
  ·intro y0 y1 y2
   unfold impl_WalSteps.j0
   repeat' first
   | (with_reducible first|exact ih0 _ _ _|exact ih1 _ _ _ _ _|exact ih2 _ _ _ _ _|exact impl_SecLook.mono _ _ _ _|exact impl_WalRead.mono _ _ _|exact impl_apply.mono _ _ _|exact LeO.refl _|exact LeO.none _|refine LeO.ite ?_ ?_|refine LeO.bind ?_ (fun _=>?_))|exact ih0 _ _ _|exact ih1 _ _ _ _ _|exact ih2 _ _ _ _ _|exact impl_SecLook.mono _ _ _ _|exact impl_WalRead.mono _ _ _|exact impl_apply.mono _ _ _|exact LeO.none _|refine LeO.ite ?_ ?_|refine LeO.bind ?_ (fun _=>?_)
  ·intro y0 y1 y2 y3 y4
   unfold impl_WalSteps.l0
   repeat' first
   | (with_reducible first|exact ih0 _ _ _|exact ih1 _ _ _ _ _|exact ih2 _ _ _ _ _|exact impl_SecLook.mono _ _ _ _|exact impl_WalRead.mono _ _ _|exact impl_apply.mono _ _ _|exact LeO.refl _|exact LeO.none _|refine LeO.ite ?_ ?_|refine LeO.bind ?_ (fun _=>?_))|exact ih0 _ _ _|exact ih1 _ _ _ _ _|exact ih2 _ _ _ _ _|exact impl_SecLook.mono _ _ _ _|exact impl_WalRead.mono _ _ _|exact impl_apply.mono _ _ _|exact LeO.none _|refine LeO.ite ?_ ?_|refine LeO.bind ?_ (fun _=>?_)
  ·intro y0 y1 y2 y3 y4
   unfold impl_WalSteps.l1
   repeat' first
   | (with_reducible first|exact ih0 _ _ _|exact ih1 _ _ _ _ _|exact ih2 _ _ _ _ _|exact impl_SecLook.mono _ _ _ _|exact impl_WalRead.mono _ _ _|exact impl_apply.mono _ _ _|exact LeO.refl _|exact LeO.none _|refine LeO.ite ?_ ?_|refine LeO.bind ?_ (fun _=>?_))|exact ih0 _ _ _|exact ih1 _ _ _ _ _|exact ih2 _ _ _ _ _|exact impl_SecLook.mono _ _ _ _|exact impl_WalRead.mono _ _ _|exact impl_apply.mono _ _ _|exact LeO.none _|refine LeO.ite ?_ ?_|refine LeO.bind ?_ (fun _=>?_)
theorem impl_WalSteps.mono : ∀ a0 a1 a2 k, LeO (impl_WalSteps.f k a0 a1 a2) (impl_WalSteps.f (k + 1) a0 a1 a2) := by
 intro a0 a1 a2 k;obtain ⟨ih0,ih1,ih2⟩:=impl_WalSteps.mono_l k
 unfold impl_WalSteps.f
 repeat' first
   | (with_reducible first|exact ih0 _ _ _|exact ih1 _ _ _ _ _|exact ih2 _ _ _ _ _|exact impl_SecLook.mono _ _ _ _|exact impl_WalRead.mono _ _ _|exact impl_apply.mono _ _ _|exact LeO.refl _|exact LeO.none _|refine LeO.ite ?_ ?_|refine LeO.bind ?_ (fun _=>?_))|exact ih0 _ _ _|exact ih1 _ _ _ _ _|exact ih2 _ _ _ _ _|exact impl_SecLook.mono _ _ _ _|exact impl_WalRead.mono _ _ _|exact impl_apply.mono _ _ _|exact LeO.none _|refine LeO.ite ?_ ?_|refine LeO.bind ?_ (fun _=>?_)
set_option maxHeartbeats 8000000 in
set_option maxRecDepth 100000 in
theorem impl_WalSteps.calls (k : Nat) (A0_0 : Option Addr) (c0_0 : Nat) (l0_0 : List ByteArray) (A0_1 : Option Addr) (c0_1 : Nat) (l0_1 : List (S75)) (A1 : Option Addr) (c1 : Nat) (l1 : List ByteArray) (r1 : List (S61)) (r2 : Bool) (w : World) (hr0_0 : Kd.C Kd.string w A0_0 l0_0.length l0_0) (hc0_0 : l0_0.length ≤ c0_0) (hr0_1 : Kd.C k75 w A0_1 l0_1.length l0_1) (hc0_1 : l0_1.length ≤ c0_1) (hr1 : Kd.C Kd.string w A1 l1.length l1) (hc1 : l1.length ≤ c1) (h : impl_WalSteps.f k l0_0 l0_1 l1 = some (r1, r2)) :
  Calls Try.prog 28 #[.agg #[.slice A0_0 l0_0.length c0_0,.slice A0_1 l0_1.length c0_1],.slice A1 l1.length c1] w fun e w'=>∃ v0_:Value,e=.returned (.tuple #[v0_,.bool r2])∧Kd.R k61 61 w' w.heap.size (fun _=>True) v0_ r1∧Below w.heap.size w w':=by
 have hu31:=Try.underlying31;have hu81:=Try.underlying81;have hu61:=Try.underlying61;have HR0_0:=mA hr0_0;have HC0_0:=mA hc0_0;clear hr0_0 hc0_0;have HR0_1:=mA hr0_1;have HC0_1:=mA hc0_1;clear hr0_1 hc0_1;have HR1:=mA hr1;have HC1:=mA hc1;clear hr1 hc1;have HB:=mA (Below.refl w.heap.size w);have H:((impl_WalRead.f k l0_0 l0_1).bind fun bt523=>(if bt523.2=true then ((impl_SecLook.f k l0_0 l0_1 0).bind fun t527=>(if t527.toList=([]:List UInt8) then (impl_WalSteps.j0 k l1 bt523.1 ((l1.length:Int) != 250)) else (impl_WalSteps.j0 k l1 bt523.1 true))) else (impl_WalSteps.j0 k l1 bt523.1 true)))=some (r1,r2):=h;clear h;obtain ⟨⟨t523,t526⟩,A3,H⟩:=bI H;(try dsimp only at H);have HC4:=mA H;clear H
 go_enter Try.func28,Try.ntmps28
 go_upto_region 2 with (first|((with_reducible refine gate_dst (N:=2) rfl ?_);(try (refine gate_guard (by rfl) ?_;dsimp only));refine bE 2 #[.slice A0_0 l0_0.length c0_0,.slice A0_1 l0_1.length c0_1] 31 ?_;intro gb522 hg w5 hbox hb;have BK522:=mA hbox;have GW522:=gbpB HB hg;have GE522:=gbpB HB hg;replace HB:=spB HB hb;clear hb hbox hg;obtain ⟨hcz6_0,hcz6_1,hfz6_0,hfz6_1⟩:=box2 BK522.out)|(refine gL (some 16) Try.func14 #[.agg #[.slice A0_0 l0_0.length c0_0,.slice A0_1 l0_1.length c0_1]] ?_;(with_reducible refine (impl_WalRead.calls k _ _ l0_0 _ _ l0_1 t523 t526 _ ?s1 ?s2 ?s3 ?s4 A3.out).mono ?_);(case s1=>exact cB HR0_0 HB);(case s2=>exact HC0_0.out);(case s3=>exact cB HR0_1 HB);(case s4=>exact HC0_1.out);rintro e w7 ⟨v524,rfl,ho0,hb⟩;refine ⟨_,rfl,?_⟩;have HO525:=mA (Kd.R_lower ho0 (bpS HB));replace BK522:=bK BK522 hb;replace HB:=spS HB hb;(try clear hb);(try clear ho0)))
 (try simp only [Act.put,List.setIfInBounds_toArray,List.set_cons_zero,List.set_cons_succ])
 go_cut [30] (fun v30 wc=>∃ (kq:Nat) (x30_3:Bool),v30=.bool x30_3∧Aside0 (impl_WalSteps.j0 kq l1 t523 x30_3=some (r1,r2))∧Aside0 (kq≤k)∧Aside0 (Kd.R Kd.string 9 wc w.heap.size (fun _=>True) v524 t523)∧Aside0 (wc.heap[gb522]?=some (.cells #[(.slice A0_0 l0_0.length c0_0),(.slice A0_1 l0_1.length c0_1)] 31 (0,0)))∧Aside0 (Below w.heap.size w wc))
 case first =>
  have H:=HC4.out;clear HC4
  by_cases c8:t526=true
  ·subst c8;rw [if_pos rfl] at H;obtain ⟨t527,A9,H⟩:=bI H;(try dsimp only at H)
   by_cases c10:t527.toList=([]:List UInt8)
   ·rw [if_pos c10] at H;obtain ⟨c10b0,c10b1⟩:=eqB c10;clear c10
    (first|rw [c10b0]|(simp only [i64_w,i32_w];rw [c10b0])|skip)
    have H':=mA H;clear H;obtain ⟨hcz11_0,hcz11_1,hfz11_0,hfz11_1⟩:=box2 BK522.out
    go_wp2_with (first|(go_at_call 40;(with_reducible refine (impl_SecLook.calls k _ _ l0_0 _ _ l0_1 0 t527 _ ?s1 ?s2 ?s3 ?s4 A9.out).mono ?_);(case s1=>exact cB HR0_0 HB);(case s2=>exact HC0_0.out);(case s3=>exact cB HR0_1 HB);(case s4=>exact HC0_1.out);rintro e w12 ⟨rfl,hb⟩;replace HO525:=rB HO525 hb;replace BK522:=bK BK522 hb;replace HB:=spS HB hb;(try clear hb)))
    go_meet
    case rel=>exact ⟨_,(((l1.length:Int) != 250)),bZ,H',⟨by first|omega|exact Nat.le_refl _⟩,⟨pR HO525.out⟩,⟨pK BK522.out⟩,⟨pS HB.out⟩⟩
   ·rw [if_neg c10] at H;have c10b0:(t527.toList == ([]:List UInt8))=false:=beq_eq_false_iff_ne.mpr c10;have c10b1:(t527.toList != ([]:List UInt8))=true:=bne_iff_ne.mpr c10
    (first|rw [c10b0]|(simp only [i64_w,i32_w];rw [c10b0])|skip)
    have H':=mA H;clear H;obtain ⟨hcz13_0,hcz13_1,hfz13_0,hfz13_1⟩:=box2 BK522.out
    go_wp2_with (first|(go_at_call 40;(with_reducible refine (impl_SecLook.calls k _ _ l0_0 _ _ l0_1 0 t527 _ ?s1 ?s2 ?s3 ?s4 A9.out).mono ?_);(case s1=>exact cB HR0_0 HB);(case s2=>exact HC0_0.out);(case s3=>exact cB HR0_1 HB);(case s4=>exact HC0_1.out);rintro e w14 ⟨rfl,hb⟩;replace HO525:=rB HO525 hb;replace BK522:=bK BK522 hb;replace HB:=spS HB hb;(try clear hb)))
    go_meet
    case rel=>exact ⟨_,(true),bZ,H',⟨by first|omega|exact Nat.le_refl _⟩,⟨pR HO525.out⟩,⟨pK BK522.out⟩,⟨pS HB.out⟩⟩
  ·replace c8:=Bool.eq_false_iff.mpr c8;subst c8
   rw [if_neg nFT] at H
   have H':=mA H;clear H
   go_wp2
   go_meet
   case rel=>exact ⟨_,(true),bZ,H',⟨by first|omega|exact Nat.le_refl _⟩,⟨pR HO525.out⟩,⟨pK BK522.out⟩,⟨pS HB.out⟩⟩
 case rest =>
  clear HC4
  (try clear hcz6_0);(try clear hcz6_1);(try clear hfz6_0);(try clear hfz6_1)
  obtain ⟨kq,x30_3,rfl,HA,HJ3,HO_6,BK522,HB⟩:=hcut
  cases kq with
  | zero=>exact absurd HA.out (by simp [impl_WalSteps.j0])
  | succ kj3 =>
   have H:=HA.out;clear HA;simp only [impl_WalSteps.j0] at H
   by_cases c15:x30_3=true
   ·subst c15;rw [if_pos rfl] at H;simp only [Option.some.injEq,Prod.mk.injEq] at H;obtain ⟨rfl,rfl⟩:=H
    go_wp2
    go_ret2
    exact ⟨_,by first|rfl|(simp [errW_none,errW_some]<;>rfl)|(simp [*,errW_none,errW_some]<;>rfl),aN,pS HB.out⟩
   ·replace c15:=Bool.eq_false_iff.mpr c15;subst c15
    rw [if_neg nFT] at H
    have H':=mA H;clear H
    go_wp2
    go_loopg [8,33] kj3 (fun kq v8 v33 w'=>∃ (x8_2:List (S81)) (x33_2:Int),v33=.int .i64 x33_2∧Aside0 (impl_WalSteps.l0 kq t523 x8_2 l1 (l1.length:Int) x33_2=some (r1,r2))∧Aside0 (kq≤kj3)∧Aside0 (Kd.R Kd.string 9 w' w.heap.size (fun _=>True) v524 t523)∧Aside0 (Kd.R k81 81 w' w.heap.size (fun _=>True) v8 x8_2)∧Aside0 (w'.heap[gb522]?=some (.cells #[(.slice A0_0 l0_0.length c0_0),(.slice A0_1 l0_1.length c0_1)] 31 (0,0)))∧Aside0 (Below w.heap.size w w'))
    case atStart=>exact ⟨(([]:List (S81))),(0),bZ,H',⟨Nat.le_refl _⟩,⟨pR HO_6.out⟩,⟨aN⟩,⟨pK BK522.out⟩,⟨pS HB.out⟩⟩
    case round =>
     clear H'
     (try clear c15);(try clear hcz6_0);(try clear hcz6_1);(try clear hfz6_0);(try clear hfz6_1)
     obtain ⟨x8_2,x33_2,rfl,HA,HK2,HO_6,HO_8,BK522,HB⟩:=hrel
     cases gk with
     | zero=>exact absurd HA.out (by simp [impl_WalSteps.l0])
     | succ k2 =>
      have H:=HA.out;clear HA;simp only [impl_WalSteps.l0] at H
      by_cases c16:x33_2<(l1.length:Int)
      ·rw [if_pos c16] at H;have c16b0:decide (x33_2<(l1.length:Int))=true:=decide_eq_true c16;clear c16
       by_cases c17:0≤x33_2
       ·rw [if_pos c17] at H;have c17b0:decide (0≤x33_2)=true:=decide_eq_true c17;clear c17
        by_cases c18:x33_2<(l1.length:Int)
        ·rw [if_pos c18] at H;have c18b0:decide (x33_2<(l1.length:Int))=true:=decide_eq_true c18;clear c18
         by_cases c19:((rdOf ByteArray.empty l1 x33_2).size:Int) > 15
         ·rw [if_pos c19] at H;have c19b0:decide (15<((rdOf ByteArray.empty l1 x33_2).size:Int))=true:=decide_eq_true c19
          have c19b1:decide (15<(rdOf ByteArray.empty l1 x33_2).size)=true:=decide_eq_true (by omega)
          clear c19;simp only [Option.some.injEq,Prod.mk.injEq] at H;obtain ⟨rfl,rfl⟩:=H;have p528:0≤(x33_2:Int):=of_decide_eq_true bA;have q528:x33_2<(l1.length:Int):=of_decide_eq_true bA;obtain ⟨ad528,e528,hx528_0⟩:=Kd.at_string HR1.out x33_2 p528 q528;cases e528;replace hx528_0:=hC HB hx528_0;replace p528:=eq_true p528;replace q528:=eq_true q528
          go_wp2
          go_ret2
          exact ⟨_,by first|rfl|(simp [errW_none,errW_some]<;>rfl)|(simp [*,errW_none,errW_some]<;>rfl),aN,pS HB.out⟩
         ·rw [if_neg c19] at H;have c19b0:decide (15<((rdOf ByteArray.empty l1 x33_2).size:Int))=false:=decide_eq_false c19
          have c19b1:decide (15<(rdOf ByteArray.empty l1 x33_2).size)=false:=decide_eq_false (by omega)
          clear c19
          by_cases c20:x33_2<(t523.length:Int)
          ·rw [if_pos c20] at H;have c20b0:decide (x33_2<(t523.length:Int))=true:=decide_eq_true c20;clear c20
           by_cases c21:(rdOf ByteArray.empty l1 x33_2).toList=(rdOf ByteArray.empty t523 x33_2).toList
           ·rw [if_pos c21] at H;obtain ⟨c21b0,c21b1⟩:=eqB c21;clear c21;have H':=mA H;clear H;have p528:0≤(x33_2:Int):=of_decide_eq_true bA;have q528:x33_2<(l1.length:Int):=of_decide_eq_true bA;obtain ⟨ad528,e528,hx528_0⟩:=Kd.at_string HR1.out x33_2 p528 q528;cases e528;replace hx528_0:=hC HB hx528_0;replace p528:=eq_true p528;replace q528:=eq_true q528;obtain ⟨Ao22,co22,rfl⟩:=Kd.R_slice HO_6.out;have p529:0≤(x33_2:Int):=of_decide_eq_true bA;have q529:x33_2<(t523.length:Int):=of_decide_eq_true bA;obtain ⟨ad529,e529,hx529_0⟩:=Kd.at_string (Kd.R_reads' HO_6.out).2.2 x33_2 p529 q529;cases e529;replace p529:=eq_true p529;replace q529:=eq_true q529
            go_wp2
            go_roundg k2
            case measure=>have:=HJ3.out;have:=HK2.out;omega
            case rel=>exact ⟨(x8_2),(wrap64 (x33_2+1)),bZ,H',⟨by have:=HJ3.out;have:=HK2.out;omega⟩,⟨pR HO_6.out⟩,⟨pR HO_8.out⟩,⟨pK BK522.out⟩,⟨pS HB.out⟩⟩
           ·rw [if_neg c21] at H;have c21b0:((rdOf ByteArray.empty l1 x33_2).toList == (rdOf ByteArray.empty t523 x33_2).toList)=false:=beq_eq_false_iff_ne.mpr c21;have c21b1:((rdOf ByteArray.empty l1 x33_2).toList != (rdOf ByteArray.empty t523 x33_2).toList)=true:=bne_iff_ne.mpr c21
            by_cases c23:x8_2.length<5864062014805
            ·rw [if_pos c23] at H;have LMc23:=mA c23;clear c23;obtain ⟨y530,hy530⟩:∃ y_:List (S81),y_=(x8_2 ++ [(⟨x33_2,rdOf ByteArray.empty l1 x33_2⟩:S81)]):=⟨_,rfl⟩
             replace H:(impl_WalSteps.l0 k2 t523 y530 l1 (l1.length:Int) (wrap64 (x33_2+1)))=some (r1,r2):=qH hy530 H
             have Ny530:=mA hy530;clear hy530;have H':=mA H;clear H;have p528:0≤(x33_2:Int):=of_decide_eq_true bA;have q528:x33_2<(l1.length:Int):=of_decide_eq_true bA;obtain ⟨ad528,e528,hx528_0⟩:=Kd.at_string HR1.out x33_2 p528 q528;cases e528;replace hx528_0:=hC HB hx528_0;replace p528:=eq_true p528;replace q528:=eq_true q528;obtain ⟨Ao24,co24,rfl⟩:=Kd.R_slice HO_6.out;have p529:0≤(x33_2:Int):=of_decide_eq_true bA;have q529:x33_2<(t523.length:Int):=of_decide_eq_true bA;obtain ⟨ad529,e529,hx529_0⟩:=Kd.at_string (Kd.R_reads' HO_6.out).2.2 x33_2 p529 q529;cases e529;replace p529:=eq_true p529;replace q529:=eq_true q529
             go_wp2_with (first|((with_reducible refine gate_builtin (b:=.append) (xs:=#[.tmp 47,.tmp 51]) rfl ?_);(try (refine gate_guard (by rfl) ?_;dsimp only));at_builtin;refine Kd.R_append k81 (w0:=w) w.heap.size rfl (.tmp 47) (.tmp 51) 77 81 (.agg #[(.int .i64 0),(.string ⟨#[]⟩)]) 24 rfl Try.underlying77 info81 rfl aD (by omega) u8 x8_2 (⟨x33_2,rdOf ByteArray.empty l1 x33_2⟩:S81) [.int .i64 x33_2,.string (rdOf ByteArray.empty l1 x33_2)] (fun _=>True) (fun _=>False) rfl rfl ?aP (fun _ hk=>hk.elim) ?aF ?aO ?aB ?aS ?aL ?_;(case aP=>exact k81_mkM _ _ _ (⟨x33_2,rdOf ByteArray.empty l1 x33_2⟩:S81));(case aB=>exact (pS HB.out));(case aF=>exact (fun _ _=>trivial));(case aO=>exact (pR HO_8.out));(case aS=>exact (bpS HB));(case aL=>have:=LMc23.out;omega);intro v531 w25 ho hb hg hat;rw [← Ny530.out] at ho;replace HO_6:=mA (Kd.R_over' (pR HO_6.out) (Kd.R_typed (pR HO_8.out)) aD hg);have HO532:=mA ho;replace BK522:=mA (blk_grown (pK BK522.out) hg (rN HO_8 BK522));replace HB:=mA hb;clear HO_8;clear ho hb hg hat))
             go_roundg k2
             case measure=>have:=HJ3.out;have:=HK2.out;omega
             case rel=>exact ⟨(y530),(wrap64 (x33_2+1)),bZ,H',⟨by have:=HJ3.out;have:=HK2.out;omega⟩,⟨pR HO_6.out⟩,⟨pR HO532.out⟩,⟨pK BK522.out⟩,⟨pS HB.out⟩⟩
            ·rw [if_neg c23] at H
             exact absurd H (by simp)
          ·rw [if_neg c20] at H
           exact absurd H (by simp)
        ·rw [if_neg c18] at H
         exact absurd H (by simp)
       ·rw [if_neg c17] at H
        exact absurd H (by simp)
      ·rw [if_neg c16] at H;have c16b0:decide (x33_2<(l1.length:Int))=false:=decide_eq_false c16;clear c16
       by_cases c26:(x8_2.length:Int)=0
       ·rw [if_pos c26] at H;obtain ⟨c26b0,c26b1⟩:=eqB c26;clear c26;simp only [Option.some.injEq,Prod.mk.injEq] at H;obtain ⟨rfl,rfl⟩:=H;obtain ⟨Ao27,co27,rfl⟩:=Kd.R_slice HO_8.out
        go_wp2
        go_ret2
        exact ⟨_,by first|rfl|(simp [errW_none,errW_some]<;>rfl)|(simp [*,errW_none,errW_some]<;>rfl),aN,pS HB.out⟩
       ·rw [if_neg c26] at H;have c26b0:((x8_2.length:Int) == 0)=false:=beq_eq_false_iff_ne.mpr c26;have c26b1:((x8_2.length:Int) != 0)=true:=bne_iff_ne.mpr c26
        have c26b2:¬ (x8_2=[]):=fun h_=>c26 (by rw [h_];rfl)
        have H':=mA H;clear H;obtain ⟨Ao28,co28,rfl⟩:=Kd.R_slice HO_8.out
        go_wp2
        go_loopg [11,59] k2 (fun kq v11 v59 w'=>∃ (x11_3:List (S61)) (x59_3:Int),v59=.int .i64 x59_3∧Aside0 (impl_WalSteps.l1 kq x8_2 x11_3 x8_2 (x8_2.length:Int) x59_3=some (r1,r2))∧Aside0 (kq≤k2)∧Aside0 (Kd.R k81 81 w' w.heap.size (fun _=>True) (.slice Ao28 x8_2.length co28) x8_2)∧Aside0 (Kd.R k61 61 w' w.heap.size (fun _=>True) v11 x11_3)∧Aside0 (Kd.R k81 81 w' w.heap.size (fun _=>True) (.slice Ao28 x8_2.length co28) x8_2)∧Aside0 (w'.heap[gb522]?=some (.cells #[(.slice A0_0 l0_0.length c0_0),(.slice A0_1 l0_1.length c0_1)] 31 (0,0)))∧Aside0 (Below w.heap.size w w'))
        case atStart=>exact ⟨(([]:List (S61))),(0),bZ,H',⟨Nat.le_refl _⟩,⟨pR HO_8.out⟩,⟨aN⟩,⟨pR HO_8.out⟩,⟨pK BK522.out⟩,⟨pS HB.out⟩⟩
        case round =>
         clear H'
         (try clear c15);(try clear c16);(try clear c16b0);(try clear c26);(try clear c26b0);(try clear c26b1);(try clear c26b2);(try clear hcz6_0);(try clear hcz6_1);(try clear hfz6_0);(try clear hfz6_1)
         obtain ⟨x11_3,x59_3,rfl,HA,HK3,HO_8,HO_11,HO_57,BK522,HB⟩:=hrel
         cases gk with
         | zero=>exact absurd HA.out (by simp [impl_WalSteps.l1])
         | succ k3 =>
          have H:=HA.out;clear HA;simp only [impl_WalSteps.l1] at H
          by_cases c29:x59_3<(x8_2.length:Int)
          ·rw [if_pos c29] at H;have c29b0:decide (x59_3<(x8_2.length:Int))=true:=decide_eq_true c29;clear c29
           by_cases c30:0≤x59_3
           ·rw [if_pos c30] at H;have c30b0:decide (0≤x59_3)=true:=decide_eq_true c30;clear c30
            by_cases c31:x59_3<(x8_2.length:Int)
            ·rw [if_pos c31] at H;have c31b0:decide (x59_3<(x8_2.length:Int))=true:=decide_eq_true c31;clear c31;obtain ⟨y535,hy535⟩:∃ y_:List Int,y_=(([((rd_T81 x8_2 x59_3).f0) % 256]:List Int)):=⟨_,rfl⟩
             replace H:(if (strOfNums y535).size+((rd_T81 x8_2 x59_3).f1).size≤9223372036854775807 then (if x11_3.length<4398046511104 then (impl_WalSteps.l1 k3 x8_2 (x11_3 ++ [(⟨false,wrap64 (1+x59_3),(strOfNums y535) ++ ((rd_T81 x8_2 x59_3).f1)⟩:S61)]) x8_2 (x8_2.length:Int) (wrap64 (x59_3+1))) else (none)) else (none))=some (r1,r2):=qH hy535 H
             have Ny535:=mA hy535;clear hy535
             by_cases c32:(strOfNums y535).size+((rd_T81 x8_2 x59_3).f1).size≤9223372036854775807
             ·rw [if_pos c32] at H;have c32b0:=eq_true c32;have c32b1:decide ((strOfNums y535).size+((rd_T81 x8_2 x59_3).f1).size≤9223372036854775807)=true:=decide_eq_true c32
              try have c32b2:(9223372036854775807<(strOfNums y535).size+((rd_T81 x8_2 x59_3).f1).size)=False:=eq_false (Nat.not_lt.2 c32)
              by_cases c33:x11_3.length<4398046511104
              ·rw [if_pos c33] at H;have LMc33:=mA c33;clear c33;obtain ⟨y538,hy538⟩:∃ y_:List (S61),y_=(x11_3 ++ [(⟨false,wrap64 (1+x59_3),(strOfNums y535) ++ ((rd_T81 x8_2 x59_3).f1)⟩:S61)]):=⟨_,rfl⟩
               replace H:(impl_WalSteps.l1 k3 x8_2 y538 x8_2 (x8_2.length:Int) (wrap64 (x59_3+1)))=some (r1,r2):=qH hy538 H
               have Ny538:=mA hy538;clear hy538;have H':=mA H;clear H;have p533:0≤(x59_3:Int):=of_decide_eq_true bA;have q533:x59_3<(x8_2.length:Int):=of_decide_eq_true bA;obtain ⟨ad533,e533,hx533_0,hx533_1⟩:=at_T81 (Kd.R_reads' HO_57.out).2.2 x59_3 p533 q533;cases e533;replace p533:=eq_true p533;replace q533:=eq_true q533
               go_wp2_with (first|((with_reducible refine gate_dst (N:=13) rfl ?_);(try (refine gate_guard (by rfl) ?_;dsimp only));refine bE 13 #[.int .i64 0,.string (⟨#[]⟩:ByteArray)] 81 ?_;intro gb534 hg w34 hbox hb;replace HO_8:=mA (Kd.R_below (Kd.R_elderB (pR HO_8.out) gb534 (Nat.le_of_eq hg.symm)) hb);replace HO_11:=rB HO_11 hb;replace HO_57:=mA (Kd.R_below (Kd.R_elderB (pR HO_57.out) gb534 (Nat.le_of_eq hg.symm)) hb);have BK534:=mA hbox;have GW534:=gbpS HB hg;have GE534:=gbpS HB hg;replace HB:=spS HB hb;have NB522_534:=mA (lN (blk_lt (pK BK522.out)) hg);have NB534_522:=nS NB522_534;replace BK522:=bK BK522 hb;clear hb hbox hg;have hnb35:=NB534_522.out;have hnc35:=NB522_534.out;obtain ⟨hcz36_0,hcz36_1,hfz36_0,hfz36_1⟩:=box2 BK534.out)|((with_reducible refine gate_dst (N:=70) rfl ?_);(try (refine gate_guard (by rfl) ?_;dsimp only));refine Kd.R_lit (Kd.int .u8) _ 5 ?hg (N:=70) ?hd (xs:=([((rd_T81 x8_2 x59_3).f0) % 256]:List Int)) (inner:=[.int .u8 (((rd_T81 x8_2 x59_3).f0) % 256)]) (ok:=fun _=>True) (okp:=fun _=>True) ?hr ?hp (fun _ hk=>hk) trivial (Below.refl _ _) (Nat.le_refl _) (by simp) ?_;(case hd=>rfl);(case hg=>rfl);(case hr=>first|(go_simp;done)|(go_simp;rfl));(case hp=>exact (Reps.one (show Kd.M (Kd.int .u8) _ _ _ (((rd_T81 x8_2 x59_3).f0) % 256) [.int .u8 (((rd_T81 x8_2 x59_3).f0) % 256)] from rfl) (Reps.none _ _)));intro v536 w37 ho38 hb hg_ hnew_;clear hg_ hnew_;(first|rw [← Ny535.out] at ho38|(simp only [Int.reduceToNat] at ho38;rw [← Ny535.out] at ho38));replace HO_8:=mA (Kd.R_below (pR (Kd.R_mono (Kd.R_far (p:=⟨gb534,1,none⟩) (Kd.R_far (p:=⟨gb534,0,none⟩) (Kd.R_mono HO_8.out (fun k_ hk=>(⟨hk,hk.2⟩:_∧k_≠gb534))) (fun _ hk=>hk.2) (.int .i64 ((rd_T81 x8_2 x59_3).f0))) (fun _ hk=>hk.2) (.string ((rd_T81 x8_2 x59_3).f1))) (fun _ h_=>h_.1))) hb);replace HO_11:=mA (Kd.R_below (pG HO_11 BK534) hb);replace HO_57:=mA (Kd.R_below (pR (Kd.R_mono (Kd.R_far (p:=⟨gb534,1,none⟩) (Kd.R_far (p:=⟨gb534,0,none⟩) (Kd.R_mono HO_57.out (fun k_ hk=>(⟨hk,hk.2⟩:_∧k_≠gb534))) (fun _ hk=>hk.2) (.int .i64 ((rd_T81 x8_2 x59_3).f0))) (fun _ hk=>hk.2) (.string ((rd_T81 x8_2 x59_3).f1))) (fun _ h_=>h_.1))) hb);have HO537:=mA (Kd.R_lower ho38 (bpS HB));replace BK522:=mA (blk_below (g:=gb522) (o:=.cells #[.slice A0_0 l0_0.length c0_0,.slice A0_1 l0_1.length c0_1] 31 (0,0)) (pF BK522.out) hb);replace BK534:=mA (blk_below (g:=gb534) (o:=.cells #[.int .i64 ((rd_T81 x8_2 x59_3).f0),.string ((rd_T81 x8_2 x59_3).f1)] 81 (0,0)) (pP BK534) hb);replace HB:=spS HB hb;clear hb ho38;have hcv39:=own_string (P:=Try.prog) Try.underlying46 Try.underlying5 Try.underlying9 (Kd.own_of_R HO537.out);obtain ⟨hcz40_0,hcz40_1,hfz40_0,hfz40_1⟩:=box2 BK534.out)|((with_reducible refine gate_builtin (b:=.append) (xs:=#[.tmp 64,.tmp 76]) rfl ?_);(try (refine gate_guard (by rfl) ?_;dsimp only));at_builtin;refine Kd.R_append k61 (w0:=w) w.heap.size rfl (.tmp 64) (.tmp 76) 38 61 (.agg #[(.bool false),(.int .i64 0),(.string ⟨#[]⟩)]) 32 rfl Try.underlying38 info61 rfl aD (by omega) u11 x11_3 (⟨false,wrap64 (1+x59_3),(strOfNums y535) ++ ((rd_T81 x8_2 x59_3).f1)⟩:S61) [.bool false,.int .i64 (wrap64 (1+x59_3)),.string ((strOfNums y535) ++ ((rd_T81 x8_2 x59_3).f1))] (fun _=>True) (fun _=>False) rfl rfl ?aP (fun _ hk=>hk.elim) ?aF ?aO ?aB ?aS ?aL ?_;(case aP=>exact k61_mkM _ _ _ (⟨false,wrap64 (1+x59_3),(strOfNums y535) ++ ((rd_T81 x8_2 x59_3).f1)⟩:S61));(case aB=>exact (pS HB.out));(case aF=>exact (fun _ _=>trivial));(case aO=>exact (pR HO_11.out));(case aS=>exact (bpS HB));(case aL=>have:=LMc33.out;omega);intro v539 w41 ho hb hg hat;rw [← Ny538.out] at ho;replace HO_8:=mA (Kd.R_over' (pR HO_8.out) (Kd.R_typed (pR HO_11.out)) aD hg);replace HO_57:=mA (Kd.R_over' (pR HO_57.out) (Kd.R_typed (pR HO_11.out)) aD hg);replace HO537:=mA (Kd.R_over' (pR HO537.out) (Kd.R_typed (pR HO_11.out)) aD hg);have HO540:=mA ho;replace BK522:=mA (blk_grown (pK BK522.out) hg (rN HO_11 BK522));replace BK534:=mA (blk_grown (pK BK534.out) hg (rN HO_11 BK534));replace HB:=mA hb;clear HO_11;clear ho hb hg hat))
               go_roundg k3
               case measure=>have:=HJ3.out;have:=HK2.out;have:=HK3.out;omega
               case rel=>exact ⟨(y538),(wrap64 (x59_3+1)),bZ,H',⟨by have:=HJ3.out;have:=HK2.out;have:=HK3.out;omega⟩,⟨pR (Kd.R_mono HO_8.out (fun _ hk=>trivial))⟩,⟨pR HO540.out⟩,⟨pR (Kd.R_mono HO_57.out (fun _ hk=>trivial))⟩,⟨pK BK522.out⟩,⟨pS HB.out⟩⟩
              ·rw [if_neg c33] at H
               exact absurd H (by simp)
             ·rw [if_neg c32] at H
              exact absurd H (by simp)
            ·rw [if_neg c31] at H
             exact absurd H (by simp)
           ·rw [if_neg c30] at H
            exact absurd H (by simp)
          ·rw [if_neg c29] at H;have c29b0:decide (x59_3<(x8_2.length:Int))=false:=decide_eq_false c29;clear c29;obtain ⟨y541,hy541⟩:∃ y_:List Int,y_=(([((x8_2.length:Int)) % 256]:List Int)):=⟨_,rfl⟩
           replace H:((some (([(⟨true,0,(⟨#[]⟩:ByteArray)⟩:S61),(⟨false,0,strOfNums y541⟩:S61),(⟨true,0,(⟨#[]⟩:ByteArray)⟩:S61)]:List (S61)):List (S61))).bind fun y544=>(if x11_3.length+y544.length<4398046511104 then ((impl_apply.f k3 x8_2 (x11_3 ++ y544)).bind fun t550=>((impl_copied_SecStep.f t550).bind fun t553=>(some (t553,true)))) else (none)))=some (r1,r2):=qH hy541 H
           have Ny541:=mA hy541;clear hy541;obtain ⟨y544,hy544⟩:∃ y_:List (S61),y_=(([(⟨true,0,(⟨#[]⟩:ByteArray)⟩:S61),(⟨false,0,strOfNums y541⟩:S61),(⟨true,0,(⟨#[]⟩:ByteArray)⟩:S61)]:List (S61))):=⟨_,rfl⟩
           replace H:(if x11_3.length+y544.length<4398046511104 then ((impl_apply.f k3 x8_2 (x11_3 ++ y544)).bind fun t550=>((impl_copied_SecStep.f t550).bind fun t553=>(some (t553,true)))) else (none))=some (r1,r2):=qH hy544 H
           have Ny544:=mA hy544;clear hy544
           by_cases c42:x11_3.length+y544.length<4398046511104
           ·rw [if_pos c42] at H;have LMc42:=mA c42;clear c42;obtain ⟨y547,hy547⟩:∃ y_:List (S61),y_=(x11_3 ++ y544):=⟨_,rfl⟩
            replace H:((impl_apply.f k3 x8_2 y547).bind fun t550=>((impl_copied_SecStep.f t550).bind fun t553=>(some (t553,true))))=some (r1,r2):=qH hy547 H
            have Ny547:=mA hy547;clear hy547;obtain ⟨t550,A43,H⟩:=bI H;(try dsimp only at H);obtain ⟨t553,A44,H⟩:=bI H;(try dsimp only at H);simp only [Option.some.injEq,Prod.mk.injEq] at H;obtain ⟨rfl,rfl⟩:=H
            go_wp2_with (first|((with_reducible refine gate_dst (N:=84) rfl ?_);(try (refine gate_guard (by rfl) ?_;dsimp only));refine Kd.R_lit (Kd.int .u8) _ 5 ?hg (N:=84) ?hd (xs:=([((x8_2.length:Int)) % 256]:List Int)) (inner:=[.int .u8 (((x8_2.length:Int)) % 256)]) (ok:=fun _=>True) (okp:=fun _=>True) ?hr ?hp (fun _ hk=>hk) trivial (Below.refl _ _) (Nat.le_refl _) (by simp) ?_;(case hd=>rfl);(case hg=>rfl);(case hr=>first|(go_simp;done)|(go_simp;rfl));(case hp=>exact (Reps.one (show Kd.M (Kd.int .u8) _ _ _ (((x8_2.length:Int)) % 256) [.int .u8 (((x8_2.length:Int)) % 256)] from rfl) (Reps.none _ _)));intro v542 w45 ho46 hb hg_ hnew_;clear hg_ hnew_;(first|rw [← Ny541.out] at ho46|(simp only [Int.reduceToNat] at ho46;rw [← Ny541.out] at ho46));replace HO_8:=rB HO_8 hb;replace HO_11:=rB HO_11 hb;replace HO_57:=rB HO_57 hb;have HO543:=mA (Kd.R_lower ho46 (bpS HB));replace BK522:=bK BK522 hb;replace HB:=spS HB hb;clear hb ho46;have hcv47:=own_string (P:=Try.prog) Try.underlying46 Try.underlying5 Try.underlying9 (Kd.own_of_R HO543.out))|((with_reducible refine gate_dst (N:=88) rfl ?_);(try (refine gate_guard (by rfl) ?_;dsimp only));refine Kd.R_lit k61 _ 61 ?hg (N:=88) ?hd (xs:=([(⟨true,0,(⟨#[]⟩:ByteArray)⟩:S61),(⟨false,0,strOfNums y541⟩:S61),(⟨true,0,(⟨#[]⟩:ByteArray)⟩:S61)]:List (S61))) (inner:=[.bool true,.int .i64 0,.string (⟨#[]⟩:ByteArray),.bool false,.int .i64 0,.string (strOfNums y541),.bool true,.int .i64 0,.string (⟨#[]⟩:ByteArray)]) (ok:=fun _=>True) (okp:=fun _=>True) ?hr ?hp (fun _ hk=>hk) trivial (Below.refl _ _) (Nat.le_refl _) (by simp) ?_;(case hd=>rfl);(case hg=>rfl);(case hr=>first|(go_simp;done)|(go_simp;rfl));(case hp=>exact (Reps.c3 (show Kd.M k61 _ _ _ (⟨true,0,(⟨#[]⟩:ByteArray)⟩:S61) [.bool true,.int .i64 0,.string (⟨#[]⟩:ByteArray)] from (k61_mkM _ _ _ (⟨true,0,(⟨#[]⟩:ByteArray)⟩:S61) )) (Reps.c3 (show Kd.M k61 _ _ _ (⟨false,0,strOfNums y541⟩:S61) [.bool false,.int .i64 0,.string (strOfNums y541)] from (k61_mkM _ _ _ (⟨false,0,strOfNums y541⟩:S61) )) (Reps.c3 (show Kd.M k61 _ _ _ (⟨true,0,(⟨#[]⟩:ByteArray)⟩:S61) [.bool true,.int .i64 0,.string (⟨#[]⟩:ByteArray)] from (k61_mkM _ _ _ (⟨true,0,(⟨#[]⟩:ByteArray)⟩:S61) )) (Reps.none _ _)))));intro v545 w48 ho49 hb hg_ hnew_;clear hg_ hnew_;(first|rw [← Ny544.out] at ho49|(simp only [Int.reduceToNat] at ho49;rw [← Ny544.out] at ho49));replace HO_8:=rB HO_8 hb;replace HO_57:=rB HO_57 hb;replace HO543:=rB HO543 hb;have HO546:=mA (Kd.R_lower (Kd.R_new' ho49 (rL HO_11)) (bpS HB));replace HO_11:=rE HO_11 ho49 hb;replace BK522:=bK BK522 hb;replace HB:=spS HB hb;clear hb ho49;obtain ⟨Ao51,co51,rfl⟩:=Kd.R_slice HO546.out)|((with_reducible refine gate_builtin (b:=.append) (xs:=#[.tmp 79,.tmp 88]) rfl ?_);(try (refine gate_guard (by rfl) ?_;dsimp only));at_builtin;refine Kd.R_append_rows k61 (w0:=w) w.heap.size rfl (.tmp 79) (.tmp 88) 38 61 (.agg #[(.bool false),(.int .i64 0),(.string ⟨#[]⟩)]) 32 rfl Try.underlying38 info61 rfl aD (by omega) u11 x11_3 y544 _ _ _ (fun k_=>some k_≠(.slice Ao51 y544.length co51:Value).ownBlock) (fun _=>False) rfl rfl ?aO ?aR (fun _ _ h=>h) (fun _ h=>h.elim) ?aF ?aB ?aS ?aL ?_;(case aR=>exact cR HO546);(case aB=>exact (pS HB.out));(case aF=>exact (fun k_ hk=>Kd.fresh' (rL HO546) k_ hk));(case aO=>exact (pR (Kd.R_mono HO_11.out (fun _ hk=>hk.2))));(case aS=>exact (bpS HB));(case aL=>have:=LMc42.out;omega);intro v548 w50 ho hb hg hat;rw [← Ny547.out] at ho;replace HO_8:=mA (Kd.R_over' (pR HO_8.out) (Kd.R_typed (pR HO_11.out)) aD hg);replace HO_57:=mA (Kd.R_over' (pR HO_57.out) (Kd.R_typed (pR HO_11.out)) aD hg);replace HO543:=mA (Kd.R_over' (pR HO543.out) (Kd.R_typed (pR HO_11.out)) aD hg);replace HO546:=mA (Kd.R_after (ok:=(fun _=>True)) (pR HO546.out) hg hat);have HO549:=mA ho;replace BK522:=mA (blk_grown (pK BK522.out) hg (rN HO_11 BK522));replace HB:=mA hb;clear HO_11;clear ho hb hg hat;obtain ⟨Ao52,co52,rfl⟩:=Kd.R_slice HO549.out)|(refine gL (some 92) Try.func57 #[.slice Ao28 x8_2.length co28,.slice Ao52 y547.length co52] ?_;(with_reducible refine (impl_apply.calls k3 _ _ x8_2 (fun k_=>some k_=(.slice Ao52 y547.length co52:Value).ownBlock) (.slice Ao52 y547.length co52) y547 t550 w _ ?s1 ?s2 ?s3 ?s4 A43.out).mono ?_);(case s1=>repeat (first|(with_reducible first|exact HB.out|apply below_alloc|apply pw_below_drewN|apply below_drew1|refine below_set ?_ GE522.out)|exact HB.out));(case s2=>exact Kd.C_kept_own ((Kd.R_apart' HO_8.out (Kd.R_typed HO549.out) aD)) (fun k_ hk_ hs_=>(hk_.2) hs_));(case s3=>exact cL HO_8);(case s4=>exact Kd.R_tight rfl HO549.out);rintro e w53 ⟨v551,rfl,ho0,hb,hkp⟩;refine ⟨_,rfl,?_⟩;replace HO_8:=mA (Kd.R_mono (ok':=fun k_=>True) (Kd.R_keptB ((Kd.R_apart' HO_8.out (Kd.R_typed HO549.out) aD)) hkp (fun k_ hk_ hs_=>(hk_.2) hs_)) (fun k_ hk_=>trivial));replace HO_57:=mA (Kd.R_mono (ok':=fun k_=>True) (Kd.R_keptB ((Kd.R_apart' HO_57.out (Kd.R_typed HO549.out) aD)) hkp (fun k_ hk_ hs_=>(hk_.2) hs_)) (fun k_ hk_=>trivial));replace HO543:=mA (Kd.R_mono (ok':=fun k_=>True) (Kd.R_keptB ((Kd.R_apart' HO543.out (Kd.R_typed HO549.out) aD)) hkp (fun k_ hk_ hs_=>(hk_.2) hs_)) (fun k_ hk_=>trivial));have HO552:=mA (Kd.R_mono (ok':=fun k_=>some k_≠(.slice Ao51 y544.length co51:Value).ownBlock) ho0 (fun k_ hk_=>Or.elim hk_ (fun hs_=>fun e_=>(((HO546.out).1 k_ e_.symm).2) hs_) (fun hn_=>(Kd.fresh' (rL HO546) k_ hn_))));replace HO546:=mA (Kd.R_mono (ok':=fun k_=>some k_≠(v551:Value).ownBlock) (Kd.R_keptB (HO546.out) hkp (fun k_ hk_ hs_=>(hk_.2) hs_)) (fun k_ hk_=>fun e_=>Or.elim (ho0.1 k_ e_.symm) (fun hs_=>hk_.2.1 hs_) (fun hn_=>Nat.not_le.2 hk_.2.2 hn_)));replace BK522:=mA (blk_kept (pK BK522.out) hkp (fun hs_=>(fun e_=>(Kd.R_ne HO549.out BK522.out aD) e_) hs_));replace HB:=mA hb;clear HO549;(try clear hb);(try clear hkp);(try clear ho0);obtain ⟨Ao54,co54,rfl⟩:=Kd.R_slice HO552.out)|(refine gL (some 93) Try.func56 #[.slice Ao54 t550.length co54] ?_;(with_reducible refine (impl_copied_SecStep.calls _ _ t550 t553 _ ?s1 ?s2 A44.out).mono ?_);(case s1=>exact cR HO552);(case s2=>exact cL HO552);rintro e w55 ⟨v554,rfl,ho0,hb⟩;refine ⟨_,rfl,?_⟩;replace HO_8:=rB HO_8 hb;replace HO_57:=rB HO_57 hb;replace HO543:=rB HO543 hb;have HO555:=mA (Kd.R_lower (Kd.R_new' (Kd.R_new' ho0 (rL HO546)) (rL HO552)) (bpS HB));replace HO546:=rE HO546 ho0 hb;replace HO552:=rE HO552 ho0 hb;replace BK522:=bK BK522 hb;replace HB:=spS HB hb;(try clear hb);(try clear ho0)))
            go_ret2
            exact ⟨_,by first|rfl|(simp [errW_none,errW_some]<;>rfl)|(simp [*,errW_none,errW_some]<;>rfl),pR (Kd.R_mono HO555.out (fun _ hk=>trivial)),pS HB.out⟩
           ·rw [if_neg c42] at H
            exact absurd H (by simp)

end Go.Proofs.Ythjocaegapchaaa.P
