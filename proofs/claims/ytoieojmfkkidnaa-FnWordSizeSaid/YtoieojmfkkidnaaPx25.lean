-- printed by pprint.py (this session's program over the kit's printer) out of the translation. Lean checks it.
import Derived.Test.YtoieojmfkkidnaaPx0
import Derived.Test.YtoieojmfkkidnaaPx7
import Derived.Test.YtoieojmfkkidnaaPx8
namespace Go.Proofs.Ytoieojmfkkidnaa.P
open Go.RowKit Go.Proofs.YtoieojmfkkidnaaX Go.Proofs.YtoieojmfkkidnaaW.PrintWords Go.Proofs.YtoieojmfkkidnaaW.PrintLast Go.Proofs.YtoieojmfkkidnaaW.PrintMore
attribute [local go_sem] max2_int min2_int max_two min_two max_three min_three max_four min_four   -- for this text's walks alone
set_option linter.unusedVariables false
set_option linter.unusedSimpArgs false

/-! ### spec_l11Byte: function 58 -/
mutual
def spec_l11Byte.l0 : Nat → List Int → List Int → Int → Option (List Int)
 | 0,_,_,_=>none
 | k+1,x0,x3,x4=>if x4<(x0.length:Int) then (if 0≤x4 then (spec_l11Byte.l1 k x0 x3 x4 (wrap64 ((rd x0 x4)+1))) else (none)) else (some x3)
def spec_l11Byte.l1 : Nat → List Int → List Int → Int → Int → Option (List Int)
 | 0,_,_,_,_=>none
 | k+1,x0,x3,x4,x5=>if x5 > 127 then (if x3.length<140737488355328 then (spec_l11Byte.l1 k x0 (x3 ++ [(wrap64 (128+(Int.tmod x5 128))) % 256]) x4 (wrap64 (Int.tdiv x5 128))) else (none)) else (if x3.length<140737488355328 then (spec_l11Byte.l0 k x0 (x3 ++ [(x5) % 256]) (wrap64 (x4+1))) else (none))
end
def spec_l11Byte.f (k : Nat) (l0 : List Int) : Option (List Int) := spec_l11Byte.l0 k l0 (([] : List Int)) 0
theorem spec_l11Byte.mono_l : ∀ k, (∀ y0 y1 y2, LeO (spec_l11Byte.l0 k y0 y1 y2) (spec_l11Byte.l0 (k + 1) y0 y1 y2)) ∧ (∀ y0 y1 y2 y3, LeO (spec_l11Byte.l1 k y0 y1 y2 y3) (spec_l11Byte.l1 (k + 1) y0 y1 y2 y3))
 | 0=>⟨fun _ _ _ r h=>by simp [spec_l11Byte.l0] at h,fun _ _ _ _ r h=>by simp [spec_l11Byte.l1] at h⟩
 | k+1=>by
  obtain ⟨ih0,ih1⟩:=spec_l11Byte.mono_l k;refine ⟨?_,?_⟩
  ·intros
   unfold spec_l11Byte.l0
   repeat' first
   | (with_reducible first|apply ih0|apply ih1|exact LeO.refl _|exact LeO.none _|refine LeO.ite ?_ ?_|refine LeO.bind ?_ (fun _=>?_))|exact LeO.none _|refine LeO.ite ?_ ?_|refine LeO.bind ?_ (fun _=>?_)
  ·intros
   unfold spec_l11Byte.l1
   repeat' first
   | (with_reducible first|apply ih0|apply ih1|exact LeO.refl _|exact LeO.none _|refine LeO.ite ?_ ?_|refine LeO.bind ?_ (fun _=>?_))|exact LeO.none _|refine LeO.ite ?_ ?_|refine LeO.bind ?_ (fun _=>?_)
theorem spec_l11Byte.mono : ∀ a0 k, LeO (spec_l11Byte.f k a0) (spec_l11Byte.f (k + 1) a0) := by
 intro a0 k;obtain ⟨ih0,ih1⟩:=spec_l11Byte.mono_l k
 unfold spec_l11Byte.f
 repeat' first
   | (with_reducible first|apply ih0|apply ih1|exact LeO.refl _|exact LeO.none _|refine LeO.ite ?_ ?_|refine LeO.bind ?_ (fun _=>?_))|exact LeO.none _|refine LeO.ite ?_ ?_|refine LeO.bind ?_ (fun _=>?_)
set_option maxHeartbeats 8000000 in
set_option maxRecDepth 100000 in
theorem spec_l11Byte.calls {k : Nat} {A0 : Option Addr} {c0 : Nat} {l0 : List Int} {r : List Int} {w : World} (hr0 : Kd.C (Kd.int .i64) w A0 l0.length l0) (hc0 : l0.length ≤ c0) (h : spec_l11Byte.f k l0 = some r) :
  Calls Try.prog 58 #[.slice A0 l0.length c0] w fun e w'=>∃ v0_:Value,e=.returned (v0_)∧Kd.R (Kd.int .u8) 5 w' w.heap.size (fun _=>True) v0_ r∧Below w.heap.size w w':=by
 have HR0:=mA hr0;have HC0:=mA hc0;clear hr0 hc0;have HB:=mA (Below.refl w.heap.size w);have H:(spec_l11Byte.l0 k l0 (([]:List Int)) 0)=some r:=h;clear h;obtain ⟨y425,hy425⟩:∃ y_:List Int,y_=(([]:List Int)):=⟨_,rfl⟩
 replace H:(spec_l11Byte.l0 k l0 y425 0)=some r:=qH hy425 H
 have Ny425:=mA hy425;clear hy425;have H':=mA H;clear H
 go_enter Try.func58,Try.ntmps58
 go_wp2_with (first|((with_reducible refine gT 6 rfl ?_);refine Kd.R_lit (Kd.int .u8) _ 5 ?hg (N:=6) ?hd (xs:=([]:List Int)) (inner:=[]) (ok:=fun _=>True) (okp:=fun _=>True) ?hr ?hp (fun _ hk=>hk) trivial (Below.refl _ _) (Nat.le_refl _) (by simp) ?_;(case hd=>rfl);(case hg=>rfl);(case hr=>first|(go_simp;done)|(go_simp;rfl));(case hp=>exact (Reps.none _ _));intro v426 w2 ho3 hb hg_ hnew_;clear hg_ hnew_;(first|rw [← Ny425.out] at ho3|(simp only [Int.reduceToNat] at ho3;rw [← Ny425.out] at ho3));have HO427:=mA (Kd.R_lower ho3 (bpB HB));replace HB:=spB HB hb;clear hb ho3))
 go_loopg [3,4] k (fun kq v3 v4 w'=>∃ (x3_1:List Int) (x4_1:Int),v4=.int .i64 x4_1∧Aside0 (spec_l11Byte.l0 kq l0 x3_1 x4_1=some r)∧Aside0 (kq≤k)∧Aside0 (Kd.R (Kd.int .u8) 5 w' w.heap.size (fun _=>True) v3 x3_1)∧Aside0 (Below w.heap.size w w'))
 case atStart=>exact ⟨(y425),(0),bZ,H',⟨Nat.le_refl _⟩,⟨pR HO427.out⟩,⟨pB HB.out⟩⟩
 case round =>
  clear H'
  obtain ⟨x3_1,x4_1,rfl,HA,HK1,HO_3,HB⟩:=hrel
  cases gk with
  | zero=>exact absurd HA.out (by simp [spec_l11Byte.l0])
  | succ k1 =>
   have H:=HA.out;clear HA;simp only [spec_l11Byte.l0] at H
   by_cases c4:x4_1<(l0.length:Int)
   ·rw [if_pos c4] at H;have c4b0:decide (x4_1<(l0.length:Int))=true:=decide_eq_true c4;clear c4
    by_cases c5:0≤x4_1
    ·rw [if_pos c5] at H;have c5b0:decide (0≤x4_1)=true:=decide_eq_true c5;clear c5;have H':=mA H;clear H;have p428:0≤(x4_1:Int):=of_decide_eq_true bA;have q428:x4_1<(l0.length:Int):=of_decide_eq_true bA;obtain ⟨ad428,e428,hx428_0⟩:=Kd.at_int HR0.out x4_1 p428 q428;cases e428;replace hx428_0:=hC HB hx428_0;replace p428:=eq_true p428;replace q428:=eq_true q428
     go_wp2
     go_loopg [3,5] k1 (fun kq v3 v5 w'=>∃ (x3_2:List Int) (x5_2:Int),v5=.int .i64 x5_2∧Aside0 (spec_l11Byte.l1 kq l0 x3_2 x4_1 x5_2=some r)∧Aside0 (kq≤k1)∧Aside0 (Kd.R (Kd.int .u8) 5 w' w.heap.size (fun _=>True) v3 x3_2)∧Aside0 (Below w.heap.size w w'))
     case atStart=>exact ⟨(x3_1),(wrap64 ((rd l0 x4_1)+1)),bZ,H',⟨Nat.le_refl _⟩,⟨pR HO_3.out⟩,⟨pB HB.out⟩⟩
     case round =>
      clear H'
      (try clear c4);(try clear c4b0);(try clear c5);(try clear c5b0);(try clear hx428_0);(try clear p428);(try clear q428)
      obtain ⟨x3_2,x5_2,rfl,HA,HK2,HO_3,HB⟩:=hrel
      cases gk with
      | zero=>exact absurd HA.out (by simp [spec_l11Byte.l1])
      | succ k2 =>
       have H:=HA.out;clear HA;simp only [spec_l11Byte.l1] at H
       by_cases c6:x5_2 > 127
       ·rw [if_pos c6] at H;have c6b0:decide (127<x5_2)=true:=decide_eq_true c6;clear c6
        by_cases c7:x3_2.length<140737488355328
        ·rw [if_pos c7] at H;have LMc7:=mA c7;clear c7;obtain ⟨y429,hy429⟩:∃ y_:List Int,y_=(x3_2 ++ [(wrap64 (128+(Int.tmod x5_2 128))) % 256]):=⟨_,rfl⟩
         replace H:(spec_l11Byte.l1 k2 l0 y429 x4_1 (wrap64 (Int.tdiv x5_2 128)))=some r:=qH hy429 H
         have Ny429:=mA hy429;clear hy429;have H':=mA H;clear H
         go_wp2_with (first|((with_reducible refine gate_builtin (b:=.append) (xs:=#[.tmp 20,.tmp 25]) rfl ?_);at_builtin;refine Kd.R_append (Kd.int .u8) (w0:=w) w.heap.size rfl (.tmp 20) (.tmp 25) 22 5 (.int .u8 0) 1 rfl Try.underlying22 info5 rfl aD (by omega) u3 x3_2 ((wrap64 (128+(Int.tmod x5_2 128))) % 256) [.int .u8 ((wrap64 (128+(Int.tmod x5_2 128))) % 256)] (fun _=>True) (fun _=>False) rfl rfl ?aP (fun _ hk=>hk.elim) ?aF ?aO ?aB ?aS ?aL ?_;(case aP=>exact rfl);(case aB=>exact (pB HB.out));(case aF=>exact (fun _ _=>trivial));(case aO=>exact (pR HO_3.out));(case aS=>exact (bpB HB));(case aL=>have:=LMc7.out;omega);intro v430 w8 ho hb hg hat;rw [← Ny429.out] at ho;have HO431:=mA ho;replace HB:=mA hb;clear HO_3;clear ho hb hg hat))
         go_roundg k2
         case measure=>have:=HK1.out;have:=HK2.out;omega
         case rel=>exact ⟨(y429),(wrap64 (Int.tdiv x5_2 128)),bZ,H',⟨by have:=HK1.out;have:=HK2.out;omega⟩,⟨pR HO431.out⟩,⟨pB HB.out⟩⟩
        ·rw [if_neg c7] at H
         exact absurd H (by simp)
       ·rw [if_neg c6] at H;have c6b0:decide (127<x5_2)=false:=decide_eq_false c6;clear c6
        by_cases c9:x3_2.length<140737488355328
        ·rw [if_pos c9] at H;have LMc9:=mA c9;clear c9;obtain ⟨y432,hy432⟩:∃ y_:List Int,y_=(x3_2 ++ [(x5_2) % 256]):=⟨_,rfl⟩
         replace H:(spec_l11Byte.l0 k2 l0 y432 (wrap64 (x4_1+1)))=some r:=qH hy432 H
         have Ny432:=mA hy432;clear hy432;have H':=mA H;clear H
         go_wp2_with (first|((with_reducible refine gate_builtin (b:=.append) (xs:=#[.tmp 29,.tmp 32]) rfl ?_);at_builtin;refine Kd.R_append (Kd.int .u8) (w0:=w) w.heap.size rfl (.tmp 29) (.tmp 32) 22 5 (.int .u8 0) 1 rfl Try.underlying22 info5 rfl aD (by omega) u3 x3_2 ((x5_2) % 256) [.int .u8 ((x5_2) % 256)] (fun _=>True) (fun _=>False) rfl rfl ?aP (fun _ hk=>hk.elim) ?aF ?aO ?aB ?aS ?aL ?_;(case aP=>exact rfl);(case aB=>exact (pB HB.out));(case aF=>exact (fun _ _=>trivial));(case aO=>exact (pR HO_3.out));(case aS=>exact (bpB HB));(case aL=>have:=LMc9.out;omega);intro v433 w10 ho hb hg hat;rw [← Ny432.out] at ho;have HO434:=mA ho;replace HB:=mA hb;clear HO_3;clear ho hb hg hat))
         go_roundg k2
         case measure=>have:=HK1.out;have:=HK2.out;omega
         case rel=>exact ⟨(y432),(wrap64 (x4_1+1)),bZ,H',⟨by have:=HK1.out;have:=HK2.out;omega⟩,⟨pR HO434.out⟩,⟨pB HB.out⟩⟩
        ·rw [if_neg c9] at H
         exact absurd H (by simp)
    ·rw [if_neg c5] at H
     exact absurd H (by simp)
   ·rw [if_neg c4] at H;have c4b0:decide (x4_1<(l0.length:Int))=false:=decide_eq_false c4;clear c4;obtain rfl:=Option.some.inj H
    go_wp2
    go_ret
    exact ⟨_,by first|rfl|(simp [errW_none,errW_some]<;>rfl)|(simp [*,errW_none,errW_some]<;>rfl),pR HO_3.out,pB HB.out⟩

/-! ### spec_l11All: function 59 -/
mutual
def spec_l11All.l0 : Nat → List Int → Int → Int → Int → Int → Int → Int → Int → Int → Int → Int → Int → Int → Int → Int → Int → Int → Int → Int → Int → Int → Int → Int → Int → Int → Int → List (S138) → List (S140) → Option (List Int)
 | 0,_,_,_,_,_,_,_,_,_,_,_,_,_,_,_,_,_,_,_,_,_,_,_,_,_,_,_,_=>none
 | k+1,x3,x4,x436000,x436001,x436002,x436003,x436004,x436005,x436006,x436007,x436008,x436009,x436010,x436011,x436012,x436013,x436014,x436015,x436016,x436017,x436018,x436019,x436020,x436021,x436022,x436023,x436024,x436025=>if x4<(x436024.length:Int) then (if 0≤x4 then ((some (([(rd_T138 x436024 x4).f0,(rd_T138 x436024 x4).f1,(rd_T138 x436024 x4).f2,(rd_T138 x436024 x4).f3]:List Int):List Int)).bind fun y447=>(if x3.length+y447.length<17592186044416 then (spec_l11All.l0 k (x3 ++ y447) (wrap64 (x4+1)) x436000 x436001 x436002 x436003 x436004 x436005 x436006 x436007 x436008 x436009 x436010 x436011 x436012 x436013 x436014 x436015 x436016 x436017 x436018 x436019 x436020 x436021 x436022 x436023 x436024 x436025) else (none))) else (none)) else ((some (([(x436025.length:Int)]:List Int):List Int)).bind fun y453=>(if x3.length+y453.length<17592186044416 then (spec_l11All.l1 k (x3 ++ y453) 0 x436000 x436001 x436002 x436003 x436004 x436005 x436006 x436007 x436008 x436009 x436010 x436011 x436012 x436013 x436014 x436015 x436016 x436017 x436018 x436019 x436020 x436021 x436022 x436023 x436024 x436025) else (none)))
def spec_l11All.l1 : Nat → List Int → Int → Int → Int → Int → Int → Int → Int → Int → Int → Int → Int → Int → Int → Int → Int → Int → Int → Int → Int → Int → Int → Int → Int → Int → Int → List (S138) → List (S140) → Option (List Int)
 | 0,_,_,_,_,_,_,_,_,_,_,_,_,_,_,_,_,_,_,_,_,_,_,_,_,_,_,_,_=>none
 | k+1,x3,x6,x436000,x436001,x436002,x436003,x436004,x436005,x436006,x436007,x436008,x436009,x436010,x436011,x436012,x436013,x436014,x436015,x436016,x436017,x436018,x436019,x436020,x436021,x436022,x436023,x436024,x436025=>if x6<(x436025.length:Int) then (if 0≤x6 then ((some (([(rd_T140 x436025 x6).f0,(rd_T140 x436025 x6).f1]:List Int):List Int)).bind fun y461=>(if x3.length+y461.length<17592186044416 then (spec_l11All.l1 k (x3 ++ y461) (wrap64 (x6+1)) x436000 x436001 x436002 x436003 x436004 x436005 x436006 x436007 x436008 x436009 x436010 x436011 x436012 x436013 x436014 x436015 x436016 x436017 x436018 x436019 x436020 x436021 x436022 x436023 x436024 x436025) else (none))) else (none)) else (some x3)
end
def spec_l11All.f (k : Nat) (a0_0 : Int) (a0_1 : Int) (a0_2 : Int) (a0_3 : Int) (a0_4 : Int) (a0_5 : Int) (a0_6 : Int) (a0_7 : Int) (a0_8 : Int) (a0_9 : Int) (a0_10 : Int) (a0_11 : Int) (a0_12 : Int) (a0_13 : Int) (a0_14 : Int) (a0_15 : Int) (a0_16 : Int) (a0_17 : Int) (a0_18 : Int) (a0_19 : Int) (a0_20 : Int) (a0_21 : Int) (a0_22 : Int) (a0_23 : Int) (l0_24 : List (S138)) (l0_25 : List (S140)) : Option (List Int) := (spec_l11Nums.f a0_0 a0_1 a0_2 a0_3 a0_4 a0_5 a0_6 a0_7 a0_8 a0_9 a0_10 a0_11 a0_12 a0_13 a0_14 a0_15 a0_16 a0_17 a0_18 a0_19 a0_20 a0_21 a0_22 a0_23 l0_24 l0_25).bind fun t436 => ((some (([(l0_24.length : Int)] : List Int) : List Int)).bind fun y439 => (if t436.length + y439.length < 17592186044416 then (spec_l11All.l0 k (t436 ++ y439) 0 a0_0 a0_1 a0_2 a0_3 a0_4 a0_5 a0_6 a0_7 a0_8 a0_9 a0_10 a0_11 a0_12 a0_13 a0_14 a0_15 a0_16 a0_17 a0_18 a0_19 a0_20 a0_21 a0_22 a0_23 l0_24 l0_25) else (none)))
theorem spec_l11All.mono_l : ∀ k, (∀ y0 y1 y2 y3 y4 y5 y6 y7 y8 y9 y10 y11 y12 y13 y14 y15 y16 y17 y18 y19 y20 y21 y22 y23 y24 y25 y26 y27, LeO (spec_l11All.l0 k y0 y1 y2 y3 y4 y5 y6 y7 y8 y9 y10 y11 y12 y13 y14 y15 y16 y17 y18 y19 y20 y21 y22 y23 y24 y25 y26 y27) (spec_l11All.l0 (k + 1) y0 y1 y2 y3 y4 y5 y6 y7 y8 y9 y10 y11 y12 y13 y14 y15 y16 y17 y18 y19 y20 y21 y22 y23 y24 y25 y26 y27)) ∧ (∀ y0 y1 y2 y3 y4 y5 y6 y7 y8 y9 y10 y11 y12 y13 y14 y15 y16 y17 y18 y19 y20 y21 y22 y23 y24 y25 y26 y27, LeO (spec_l11All.l1 k y0 y1 y2 y3 y4 y5 y6 y7 y8 y9 y10 y11 y12 y13 y14 y15 y16 y17 y18 y19 y20 y21 y22 y23 y24 y25 y26 y27) (spec_l11All.l1 (k + 1) y0 y1 y2 y3 y4 y5 y6 y7 y8 y9 y10 y11 y12 y13 y14 y15 y16 y17 y18 y19 y20 y21 y22 y23 y24 y25 y26 y27))
 | 0=>⟨fun _ _ _ _ _ _ _ _ _ _ _ _ _ _ _ _ _ _ _ _ _ _ _ _ _ _ _ _ r h=>by simp [spec_l11All.l0] at h,fun _ _ _ _ _ _ _ _ _ _ _ _ _ _ _ _ _ _ _ _ _ _ _ _ _ _ _ _ r h=>by simp [spec_l11All.l1] at h⟩
 | k+1=>by
  obtain ⟨ih0,ih1⟩:=spec_l11All.mono_l k;refine ⟨?_,?_⟩
  ·intros
   unfold spec_l11All.l0
   repeat' first
   | (with_reducible first|apply ih0|apply ih1|exact LeO.refl _|exact LeO.none _|refine LeO.ite ?_ ?_|refine LeO.bind ?_ (fun _=>?_))|exact LeO.none _|refine LeO.ite ?_ ?_|refine LeO.bind ?_ (fun _=>?_)
  ·intros
   unfold spec_l11All.l1
   repeat' first
   | (with_reducible first|apply ih0|apply ih1|exact LeO.refl _|exact LeO.none _|refine LeO.ite ?_ ?_|refine LeO.bind ?_ (fun _=>?_))|exact LeO.none _|refine LeO.ite ?_ ?_|refine LeO.bind ?_ (fun _=>?_)
theorem spec_l11All.mono : ∀ a0 a1 a2 a3 a4 a5 a6 a7 a8 a9 a10 a11 a12 a13 a14 a15 a16 a17 a18 a19 a20 a21 a22 a23 a24 a25 k, LeO (spec_l11All.f k a0 a1 a2 a3 a4 a5 a6 a7 a8 a9 a10 a11 a12 a13 a14 a15 a16 a17 a18 a19 a20 a21 a22 a23 a24 a25) (spec_l11All.f (k + 1) a0 a1 a2 a3 a4 a5 a6 a7 a8 a9 a10 a11 a12 a13 a14 a15 a16 a17 a18 a19 a20 a21 a22 a23 a24 a25) := by
 intro a0 a1 a2 a3 a4 a5 a6 a7 a8 a9 a10 a11 a12 a13 a14 a15 a16 a17 a18 a19 a20 a21 a22 a23 a24 a25 k;obtain ⟨ih0,ih1⟩:=spec_l11All.mono_l k
 unfold spec_l11All.f
 repeat' first
   | (with_reducible first|apply ih0|apply ih1|exact LeO.refl _|exact LeO.none _|refine LeO.ite ?_ ?_|refine LeO.bind ?_ (fun _=>?_))|exact LeO.none _|refine LeO.ite ?_ ?_|refine LeO.bind ?_ (fun _=>?_)
def spec_l11All.T1 : Bool × List (List Nat × List Nat) := (true, [([], []), ([0], [0]), ([], []), ([2], [2]), ([3], [3]), ([4], [4]), ([1, 5, 1], [1, 5]), ([6, 6, 0, 1, 2, 3, 4, 5, 6], [6])])
def spec_l11All.B1 : List Nat := [0, 1, 0, 4, 12, 28, 63, 127]
theorem spec_l11All.tab1 : rtab .any (opsOf Try.f59 1) = spec_l11All.T1 := by kernel_rfl
theorem spec_l11All.bits1 : waitsOk spec_l11All.T1.2 spec_l11All.B1 = true := by kernel_rfl
def spec_l11All.T11 : Bool × List (List Nat × List Nat) := (true, [([], []), ([], []), ([1], [1]), ([], []), ([2, 3], [2, 3]), ([4], [4]), ([5], [5]), ([], []), ([7], [7]), ([], []), ([8, 9], [8, 9]), ([10], [10]), ([11], [11]), ([6, 12], [6, 12]), ([0, 13], [0, 13]), ([14, 14, 0, 1, 2, 3, 4, 5, 6, 7, 8, 9, 10, 11, 12, 13, 14], [0, 14])])
def spec_l11All.B11 : List Nat := [0, 0, 2, 0, 14, 30, 62, 0, 128, 0, 896, 1920, 3968, 8190, 16383, 32767]
theorem spec_l11All.tab11 : rtab .any (opsOf Try.f59 11) = spec_l11All.T11 := by kernel_rfl
theorem spec_l11All.bits11 : waitsOk spec_l11All.T11.2 spec_l11All.B11 = true := by kernel_rfl
set_option maxHeartbeats 8000000 in
set_option maxRecDepth 100000 in
theorem spec_l11All.calls {k : Nat} {a0_0 : Int} {a0_1 : Int} {a0_2 : Int} {a0_3 : Int} {a0_4 : Int} {a0_5 : Int} {a0_6 : Int} {a0_7 : Int} {a0_8 : Int} {a0_9 : Int} {a0_10 : Int} {a0_11 : Int} {a0_12 : Int} {a0_13 : Int} {a0_14 : Int} {a0_15 : Int} {a0_16 : Int} {a0_17 : Int} {a0_18 : Int} {a0_19 : Int} {a0_20 : Int} {a0_21 : Int} {a0_22 : Int} {a0_23 : Int} {A0_24 : Option Addr} {c0_24 : Nat} {l0_24 : List (S138)} {A0_25 : Option Addr} {c0_25 : Nat} {l0_25 : List (S140)} {r : List Int} {w : World} (hr0_24 : Kd.C k138 w A0_24 l0_24.length l0_24) (hc0_24 : l0_24.length ≤ c0_24) (hr0_25 : Kd.C k140 w A0_25 l0_25.length l0_25) (hc0_25 : l0_25.length ≤ c0_25) (h : spec_l11All.f k a0_0 a0_1 a0_2 a0_3 a0_4 a0_5 a0_6 a0_7 a0_8 a0_9 a0_10 a0_11 a0_12 a0_13 a0_14 a0_15 a0_16 a0_17 a0_18 a0_19 a0_20 a0_21 a0_22 a0_23 l0_24 l0_25 = some r) :
  Calls Try.prog 59 #[.agg #[.int .i64 a0_0,.int .i64 a0_1,.int .i64 a0_2,.int .i64 a0_3,.int .i64 a0_4,.int .i64 a0_5,.int .i64 a0_6,.int .i64 a0_7,.int .i64 a0_8,.int .i64 a0_9,.int .i64 a0_10,.int .i64 a0_11,.int .i64 a0_12,.int .i64 a0_13,.int .i64 a0_14,.int .i64 a0_15,.int .i64 a0_16,.int .i64 a0_17,.int .i64 a0_18,.int .i64 a0_19,.int .i64 a0_20,.int .i64 a0_21,.int .i64 a0_22,.int .i64 a0_23,.slice A0_24 l0_24.length c0_24,.slice A0_25 l0_25.length c0_25]] w fun e w'=>∃ v0_:Value,e=.returned (v0_)∧Kd.R (Kd.int .i64) 3 w' w.heap.size (fun _=>True) v0_ r∧Below w.heap.size w w':=by
 have hu28:=Try.underlying28;have hu138:=Try.underlying138;have HR0_24:=mA hr0_24;have HC0_24:=mA hc0_24;clear hr0_24 hc0_24;have HR0_25:=mA hr0_25;have HC0_25:=mA hc0_25;clear hr0_25 hc0_25;have HB:=mA (Below.refl w.heap.size w);have H:((spec_l11Nums.f a0_0 a0_1 a0_2 a0_3 a0_4 a0_5 a0_6 a0_7 a0_8 a0_9 a0_10 a0_11 a0_12 a0_13 a0_14 a0_15 a0_16 a0_17 a0_18 a0_19 a0_20 a0_21 a0_22 a0_23 l0_24 l0_25).bind fun t436=>((some (([(l0_24.length:Int)]:List Int):List Int)).bind fun y439=>(if t436.length+y439.length<17592186044416 then (spec_l11All.l0 k (t436 ++ y439) 0 a0_0 a0_1 a0_2 a0_3 a0_4 a0_5 a0_6 a0_7 a0_8 a0_9 a0_10 a0_11 a0_12 a0_13 a0_14 a0_15 a0_16 a0_17 a0_18 a0_19 a0_20 a0_21 a0_22 a0_23 l0_24 l0_25) else (none))))=some r:=h;clear h;obtain ⟨t436,A2,H⟩:=bI H;(try dsimp only at H);obtain ⟨y439,hy439⟩:∃ y_:List Int,y_=(([(l0_24.length:Int)]:List Int)):=⟨_,rfl⟩
 replace H:(if t436.length+y439.length<17592186044416 then (spec_l11All.l0 k (t436 ++ y439) 0 a0_0 a0_1 a0_2 a0_3 a0_4 a0_5 a0_6 a0_7 a0_8 a0_9 a0_10 a0_11 a0_12 a0_13 a0_14 a0_15 a0_16 a0_17 a0_18 a0_19 a0_20 a0_21 a0_22 a0_23 l0_24 l0_25) else (none))=some r:=qH hy439 H
 have Ny439:=mA hy439;clear hy439
 by_cases c3:t436.length+y439.length<17592186044416
 ·rw [if_pos c3] at H;have LMc3:=mA c3;clear c3;obtain ⟨y442,hy442⟩:∃ y_:List Int,y_=(t436 ++ y439):=⟨_,rfl⟩
  replace H:(spec_l11All.l0 k y442 0 a0_0 a0_1 a0_2 a0_3 a0_4 a0_5 a0_6 a0_7 a0_8 a0_9 a0_10 a0_11 a0_12 a0_13 a0_14 a0_15 a0_16 a0_17 a0_18 a0_19 a0_20 a0_21 a0_22 a0_23 l0_24 l0_25)=some r:=qH hy442 H
  have Ny442:=mA hy442;clear hy442;have H':=mA H;clear H
  go_enter Try.func59,Try.ntmps59
  try go_wp2_with (first|((with_reducible refine gLg rfl (by assumption) ?_);refine ldV ?_)|((with_reducible refine gSt rfl (by assumption) ?_);refine stV ?_)|((with_reducible refine gT 1 rfl ?_);refine bE 1 #[.int .i64 a0_0,.int .i64 a0_1,.int .i64 a0_2,.int .i64 a0_3,.int .i64 a0_4,.int .i64 a0_5,.int .i64 a0_6,.int .i64 a0_7,.int .i64 a0_8,.int .i64 a0_9,.int .i64 a0_10,.int .i64 a0_11,.int .i64 a0_12,.int .i64 a0_13,.int .i64 a0_14,.int .i64 a0_15,.int .i64 a0_16,.int .i64 a0_17,.int .i64 a0_18,.int .i64 a0_19,.int .i64 a0_20,.int .i64 a0_21,.int .i64 a0_22,.int .i64 a0_23,.slice A0_24 l0_24.length c0_24,.slice A0_25 l0_25.length c0_25] 28 ?_;intro gb435 hg w4 hbox hb;have BK435:=mA hbox;have GW435:=gbpB HB hg;have GE435:=gbpB HB hg;replace HB:=spB HB hb;clear hb hbox hg))
  replace BK435:=mA (blk_drew BK435.out);replace HB:=mA (below_drew1 HB.out)
  refine start_ (n:=8) (S:=fun w'=>w'.heap[gb435]?=some (.cells #[.int .i64 a0_0,.int .i64 a0_1,.int .i64 a0_2,.int .i64 a0_3,.int .i64 a0_4,.int .i64 a0_5,.int .i64 a0_6,.int .i64 a0_7,.int .i64 a0_8,.int .i64 a0_9,.int .i64 a0_10,.int .i64 a0_11,.int .i64 a0_12,.int .i64 a0_13,.int .i64 a0_14,.int .i64 a0_15,.int .i64 a0_16,.int .i64 a0_17,.int .i64 a0_18,.int .i64 a0_19,.int .i64 a0_20,.int .i64 a0_21,.int .i64 a0_22,.int .i64 a0_23,.slice A0_24 l0_24.length c0_24,.slice A0_25 l0_25.length c0_25] 28 (0,0))) (ds:=[]) _ aK rfl rfl BK435.out (fun hHeld=>?_);refine with_tabW spec_l11All.tab1 spec_l11All.bits1 (fun HT_ HW_=>?_)
  generalize w4.drew=w5 at BK435 HB hHeld ⊢
  refine pul_ 2 (some 9) #[false,false,true,false,false,false,false,false] (aT HT_) ?_
  refine tb1l_ 0 (some 7) #[true,false,true,false,false,false,false,false] (tT HT_ HW_) hHeld ?_
  refine tb1l_ 3 (some 10) #[true,false,true,true,false,false,false,false] (tT HT_ HW_) hHeld ?_
  refine pul_ 4 (some 11) #[true,false,true,true,true,false,false,false] (aT HT_) ?_
  refine join_ (σ:=Value × Value) 2 #[true,true,true,true,true,true,false,false] (fun s_=>[(8,s_.1),(12,s_.2)]) (fun s_ w'=>(w'.heap[gb435]?=some (.cells #[.int .i64 a0_0,.int .i64 a0_1,.int .i64 a0_2,.int .i64 a0_3,.int .i64 a0_4,.int .i64 a0_5,.int .i64 a0_6,.int .i64 a0_7,.int .i64 a0_8,.int .i64 a0_9,.int .i64 a0_10,.int .i64 a0_11,.int .i64 a0_12,.int .i64 a0_13,.int .i64 a0_14,.int .i64 a0_15,.int .i64 a0_16,.int .i64 a0_17,.int .i64 a0_18,.int .i64 a0_19,.int .i64 a0_20,.int .i64 a0_21,.int .i64 a0_22,.int .i64 a0_23,.slice A0_24 l0_24.length c0_24,.slice A0_25 l0_25.length c0_25] 28 (0,0)))∧(Kd.R (Kd.int .i64) 3 w' w.heap.size (fun k_=>some k_≠(s_.2:Value).ownBlock) s_.1 t436)∧(Kd.R (Kd.int .i64) 3 w' w.heap.size (fun k_=>some k_≠(s_.1:Value).ownBlock) s_.2 y439)∧(w'.heap[gb435]?=some (.cells #[.int .i64 a0_0,.int .i64 a0_1,.int .i64 a0_2,.int .i64 a0_3,.int .i64 a0_4,.int .i64 a0_5,.int .i64 a0_6,.int .i64 a0_7,.int .i64 a0_8,.int .i64 a0_9,.int .i64 a0_10,.int .i64 a0_11,.int .i64 a0_12,.int .i64 a0_13,.int .i64 a0_14,.int .i64 a0_15,.int .i64 a0_16,.int .i64 a0_17,.int .i64 a0_18,.int .i64 a0_19,.int .i64 a0_20,.int .i64 a0_21,.int .i64 a0_22,.int .i64 a0_23,.slice A0_24 l0_24.length c0_24,.slice A0_25 l0_25.length c0_25] 28 (0,0)))∧(Below w.heap.size w w')) ?_ ?_;rotate_left
  ·intro hCont
   refine two_ (i:=1) (j:=5) (Ni:=some 8) (Nj:=some 12) #[true,true,true,true,true,false,false,false] #[true,false,true,true,true,true,false,false] rfl rfl rfl rfl (two_of HT_.out aK) aD aD (fun K hK=>?_) (fun K hK=>?_)
   ·skip
    refine gD Try.func65 (spec_l11Nums.calls (cB HR0_24 HB) HC0_24.out (cB HR0_25 HB) HC0_25.out A2.out) ?_
    rintro e w6 ⟨v437,rfl,ho0,hb⟩;refine ⟨_,rfl,?_⟩;have HO438:=mA (Kd.R_lower ho0 (bpS HB));replace BK435:=bK BK435 hb;replace HB:=spS HB hb
    (try clear hb);(try clear ho0)
    refine hK.out _ _ BK435.out (fun hHeld=>?_);clear hK K;refine no_ (some 8) ?_
    refine one_ (i:=5) (N:=some 12) #[true,true,true,true,true,true,false,false] rfl rfl (oT HT_) aD (fun K hK=>?_)
    refine Kd.R_lit_step (Kd.int .i64) _ 3 ?hg (N:=12) ?hd (xs:=([(l0_24.length:Int)]:List Int)) (inner:=[.int .i64 (l0_24.length:Int)]) (ok:=fun _=>True) (okp:=fun _=>True) ?hr ?hp (fun _ hk=>hk) trivial (Below.refl _ _) (Nat.le_refl _) (by simp) ?_;(case hd=>rfl);(case hg=>rfl);(case hr=>first|(go_simp;done)|(go_simp;rfl));(case hp=>exact (Reps.one (show Kd.M (Kd.int .i64) _ _ _ (l0_24.length:Int) [.int .i64 (l0_24.length:Int)] from rfl) (Reps.none _ _)))
    intro v440 w7 ho8 hb hg_ hnew_;clear hg_ hnew_
    (first|rw [← Ny439.out] at ho8|(simp only [Int.reduceToNat] at ho8;rw [← Ny439.out] at ho8))
    have HO441:=mA (Kd.R_lower (Kd.R_new' ho8 (rL HO438)) (bpS HB));replace HO438:=rE HO438 ho8 hb;replace BK435:=bK BK435 hb;replace HB:=spS HB hb;clear hb ho8;refine hK.out _ _ BK435.out (fun hHeld=>?_);clear hK K;refine no_ (some 12) ?_
    exact norm_ (by simp only [putAll,Act.put,List.setIfInBounds_toArray,List.set_cons_zero,List.set_cons_succ]) (hCont (v437,v440) _ ⟨hHeld,(pR (Kd.R_mono HO438.out (fun _ hk=>hk.2))),(pR (Kd.R_mono HO441.out (fun _ hk=>hk.2))),(pK BK435.out),(pS HB.out)⟩)
   ·skip
    refine Kd.R_lit_step (Kd.int .i64) _ 3 ?hg (N:=12) ?hd (xs:=([(l0_24.length:Int)]:List Int)) (inner:=[.int .i64 (l0_24.length:Int)]) (ok:=fun _=>True) (okp:=fun _=>True) ?hr ?hp (fun _ hk=>hk) trivial (Below.refl _ _) (Nat.le_refl _) (by simp) ?_;(case hd=>rfl);(case hg=>rfl);(case hr=>first|(go_simp;done)|(go_simp;rfl));(case hp=>exact (Reps.one (show Kd.M (Kd.int .i64) _ _ _ (l0_24.length:Int) [.int .i64 (l0_24.length:Int)] from rfl) (Reps.none _ _)))
    intro v440 w6 ho7 hb hg_ hnew_;clear hg_ hnew_
    (first|rw [← Ny439.out] at ho7|(simp only [Int.reduceToNat] at ho7;rw [← Ny439.out] at ho7))
    have HO441:=mA (Kd.R_lower ho7 (bpS HB));replace BK435:=bK BK435 hb;replace HB:=spS HB hb;clear hb ho7;refine hK.out _ _ BK435.out (fun hHeld=>?_);clear hK K;refine no_ (some 12) ?_
    refine one_ (i:=1) (N:=some 8) #[true,true,true,true,true,true,false,false] rfl rfl (oT HT_) aD (fun K hK=>?_)
    refine gD Try.func65 (spec_l11Nums.calls (cB HR0_24 HB) HC0_24.out (cB HR0_25 HB) HC0_25.out A2.out) ?_
    rintro e w8 ⟨v437,rfl,ho0,hb⟩;refine ⟨_,rfl,?_⟩;have HO438:=mA (Kd.R_lower (Kd.R_new' ho0 (rL HO441)) (bpS HB));replace HO441:=rE HO441 ho0 hb;replace BK435:=bK BK435 hb;replace HB:=spS HB hb
    (try clear hb);(try clear ho0)
    refine hK.out _ _ BK435.out (fun hHeld=>?_);clear hK K;refine no_ (some 8) ?_
    exact norm_ (by simp only [putAll,Act.put,List.setIfInBounds_toArray,List.set_cons_zero,List.set_cons_succ]) (hCont (v437,v440) _ ⟨hHeld,(pR (Kd.R_mono HO438.out (fun _ hk=>hk.2))),(pR (Kd.R_mono HO441.out (fun _ hk=>hk.2))),(pK BK435.out),(pS HB.out)⟩)
  rintro ⟨v437,v440⟩ w9 ⟨hS_,h0_,h1_,h2_,h3_⟩;have n0_:Aside0 (Kd.R (Kd.int .i64) 3 w9 w.heap.size (fun k_=>some k_≠(v440:Value).ownBlock) v437 t436):=⟨h0_⟩;have n1_:Aside0 (Kd.R (Kd.int .i64) 3 w9 w.heap.size (fun k_=>some k_≠(v437:Value).ownBlock) v440 y439):=⟨h1_⟩;have n2_:Aside0 (w9.heap[gb435]?=some (.cells #[.int .i64 a0_0,.int .i64 a0_1,.int .i64 a0_2,.int .i64 a0_3,.int .i64 a0_4,.int .i64 a0_5,.int .i64 a0_6,.int .i64 a0_7,.int .i64 a0_8,.int .i64 a0_9,.int .i64 a0_10,.int .i64 a0_11,.int .i64 a0_12,.int .i64 a0_13,.int .i64 a0_14,.int .i64 a0_15,.int .i64 a0_16,.int .i64 a0_17,.int .i64 a0_18,.int .i64 a0_19,.int .i64 a0_20,.int .i64 a0_21,.int .i64 a0_22,.int .i64 a0_23,.slice A0_24 l0_24.length c0_24,.slice A0_25 l0_25.length c0_25] 28 (0,0))):=⟨h2_⟩;have n3_:Aside0 (Below w.heap.size w w9):=⟨h3_⟩;clear BK435;clear HB;clear h0_ h1_ h2_ h3_;have HO438:=n0_;have HO441:=n1_;have BK435:=n2_;have HB:=n3_;clear n0_ n1_ n2_ n3_;have hHeld:w9.heap[gb435]?=some (.cells #[.int .i64 a0_0,.int .i64 a0_1,.int .i64 a0_2,.int .i64 a0_3,.int .i64 a0_4,.int .i64 a0_5,.int .i64 a0_6,.int .i64 a0_7,.int .i64 a0_8,.int .i64 a0_9,.int .i64 a0_10,.int .i64 a0_11,.int .i64 a0_12,.int .i64 a0_13,.int .i64 a0_14,.int .i64 a0_15,.int .i64 a0_16,.int .i64 a0_17,.int .i64 a0_18,.int .i64 a0_19,.int .i64 a0_20,.int .i64 a0_21,.int .i64 a0_22,.int .i64 a0_23,.slice A0_24 l0_24.length c0_24,.slice A0_25 l0_25.length c0_25] 28 (0,0)):=hS_;obtain ⟨Ao11,co11,eo11⟩:=Kd.R_slice HO441.out
  (first|subst eo11|(injection eo11 with f1_ f2_ f3_;have f4_:=f1_.symm;have f5_:=f3_.symm;clear f1_ f2_ f3_;subst f4_;subst f5_))
  refine norm_ (a':=?_) ?_ ?_;rotate_left
  ·simp only [putAll,Act.put,List.setIfInBounds_toArray,List.set_cons_zero,List.set_cons_succ];rfl
  refine one_ (i:=6) (N:=some 13) #[true,true,true,true,true,true,true,false] rfl rfl (oT HT_) aD (fun K hK=>?_)
  refine Kd.R_append_rows_step (Kd.int .i64) (w0:=w) w.heap.size (by rfl) (.tmp 8) (.tmp 12) 58 3 (.int .i64 0) 8 rfl Try.underlying58 info3 rfl aD (by omega) v437 t436 y439 _ _ _ (fun k_=>some k_≠(.slice Ao11 y439.length co11:Value).ownBlock) (fun _=>False) rfl rfl ?aO ?aR (fun _ _ h=>h) (fun _ h=>h.elim) ?aF ?aB ?aS ?aL ?_
  (case aR=>exact cR HO441)
  (case aB=>exact (pS HB.out))
  (case aF=>exact (fun k_ hk=>Kd.fresh' (rL HO441) k_ hk))
  (case aO=>exact (pR HO438.out))
  (case aS=>exact (bpS HB))
  (case aL=>have:=LMc3.out;omega)
  intro v443 w10 ho hb hg hat;rw [← Ny442.out] at ho
  replace HO441:=mA (Kd.R_after (ok:=(fun _=>True)) (pR (Kd.R_mono HO441.out (fun _ hk=>⟨trivial,hk⟩))) hg hat);have HO444:=mA ho;replace BK435:=mA (blk_grown (pK BK435.out) hg (rN HO438 BK435));replace HB:=mA hb;clear HO438;clear ho hb hg hat;refine hK.out _ _ BK435.out (fun hHeld=>?_);clear hK K;refine no_ (some 13) ?_
  refine pul_ 7 (some 3) #[true,true,true,true,true,true,true,true] (aT HT_) ?_
  refine done_ (done_of HT_.out aK) ?_
  try go_wp2_with (first|((with_reducible refine gLg rfl (by assumption) ?_);refine ldV ?_)|((with_reducible refine gSt rfl (by assumption) ?_);refine stV ?_))
  go_loopg [3,4] k (fun kq v3 v4 w'=>∃ (x3_1:List Int) (x4_1:Int),v4=.int .i64 x4_1∧Aside0 (spec_l11All.l0 kq x3_1 x4_1 a0_0 a0_1 a0_2 a0_3 a0_4 a0_5 a0_6 a0_7 a0_8 a0_9 a0_10 a0_11 a0_12 a0_13 a0_14 a0_15 a0_16 a0_17 a0_18 a0_19 a0_20 a0_21 a0_22 a0_23 l0_24 l0_25=some r)∧Aside0 (kq≤k)∧Aside0 (Kd.R (Kd.int .i64) 3 w' w.heap.size (fun _=>True) v3 x3_1)∧Aside0 (w'.heap[gb435]?=some (.cells #[.int .i64 a0_0,.int .i64 a0_1,.int .i64 a0_2,.int .i64 a0_3,.int .i64 a0_4,.int .i64 a0_5,.int .i64 a0_6,.int .i64 a0_7,.int .i64 a0_8,.int .i64 a0_9,.int .i64 a0_10,.int .i64 a0_11,.int .i64 a0_12,.int .i64 a0_13,.int .i64 a0_14,.int .i64 a0_15,.int .i64 a0_16,.int .i64 a0_17,.int .i64 a0_18,.int .i64 a0_19,.int .i64 a0_20,.int .i64 a0_21,.int .i64 a0_22,.int .i64 a0_23,(.slice A0_24 l0_24.length c0_24),(.slice A0_25 l0_25.length c0_25)] 28 (0,0)))∧Aside0 (Below w.heap.size w w'))
  case atStart=>exact ⟨(y442),(0),bZ,H',⟨Nat.le_refl _⟩,⟨pR (Kd.R_mono HO444.out (fun _ hk=>trivial))⟩,⟨pK BK435.out⟩,⟨pS HB.out⟩⟩
  case round =>
   clear H'
   (try clear c3)
   obtain ⟨x3_1,x4_1,rfl,HA,HK1,HO_3,BK435,HB⟩:=hrel
   cases gk with
   | zero=>exact absurd HA.out (by simp [spec_l11All.l0])
   | succ k1 =>
    have H:=HA.out;clear HA;simp only [spec_l11All.l0] at H
    by_cases c12:x4_1<(l0_24.length:Int)
    ·rw [if_pos c12] at H;have c12b0:decide (x4_1<(l0_24.length:Int))=true:=decide_eq_true c12;clear c12
     by_cases c13:0≤x4_1
     ·rw [if_pos c13] at H;have c13b0:decide (0≤x4_1)=true:=decide_eq_true c13;clear c13;obtain ⟨y447,hy447⟩:∃ y_:List Int,y_=(([(rd_T138 l0_24 x4_1).f0,(rd_T138 l0_24 x4_1).f1,(rd_T138 l0_24 x4_1).f2,(rd_T138 l0_24 x4_1).f3]:List Int)):=⟨_,rfl⟩
      replace H:(if x3_1.length+y447.length<17592186044416 then (spec_l11All.l0 k1 (x3_1 ++ y447) (wrap64 (x4_1+1)) a0_0 a0_1 a0_2 a0_3 a0_4 a0_5 a0_6 a0_7 a0_8 a0_9 a0_10 a0_11 a0_12 a0_13 a0_14 a0_15 a0_16 a0_17 a0_18 a0_19 a0_20 a0_21 a0_22 a0_23 l0_24 l0_25) else (none))=some r:=qH hy447 H
      have Ny447:=mA hy447;clear hy447
      by_cases c14:x3_1.length+y447.length<17592186044416
      ·rw [if_pos c14] at H;have LMc14:=mA c14;clear c14;obtain ⟨y450,hy450⟩:∃ y_:List Int,y_=(x3_1 ++ y447):=⟨_,rfl⟩
       replace H:(spec_l11All.l0 k1 y450 (wrap64 (x4_1+1)) a0_0 a0_1 a0_2 a0_3 a0_4 a0_5 a0_6 a0_7 a0_8 a0_9 a0_10 a0_11 a0_12 a0_13 a0_14 a0_15 a0_16 a0_17 a0_18 a0_19 a0_20 a0_21 a0_22 a0_23 l0_24 l0_25)=some r:=qH hy450 H
       have Ny450:=mA hy450;clear hy450;have H':=mA H;clear H;have hcz15_0:=fun i_=>blk_cell BK435.out i_;have hfz15_0:=fun i_=>blk_frozen BK435.out i_;have p445:0≤(x4_1:Int):=of_decide_eq_true bA;have q445:x4_1<(l0_24.length:Int):=of_decide_eq_true bA;obtain ⟨ad445,e445,hx445_0,hx445_1,hx445_2,hx445_3⟩:=at_T138 HR0_24.out x4_1 p445 q445;cases e445;replace hx445_0:=hC HB hx445_0;replace hx445_1:=hC HB hx445_1;replace hx445_2:=hC HB hx445_2;replace hx445_3:=hC HB hx445_3;replace p445:=eq_true p445;replace q445:=eq_true q445
       go_wp2_with (first|((with_reducible refine gLg rfl (by assumption) ?_);refine ldV ?_)|((with_reducible refine gSt rfl (by assumption) ?_);refine stV ?_)|((with_reducible refine gT 5 rfl ?_);refine bE 5 #[.int .i64 0,.int .i64 0,.int .i64 0,.int .i64 0] 138 ?_;intro gb446 hg w16 hbox hb;replace HO_3:=rB HO_3 hb;have BK446:=mA hbox;have GW446:=gbpS HB hg;have GE446:=gbpS HB hg;replace HB:=spS HB hb;have NB435_446:=mA (lN (blk_lt (pK BK435.out)) hg);have NB446_435:=nS NB435_446;replace BK435:=bK BK435 hb;clear hb hbox hg;have hnb17:=NB446_435.out;have hnc17:=NB435_446.out;obtain ⟨hcz18_0,hcz18_1,hcz18_2,hcz18_3,hfz18_0,hfz18_1,hfz18_2,hfz18_3⟩:=box4 BK446.out)|((with_reducible refine gT 35 rfl ?_);refine Kd.R_lit (Kd.int .i64) _ 3 ?hg (N:=35) ?hd (xs:=([(rd_T138 l0_24 x4_1).f0,(rd_T138 l0_24 x4_1).f1,(rd_T138 l0_24 x4_1).f2,(rd_T138 l0_24 x4_1).f3]:List Int)) (inner:=[.int .i64 ((rd_T138 l0_24 x4_1).f0),.int .i64 ((rd_T138 l0_24 x4_1).f1),.int .i64 ((rd_T138 l0_24 x4_1).f2),.int .i64 ((rd_T138 l0_24 x4_1).f3)]) (ok:=fun _=>True) (okp:=fun _=>True) ?hr ?hp (fun _ hk=>hk) trivial (Below.refl _ _) (Nat.le_refl _) (by simp) ?_;(case hd=>rfl);(case hg=>rfl);(case hr=>first|(go_simp;done)|(go_simp;rfl));(case hp=>exact (Reps.one (show Kd.M (Kd.int .i64) _ _ _ ((rd_T138 l0_24 x4_1).f0) [.int .i64 ((rd_T138 l0_24 x4_1).f0)] from rfl) (Reps.one (show Kd.M (Kd.int .i64) _ _ _ ((rd_T138 l0_24 x4_1).f1) [.int .i64 ((rd_T138 l0_24 x4_1).f1)] from rfl) (Reps.one (show Kd.M (Kd.int .i64) _ _ _ ((rd_T138 l0_24 x4_1).f2) [.int .i64 ((rd_T138 l0_24 x4_1).f2)] from rfl) (Reps.one (show Kd.M (Kd.int .i64) _ _ _ ((rd_T138 l0_24 x4_1).f3) [.int .i64 ((rd_T138 l0_24 x4_1).f3)] from rfl) (Reps.none _ _))))));intro v448 w19 ho20 hb hg_ hnew_;clear hg_ hnew_;(first|rw [← Ny447.out] at ho20|(simp only [Int.reduceToNat] at ho20;rw [← Ny447.out] at ho20));have HO449:=mA (Kd.R_lower (Kd.R_new' ho20 (Kd.R_lt (pG HO_3 BK446))) (bpS HB));replace HO_3:=mA (Kd.R_elder' (pG HO_3 BK446) (Kd.R_base ho20) hb);replace BK435:=mA (blk_below (g:=gb435) (o:=.cells #[.int .i64 a0_0,.int .i64 a0_1,.int .i64 a0_2,.int .i64 a0_3,.int .i64 a0_4,.int .i64 a0_5,.int .i64 a0_6,.int .i64 a0_7,.int .i64 a0_8,.int .i64 a0_9,.int .i64 a0_10,.int .i64 a0_11,.int .i64 a0_12,.int .i64 a0_13,.int .i64 a0_14,.int .i64 a0_15,.int .i64 a0_16,.int .i64 a0_17,.int .i64 a0_18,.int .i64 a0_19,.int .i64 a0_20,.int .i64 a0_21,.int .i64 a0_22,.int .i64 a0_23,.slice (some ad445) l0_24.length c0_24,.slice A0_25 l0_25.length c0_25] 28 (0,0)) (pF BK435.out) hb);replace BK446:=mA (blk_below (g:=gb446) (o:=.cells #[.int .i64 ((rd_T138 l0_24 x4_1).f0),.int .i64 ((rd_T138 l0_24 x4_1).f1),.int .i64 ((rd_T138 l0_24 x4_1).f2),.int .i64 ((rd_T138 l0_24 x4_1).f3)] 138 (0,0)) (pP BK446) hb);replace HB:=spS HB hb;clear hb ho20;obtain ⟨Ao22,co22,rfl⟩:=Kd.R_slice HO449.out)|((with_reducible refine gate_builtin (b:=.append) (xs:=#[.tmp 26,.tmp 35]) rfl ?_);at_builtin;refine Kd.R_append_rows (Kd.int .i64) (w0:=w) w.heap.size rfl (.tmp 26) (.tmp 35) 58 3 (.int .i64 0) 8 rfl Try.underlying58 info3 rfl aD (by omega) u3 x3_1 y447 _ _ _ (fun k_=>some k_≠(.slice Ao22 y447.length co22:Value).ownBlock) (fun _=>False) rfl rfl ?aO ?aR (fun _ _ h=>h) (fun _ h=>h.elim) ?aF ?aB ?aS ?aL ?_;(case aR=>exact cR HO449);(case aB=>exact (pS HB.out));(case aF=>exact (fun k_ hk=>Kd.fresh' (rL HO449) k_ hk));(case aO=>exact (pR (Kd.R_mono HO_3.out (fun _ hk=>hk.2))));(case aS=>exact (bpS HB));(case aL=>have:=LMc14.out;omega);intro v451 w21 ho hb hg hat;rw [← Ny450.out] at ho;replace HO449:=mA (Kd.R_after (ok:=(fun _=>True)) (pR HO449.out) hg hat);have HO452:=mA ho;replace BK435:=mA (blk_grown (pK BK435.out) hg (rN HO_3 BK435));replace BK446:=mA (blk_grown (pK BK446.out) hg (rN HO_3 BK446));replace HB:=mA hb;clear HO_3;clear ho hb hg hat))
       go_roundg k1
       case measure=>have:=HK1.out;omega
       case rel=>exact ⟨(y450),(wrap64 (x4_1+1)),bZ,H',⟨by have:=HK1.out;omega⟩,⟨pR (Kd.R_mono HO452.out (fun _ hk=>trivial))⟩,⟨pK BK435.out⟩,⟨pS HB.out⟩⟩
      ·rw [if_neg c14] at H
       exact absurd H (by simp)
     ·rw [if_neg c13] at H
      exact absurd H (by simp)
    ·rw [if_neg c12] at H;have c12b0:decide (x4_1<(l0_24.length:Int))=false:=decide_eq_false c12;clear c12;obtain ⟨y453,hy453⟩:∃ y_:List Int,y_=(([(l0_25.length:Int)]:List Int)):=⟨_,rfl⟩
     replace H:(if x3_1.length+y453.length<17592186044416 then (spec_l11All.l1 k1 (x3_1 ++ y453) 0 a0_0 a0_1 a0_2 a0_3 a0_4 a0_5 a0_6 a0_7 a0_8 a0_9 a0_10 a0_11 a0_12 a0_13 a0_14 a0_15 a0_16 a0_17 a0_18 a0_19 a0_20 a0_21 a0_22 a0_23 l0_24 l0_25) else (none))=some r:=qH hy453 H
     have Ny453:=mA hy453;clear hy453
     by_cases c23:x3_1.length+y453.length<17592186044416
     ·rw [if_pos c23] at H;have LMc23:=mA c23;clear c23;obtain ⟨y456,hy456⟩:∃ y_:List Int,y_=(x3_1 ++ y453):=⟨_,rfl⟩
      replace H:(spec_l11All.l1 k1 y456 0 a0_0 a0_1 a0_2 a0_3 a0_4 a0_5 a0_6 a0_7 a0_8 a0_9 a0_10 a0_11 a0_12 a0_13 a0_14 a0_15 a0_16 a0_17 a0_18 a0_19 a0_20 a0_21 a0_22 a0_23 l0_24 l0_25)=some r:=qH hy456 H
      have Ny456:=mA hy456;clear hy456;have H':=mA H;clear H;have hcz24_0:=fun i_=>blk_cell BK435.out i_;have hfz24_0:=fun i_=>blk_frozen BK435.out i_
      go_wp2_with (first|((with_reducible refine gLg rfl (by assumption) ?_);refine ldV ?_)|((with_reducible refine gSt rfl (by assumption) ?_);refine stV ?_)|((with_reducible refine gT 41 rfl ?_);refine Kd.R_lit (Kd.int .i64) _ 3 ?hg (N:=41) ?hd (xs:=([(l0_25.length:Int)]:List Int)) (inner:=[.int .i64 (l0_25.length:Int)]) (ok:=fun _=>True) (okp:=fun _=>True) ?hr ?hp (fun _ hk=>hk) trivial (Below.refl _ _) (Nat.le_refl _) (by simp) ?_;(case hd=>rfl);(case hg=>rfl);(case hr=>first|(go_simp;done)|(go_simp;rfl));(case hp=>exact (Reps.one (show Kd.M (Kd.int .i64) _ _ _ (l0_25.length:Int) [.int .i64 (l0_25.length:Int)] from rfl) (Reps.none _ _)));intro v454 w25 ho26 hb hg_ hnew_;clear hg_ hnew_;(first|rw [← Ny453.out] at ho26|(simp only [Int.reduceToNat] at ho26;rw [← Ny453.out] at ho26));have HO455:=mA (Kd.R_lower (Kd.R_new' ho26 (rL HO_3)) (bpS HB));replace HO_3:=rE HO_3 ho26 hb;replace BK435:=bK BK435 hb;replace HB:=spS HB hb;clear hb ho26;obtain ⟨Ao28,co28,rfl⟩:=Kd.R_slice HO455.out)|((with_reducible refine gate_builtin (b:=.append) (xs:=#[.tmp 37,.tmp 41]) rfl ?_);at_builtin;refine Kd.R_append_rows (Kd.int .i64) (w0:=w) w.heap.size rfl (.tmp 37) (.tmp 41) 58 3 (.int .i64 0) 8 rfl Try.underlying58 info3 rfl aD (by omega) u3 x3_1 y453 _ _ _ (fun k_=>some k_≠(.slice Ao28 y453.length co28:Value).ownBlock) (fun _=>False) rfl rfl ?aO ?aR (fun _ _ h=>h) (fun _ h=>h.elim) ?aF ?aB ?aS ?aL ?_;(case aR=>exact cR HO455);(case aB=>exact (pS HB.out));(case aF=>exact (fun k_ hk=>Kd.fresh' (rL HO455) k_ hk));(case aO=>exact (pR (Kd.R_mono HO_3.out (fun _ hk=>hk.2))));(case aS=>exact (bpS HB));(case aL=>have:=LMc23.out;omega);intro v457 w27 ho hb hg hat;rw [← Ny456.out] at ho;replace HO455:=mA (Kd.R_after (ok:=(fun _=>True)) (pR HO455.out) hg hat);have HO458:=mA ho;replace BK435:=mA (blk_grown (pK BK435.out) hg (rN HO_3 BK435));replace HB:=mA hb;clear HO_3;clear ho hb hg hat))
      go_loopg [3,6] k1 (fun kq v3 v6 w'=>∃ (x3_2:List Int) (x6_2:Int),v6=.int .i64 x6_2∧Aside0 (spec_l11All.l1 kq x3_2 x6_2 a0_0 a0_1 a0_2 a0_3 a0_4 a0_5 a0_6 a0_7 a0_8 a0_9 a0_10 a0_11 a0_12 a0_13 a0_14 a0_15 a0_16 a0_17 a0_18 a0_19 a0_20 a0_21 a0_22 a0_23 l0_24 l0_25=some r)∧Aside0 (kq≤k1)∧Aside0 (Kd.R (Kd.int .i64) 3 w' w.heap.size (fun _=>True) v3 x3_2)∧Aside0 (w'.heap[gb435]?=some (.cells #[.int .i64 a0_0,.int .i64 a0_1,.int .i64 a0_2,.int .i64 a0_3,.int .i64 a0_4,.int .i64 a0_5,.int .i64 a0_6,.int .i64 a0_7,.int .i64 a0_8,.int .i64 a0_9,.int .i64 a0_10,.int .i64 a0_11,.int .i64 a0_12,.int .i64 a0_13,.int .i64 a0_14,.int .i64 a0_15,.int .i64 a0_16,.int .i64 a0_17,.int .i64 a0_18,.int .i64 a0_19,.int .i64 a0_20,.int .i64 a0_21,.int .i64 a0_22,.int .i64 a0_23,(.slice A0_24 l0_24.length c0_24),(.slice A0_25 l0_25.length c0_25)] 28 (0,0)))∧Aside0 (Below w.heap.size w w'))
      case atStart=>exact ⟨(y456),(0),bZ,H',⟨Nat.le_refl _⟩,⟨pR (Kd.R_mono HO458.out (fun _ hk=>trivial))⟩,⟨pK BK435.out⟩,⟨pS HB.out⟩⟩
      case round =>
       clear H'
       (try clear c3);(try clear c12);(try clear c12b0);(try clear c23);(try clear hcz24_0);(try clear hfz24_0)
       obtain ⟨x3_2,x6_2,rfl,HA,HK2,HO_3,BK435,HB⟩:=hrel
       cases gk with
       | zero=>exact absurd HA.out (by simp [spec_l11All.l1])
       | succ k2 =>
        have H:=HA.out;clear HA;simp only [spec_l11All.l1] at H
        by_cases c29:x6_2<(l0_25.length:Int)
        ·rw [if_pos c29] at H;have c29b0:decide (x6_2<(l0_25.length:Int))=true:=decide_eq_true c29;clear c29
         by_cases c30:0≤x6_2
         ·rw [if_pos c30] at H;have c30b0:decide (0≤x6_2)=true:=decide_eq_true c30;clear c30;obtain ⟨y461,hy461⟩:∃ y_:List Int,y_=(([(rd_T140 l0_25 x6_2).f0,(rd_T140 l0_25 x6_2).f1]:List Int)):=⟨_,rfl⟩
          replace H:(if x3_2.length+y461.length<17592186044416 then (spec_l11All.l1 k2 (x3_2 ++ y461) (wrap64 (x6_2+1)) a0_0 a0_1 a0_2 a0_3 a0_4 a0_5 a0_6 a0_7 a0_8 a0_9 a0_10 a0_11 a0_12 a0_13 a0_14 a0_15 a0_16 a0_17 a0_18 a0_19 a0_20 a0_21 a0_22 a0_23 l0_24 l0_25) else (none))=some r:=qH hy461 H
          have Ny461:=mA hy461;clear hy461
          by_cases c31:x3_2.length+y461.length<17592186044416
          ·rw [if_pos c31] at H;have LMc31:=mA c31;clear c31;obtain ⟨y464,hy464⟩:∃ y_:List Int,y_=(x3_2 ++ y461):=⟨_,rfl⟩
           replace H:(spec_l11All.l1 k2 y464 (wrap64 (x6_2+1)) a0_0 a0_1 a0_2 a0_3 a0_4 a0_5 a0_6 a0_7 a0_8 a0_9 a0_10 a0_11 a0_12 a0_13 a0_14 a0_15 a0_16 a0_17 a0_18 a0_19 a0_20 a0_21 a0_22 a0_23 l0_24 l0_25)=some r:=qH hy464 H
           have Ny464:=mA hy464;clear hy464;have H':=mA H;clear H;have hcz32_0:=fun i_=>blk_cell BK435.out i_;have hfz32_0:=fun i_=>blk_frozen BK435.out i_
           try go_wp2_with (first|((with_reducible refine gLg rfl (by assumption) ?_);refine ldV ?_)|((with_reducible refine gSt rfl (by assumption) ?_);refine stV ?_))
           replace HO_3:=rD HO_3;replace BK435:=mA (blk_drew BK435.out);replace HB:=mA (below_drew1 HB.out);have p459:0≤(x6_2:Int):=of_decide_eq_true bA;have q459:x6_2<(l0_25.length:Int):=of_decide_eq_true bA;obtain ⟨ad459,e459,hx459_0,hx459_1⟩:=at_T140 HR0_25.out x6_2 p459 q459;have hw459_1:=hx459_1;have hw459_0:=hx459_0;cases e459;replace hx459_0:=hC HB hx459_0;replace hx459_1:=hC HB hx459_1;replace p459:=eq_true p459;replace q459:=eq_true q459;have p460:0≤(x6_2:Int):=of_decide_eq_true bA;have q460:x6_2<(l0_25.length:Int):=of_decide_eq_true bA;obtain ⟨ad460,e460,hx460_0,hx460_1⟩:=at_T140 HR0_25.out x6_2 p460 q460;have hw460_1:=hx460_1;have hw460_0:=hx460_0
           obtain rfl:ad459=ad460:=(by injection e460)
           replace hx460_0:=hC HB hx460_0;replace hx460_1:=hC HB hx460_1;replace p460:=eq_true p460;replace q460:=eq_true q460
           refine start_ (n:=16) (S:=fun w'=>w'.heap[gb435]?=some (.cells #[.int .i64 a0_0,.int .i64 a0_1,.int .i64 a0_2,.int .i64 a0_3,.int .i64 a0_4,.int .i64 a0_5,.int .i64 a0_6,.int .i64 a0_7,.int .i64 a0_8,.int .i64 a0_9,.int .i64 a0_10,.int .i64 a0_11,.int .i64 a0_12,.int .i64 a0_13,.int .i64 a0_14,.int .i64 a0_15,.int .i64 a0_16,.int .i64 a0_17,.int .i64 a0_18,.int .i64 a0_19,.int .i64 a0_20,.int .i64 a0_21,.int .i64 a0_22,.int .i64 a0_23,.slice A0_24 l0_24.length c0_24,.slice (some ad459) l0_25.length c0_25] 28 (0,0))∧w'.cell? (ad459.add ((x6_2).toNat * 2))=some (.int .i64 ((rd_T140 l0_25 x6_2).f0))∧w'.cell? ⟨(ad459.add ((x6_2).toNat * 2)).block,(ad459.add ((x6_2).toNat * 2)).off+1,none⟩=some (.int .i64 ((rd_T140 l0_25 x6_2).f1))∧w'.cell? (ad459.add ((x6_2).toNat * 2))=some (.int .i64 ((rd_T140 l0_25 x6_2).f0))∧w'.cell? ⟨(ad459.add ((x6_2).toNat * 2)).block,(ad459.add ((x6_2).toNat * 2)).off+1,none⟩=some (.int .i64 ((rd_T140 l0_25 x6_2).f1))) (ds:=[]) _ aK rfl rfl ⟨BK435.out,((HB.out.cell (World.block_lt_of_cell? w _ hw459_0)).trans hw459_0),((HB.out.cell (World.block_lt_of_cell? w _ hw459_1)).trans hw459_1),((HB.out.cell (World.block_lt_of_cell? w _ hw460_0)).trans hw460_0),((HB.out.cell (World.block_lt_of_cell? w _ hw460_1)).trans hw460_1)⟩ (fun hHeld=>?_);refine with_tabW spec_l11All.tab11 spec_l11All.bits11 (fun HT_ HW_=>?_)
           generalize wr.drew=w33 at HO_3 BK435 HB hx459_0 hx459_1 hx460_0 hx460_1 hHeld ⊢
           refine pul_ 0 (some 50) #[true,false,false,false,false,false,false,false,false,false,false,false,false,false,false,false] (aT HT_) ?_
           refine pul_ 1 (some 51) #[true,true,false,false,false,false,false,false,false,false,false,false,false,false,false,false] (aT HT_) ?_
           refine pul_ 3 (some 53) #[true,true,false,true,false,false,false,false,false,false,false,false,false,false,false,false] (aT HT_) ?_
           refine pul_ 7 (some 57) #[true,true,false,true,false,false,false,true,false,false,false,false,false,false,false,false] (aT HT_) ?_
           refine pul_ 9 (some 59) #[true,true,false,true,false,false,false,true,false,true,false,false,false,false,false,false] (aT HT_) ?_
           refine tb5l_ 2 (some 52) #[true,true,true,true,false,false,false,true,false,true,false,false,false,false,false,false] (tT HT_ HW_) hHeld ?_
           refine pul_ 4 (some 54) #[true,true,true,true,true,false,false,true,false,true,false,false,false,false,false,false] (aT HT_) ?_
           refine pul_ 5 (some 55) #[true,true,true,true,true,true,false,true,false,true,false,false,false,false,false,false] (aT HT_) ?_
           refine tb5l_ 6 (some 56) #[true,true,true,true,true,true,true,true,false,true,false,false,false,false,false,false] (tT HT_ HW_) hHeld ?_
           refine tb5l_ 8 (some 58) #[true,true,true,true,true,true,true,true,true,true,false,false,false,false,false,false] (tT HT_ HW_) hHeld ?_
           refine pul_ 10 (some 60) #[true,true,true,true,true,true,true,true,true,true,true,false,false,false,false,false] (aT HT_) ?_
           refine pul_ 11 (some 61) #[true,true,true,true,true,true,true,true,true,true,true,true,false,false,false,false] (aT HT_) ?_
           refine tb5l_ 12 (some 62) #[true,true,true,true,true,true,true,true,true,true,true,true,true,false,false,false] (tT HT_ HW_) hHeld ?_
           refine one_ (i:=13) (N:=some 63) #[true,true,true,true,true,true,true,true,true,true,true,true,true,true,false,false] rfl rfl (oT HT_) aD (fun K hK=>?_)
           refine Kd.R_lit_step (Kd.int .i64) _ 3 ?hg (N:=63) ?hd (xs:=([(rd_T140 l0_25 x6_2).f0,(rd_T140 l0_25 x6_2).f1]:List Int)) (inner:=[.int .i64 ((rd_T140 l0_25 x6_2).f0),.int .i64 ((rd_T140 l0_25 x6_2).f1)]) (ok:=fun _=>True) (okp:=fun _=>True) ?hr ?hp (fun _ hk=>hk) trivial (Below.refl _ _) (Nat.le_refl _) (by simp) ?_;(case hd=>rfl);(case hg=>rfl);(case hr=>first|(go_simp;done)|(go_simp;rfl));(case hp=>exact (Reps.one (show Kd.M (Kd.int .i64) _ _ _ ((rd_T140 l0_25 x6_2).f0) [.int .i64 ((rd_T140 l0_25 x6_2).f0)] from rfl) (Reps.one (show Kd.M (Kd.int .i64) _ _ _ ((rd_T140 l0_25 x6_2).f1) [.int .i64 ((rd_T140 l0_25 x6_2).f1)] from rfl) (Reps.none _ _))))
           intro v462 w34 ho35 hb hg_ hnew_;clear hg_ hnew_
           (first|rw [← Ny461.out] at ho35|(simp only [Int.reduceToNat] at ho35;rw [← Ny461.out] at ho35))
           have HO463:=mA (Kd.R_lower (Kd.R_new' ho35 (rL HO_3)) (bpS HB));replace HO_3:=rE HO_3 ho35 hb;replace BK435:=bK BK435 hb;replace HB:=spS HB hb;clear hb ho35;obtain ⟨Ao37,co37,eo37⟩:=Kd.R_slice HO463.out
           (first|subst eo37|(injection eo37 with f1_ f2_ f3_;have f4_:=f1_.symm;have f5_:=f3_.symm;clear f1_ f2_ f3_;subst f4_;subst f5_))
           refine hK.out _ _ ⟨BK435.out,((HB.out.cell (World.block_lt_of_cell? w _ hw459_0)).trans hw459_0),((HB.out.cell (World.block_lt_of_cell? w _ hw459_1)).trans hw459_1),((HB.out.cell (World.block_lt_of_cell? w _ hw460_0)).trans hw460_0),((HB.out.cell (World.block_lt_of_cell? w _ hw460_1)).trans hw460_1)⟩ (fun hHeld=>?_);clear hK K;refine no_ (some 63) ?_
           refine one_ (i:=14) (N:=some 64) #[true,true,true,true,true,true,true,true,true,true,true,true,true,true,true,false] rfl rfl (oT HT_) aD (fun K hK=>?_)
           refine Kd.R_append_rows_step (Kd.int .i64) (w0:=w) w.heap.size (by rfl) (.tmp 50) (.tmp 63) 58 3 (.int .i64 0) 8 rfl Try.underlying58 info3 rfl aD (by omega) u3 x3_2 y461 _ _ _ (fun k_=>some k_≠(.slice Ao37 y461.length co37:Value).ownBlock) (fun _=>False) rfl rfl ?aO ?aR (fun _ _ h=>h) (fun _ h=>h.elim) ?aF ?aB ?aS ?aL ?_
           (case aR=>exact cR HO463)
           (case aB=>exact (pS HB.out))
           (case aF=>exact (fun k_ hk=>Kd.fresh' (rL HO463) k_ hk))
           (case aO=>exact (pR (Kd.R_mono HO_3.out (fun _ hk=>hk.2))))
           (case aS=>exact (bpS HB))
           (case aL=>have:=LMc31.out;omega)
           intro v465 w36 ho hb hg hat;rw [← Ny464.out] at ho
           replace HO463:=mA (Kd.R_after (ok:=(fun _=>True)) (pR HO463.out) hg hat);have HO466:=mA ho;replace BK435:=mA (blk_grown (pK BK435.out) hg (rN HO_3 BK435));replace HB:=mA hb;clear HO_3;clear ho hb hg hat;refine hK.out _ _ ⟨BK435.out,((HB.out.cell (World.block_lt_of_cell? w _ hw459_0)).trans hw459_0),((HB.out.cell (World.block_lt_of_cell? w _ hw459_1)).trans hw459_1),((HB.out.cell (World.block_lt_of_cell? w _ hw460_0)).trans hw460_0),((HB.out.cell (World.block_lt_of_cell? w _ hw460_1)).trans hw460_1)⟩ (fun hHeld=>?_);clear hK K;refine no_ (some 64) ?_
           refine pul_ 15 (some 3) #[true,true,true,true,true,true,true,true,true,true,true,true,true,true,true,true] (aT HT_) ?_
           refine done_ (done_of HT_.out aK) ?_
           try go_wp2_with (first|((with_reducible refine gLg rfl (by assumption) ?_);refine ldV ?_)|((with_reducible refine gSt rfl (by assumption) ?_);refine stV ?_))
           go_roundg k2
           case measure=>have:=HK1.out;have:=HK2.out;omega
           case rel=>exact ⟨(y464),(wrap64 (x6_2+1)),bZ,H',⟨by have:=HK1.out;have:=HK2.out;omega⟩,⟨pR (Kd.R_mono HO466.out (fun _ hk=>trivial))⟩,⟨pK BK435.out⟩,⟨pS HB.out⟩⟩
          ·rw [if_neg c31] at H
           exact absurd H (by simp)
         ·rw [if_neg c30] at H
          exact absurd H (by simp)
        ·rw [if_neg c29] at H;have c29b0:decide (x6_2<(l0_25.length:Int))=false:=decide_eq_false c29;clear c29;obtain rfl:=Option.some.inj H;have hcz38_0:=fun i_=>blk_cell BK435.out i_;have hfz38_0:=fun i_=>blk_frozen BK435.out i_
         go_wp2_with (first|((with_reducible refine gLg rfl (by assumption) ?_);refine ldV ?_)|((with_reducible refine gSt rfl (by assumption) ?_);refine stV ?_))
         go_ret
         exact ⟨_,by first|rfl|(simp [errW_none,errW_some]<;>rfl)|(simp [*,errW_none,errW_some]<;>rfl),pR HO_3.out,pS HB.out⟩
     ·rw [if_neg c23] at H
      exact absurd H (by simp)
 ·rw [if_neg c3] at H
  exact absurd H (by simp)

/-! ### spec_WordPack: function 14 -/
def spec_WordPack.f (k : Nat) (a0_0 : Int) (a0_1 : Int) (a0_2 : Int) (a0_3 : Int) (a0_4 : Int) (a0_5 : Int) (a0_6 : Int) (a0_7 : Int) (a0_8 : Int) (a0_9 : Int) (a0_10 : Int) (a0_11 : Int) (a0_12 : Int) (a0_13 : Int) (a0_14 : Int) (a0_15 : Int) (a0_16 : Int) (a0_17 : Int) (a0_18 : Int) (a0_19 : Int) (a0_20 : Int) (a0_21 : Int) (a0_22 : Int) (a0_23 : Int) (l0_24 : List (S138)) (l0_25 : List (S140)) : Option (List Int) := (spec_WordOk.f k a0_0 a0_1 a0_2 a0_3 a0_4 a0_5 a0_6 a0_7 a0_8 a0_9 a0_10 a0_11 a0_12 a0_13 a0_14 a0_15 a0_16 a0_17 a0_18 a0_19 a0_20 a0_21 a0_22 a0_23 l0_24 l0_25).bind fun t468 => (if t468 = true then ((spec_l11All.f k a0_0 a0_1 a0_2 a0_3 a0_4 a0_5 a0_6 a0_7 a0_8 a0_9 a0_10 a0_11 a0_12 a0_13 a0_14 a0_15 a0_16 a0_17 a0_18 a0_19 a0_20 a0_21 a0_22 a0_23 l0_24 l0_25).bind fun t469 => ((spec_l11Byte.f k t469).bind fun t472 => (some t472))) else (some (([] : List Int))))
theorem spec_WordPack.mono : ∀ a0 a1 a2 a3 a4 a5 a6 a7 a8 a9 a10 a11 a12 a13 a14 a15 a16 a17 a18 a19 a20 a21 a22 a23 a24 a25 k, LeO (spec_WordPack.f k a0 a1 a2 a3 a4 a5 a6 a7 a8 a9 a10 a11 a12 a13 a14 a15 a16 a17 a18 a19 a20 a21 a22 a23 a24 a25) (spec_WordPack.f (k + 1) a0 a1 a2 a3 a4 a5 a6 a7 a8 a9 a10 a11 a12 a13 a14 a15 a16 a17 a18 a19 a20 a21 a22 a23 a24 a25) := by
 intro a0 a1 a2 a3 a4 a5 a6 a7 a8 a9 a10 a11 a12 a13 a14 a15 a16 a17 a18 a19 a20 a21 a22 a23 a24 a25 k
 unfold spec_WordPack.f
 repeat' first
   | (with_reducible first|apply spec_WordOk.mono|apply spec_l11All.mono|apply spec_l11Byte.mono|exact LeO.refl _|exact LeO.none _|refine LeO.ite ?_ ?_|refine LeO.bind ?_ (fun _=>?_))|exact LeO.none _|refine LeO.ite ?_ ?_|refine LeO.bind ?_ (fun _=>?_)
set_option maxHeartbeats 8000000 in
set_option maxRecDepth 100000 in
theorem spec_WordPack.calls {k : Nat} {a0_0 : Int} {a0_1 : Int} {a0_2 : Int} {a0_3 : Int} {a0_4 : Int} {a0_5 : Int} {a0_6 : Int} {a0_7 : Int} {a0_8 : Int} {a0_9 : Int} {a0_10 : Int} {a0_11 : Int} {a0_12 : Int} {a0_13 : Int} {a0_14 : Int} {a0_15 : Int} {a0_16 : Int} {a0_17 : Int} {a0_18 : Int} {a0_19 : Int} {a0_20 : Int} {a0_21 : Int} {a0_22 : Int} {a0_23 : Int} {A0_24 : Option Addr} {c0_24 : Nat} {l0_24 : List (S138)} {A0_25 : Option Addr} {c0_25 : Nat} {l0_25 : List (S140)} {r : List Int} {w : World} (hr0_24 : Kd.C k138 w A0_24 l0_24.length l0_24) (hc0_24 : l0_24.length ≤ c0_24) (hr0_25 : Kd.C k140 w A0_25 l0_25.length l0_25) (hc0_25 : l0_25.length ≤ c0_25) (h : spec_WordPack.f k a0_0 a0_1 a0_2 a0_3 a0_4 a0_5 a0_6 a0_7 a0_8 a0_9 a0_10 a0_11 a0_12 a0_13 a0_14 a0_15 a0_16 a0_17 a0_18 a0_19 a0_20 a0_21 a0_22 a0_23 l0_24 l0_25 = some r) :
  Calls Try.prog 14 #[.agg #[.int .i64 a0_0,.int .i64 a0_1,.int .i64 a0_2,.int .i64 a0_3,.int .i64 a0_4,.int .i64 a0_5,.int .i64 a0_6,.int .i64 a0_7,.int .i64 a0_8,.int .i64 a0_9,.int .i64 a0_10,.int .i64 a0_11,.int .i64 a0_12,.int .i64 a0_13,.int .i64 a0_14,.int .i64 a0_15,.int .i64 a0_16,.int .i64 a0_17,.int .i64 a0_18,.int .i64 a0_19,.int .i64 a0_20,.int .i64 a0_21,.int .i64 a0_22,.int .i64 a0_23,.slice A0_24 l0_24.length c0_24,.slice A0_25 l0_25.length c0_25]] w fun e w'=>∃ v0_:Value,e=.returned (v0_)∧Kd.R (Kd.int .u8) 5 w' w.heap.size (fun _=>True) v0_ r∧Below w.heap.size w w':=by
 have hu28:=Try.underlying28;have HR0_24:=mA hr0_24;have HC0_24:=mA hc0_24;clear hr0_24 hc0_24;have HR0_25:=mA hr0_25;have HC0_25:=mA hc0_25;clear hr0_25 hc0_25;have HB:=mA (Below.refl w.heap.size w);have H:((spec_WordOk.f k a0_0 a0_1 a0_2 a0_3 a0_4 a0_5 a0_6 a0_7 a0_8 a0_9 a0_10 a0_11 a0_12 a0_13 a0_14 a0_15 a0_16 a0_17 a0_18 a0_19 a0_20 a0_21 a0_22 a0_23 l0_24 l0_25).bind fun t468=>(if t468=true then ((spec_l11All.f k a0_0 a0_1 a0_2 a0_3 a0_4 a0_5 a0_6 a0_7 a0_8 a0_9 a0_10 a0_11 a0_12 a0_13 a0_14 a0_15 a0_16 a0_17 a0_18 a0_19 a0_20 a0_21 a0_22 a0_23 l0_24 l0_25).bind fun t469=>((spec_l11Byte.f k t469).bind fun t472=>(some t472))) else (some (([]:List Int)))))=some r:=h;clear h;obtain ⟨t468,A2,H⟩:=bI H;(try dsimp only at H)
 by_cases c3:t468=true
 ·subst c3;rw [if_pos rfl] at H;obtain ⟨t469,A4,H⟩:=bI H;(try dsimp only at H);obtain ⟨t472,A5,H⟩:=bI H;(try dsimp only at H);obtain rfl:=Option.some.inj H
  go_enter Try.func14,Try.ntmps14
  go_wp2_with (first|((with_reducible refine gLg rfl (by assumption) ?_);refine ldV ?_)|((with_reducible refine gSt rfl (by assumption) ?_);refine stV ?_)|((with_reducible refine gT 1 rfl ?_);refine bE 1 #[.int .i64 a0_0,.int .i64 a0_1,.int .i64 a0_2,.int .i64 a0_3,.int .i64 a0_4,.int .i64 a0_5,.int .i64 a0_6,.int .i64 a0_7,.int .i64 a0_8,.int .i64 a0_9,.int .i64 a0_10,.int .i64 a0_11,.int .i64 a0_12,.int .i64 a0_13,.int .i64 a0_14,.int .i64 a0_15,.int .i64 a0_16,.int .i64 a0_17,.int .i64 a0_18,.int .i64 a0_19,.int .i64 a0_20,.int .i64 a0_21,.int .i64 a0_22,.int .i64 a0_23,.slice A0_24 l0_24.length c0_24,.slice A0_25 l0_25.length c0_25] 28 ?_;intro gb467 hg w6 hbox hb;have BK467:=mA hbox;have GW467:=gbpB HB hg;have GE467:=gbpB HB hg;replace HB:=spB HB hb;clear hb hbox hg;have hcz7_0:=fun i_=>blk_cell BK467.out i_;have hfz7_0:=fun i_=>blk_frozen BK467.out i_)|((with_reducible refine gT 4 rfl ?_);refine gC (some 4) Try.func17 (spec_WordOk.calls (cB HR0_24 HB) HC0_24.out (cB HR0_25 HB) HC0_25.out A2.out) ?_;rintro e w8 ⟨rfl,hb⟩;refine ⟨_,rfl,?_⟩;replace BK467:=bK BK467 hb;replace HB:=spS HB hb;(try clear hb);have hcz9_0:=fun i_=>blk_cell BK467.out i_;have hfz9_0:=fun i_=>blk_frozen BK467.out i_)|((with_reducible refine gT 8 rfl ?_);refine gC (some 8) Try.func59 (spec_l11All.calls (cB HR0_24 HB) HC0_24.out (cB HR0_25 HB) HC0_25.out A4.out) ?_;rintro e w10 ⟨v470,rfl,ho0,hb⟩;refine ⟨_,rfl,?_⟩;have HO471:=mA (Kd.R_lower ho0 (bpS HB));replace BK467:=bK BK467 hb;replace HB:=spS HB hb;(try clear hb);(try clear ho0);obtain ⟨Ao11,co11,rfl⟩:=Kd.R_slice HO471.out)|((with_reducible refine gT 9 rfl ?_);refine gC (some 9) Try.func58 (spec_l11Byte.calls (cR HO471) (cL HO471) A5.out) ?_;rintro e w12 ⟨v473,rfl,ho0,hb⟩;refine ⟨_,rfl,?_⟩;replace HO471:=rB HO471 hb;have HO474:=mA (Kd.R_lower ho0 (bpS HB));replace BK467:=bK BK467 hb;replace HB:=spS HB hb;(try clear hb);(try clear ho0)))
  go_ret
  exact ⟨_,by first|rfl|(simp [errW_none,errW_some]<;>rfl)|(simp [*,errW_none,errW_some]<;>rfl),pR HO474.out,pS HB.out⟩
 ·replace c3:=Bool.eq_false_iff.mpr c3;subst c3
  rw [if_neg nFT] at H
  obtain ⟨y475,hy475⟩:∃ y_:List Int,y_=(([]:List Int)):=⟨_,rfl⟩
  replace H:(some y475)=some r:=qH hy475 H
  have Ny475:=mA hy475;clear hy475;obtain rfl:=Option.some.inj H
  go_enter Try.func14,Try.ntmps14
  go_wp2_with (first|((with_reducible refine gLg rfl (by assumption) ?_);refine ldV ?_)|((with_reducible refine gSt rfl (by assumption) ?_);refine stV ?_)|((with_reducible refine gT 1 rfl ?_);refine bE 1 #[.int .i64 a0_0,.int .i64 a0_1,.int .i64 a0_2,.int .i64 a0_3,.int .i64 a0_4,.int .i64 a0_5,.int .i64 a0_6,.int .i64 a0_7,.int .i64 a0_8,.int .i64 a0_9,.int .i64 a0_10,.int .i64 a0_11,.int .i64 a0_12,.int .i64 a0_13,.int .i64 a0_14,.int .i64 a0_15,.int .i64 a0_16,.int .i64 a0_17,.int .i64 a0_18,.int .i64 a0_19,.int .i64 a0_20,.int .i64 a0_21,.int .i64 a0_22,.int .i64 a0_23,.slice A0_24 l0_24.length c0_24,.slice A0_25 l0_25.length c0_25] 28 ?_;intro gb467 hg w13 hbox hb;have BK467:=mA hbox;have GW467:=gbpB HB hg;have GE467:=gbpB HB hg;replace HB:=spB HB hb;clear hb hbox hg;have hcz14_0:=fun i_=>blk_cell BK467.out i_;have hfz14_0:=fun i_=>blk_frozen BK467.out i_)|((with_reducible refine gT 4 rfl ?_);refine gC (some 4) Try.func17 (spec_WordOk.calls (cB HR0_24 HB) HC0_24.out (cB HR0_25 HB) HC0_25.out A2.out) ?_;rintro e w15 ⟨rfl,hb⟩;refine ⟨_,rfl,?_⟩;replace BK467:=bK BK467 hb;replace HB:=spS HB hb;(try clear hb))|((with_reducible refine gT 6 rfl ?_);refine Kd.R_lit (Kd.int .u8) _ 5 ?hg (N:=6) ?hd (xs:=([]:List Int)) (inner:=[]) (ok:=fun _=>True) (okp:=fun _=>True) ?hr ?hp (fun _ hk=>hk) trivial (Below.refl _ _) (Nat.le_refl _) (by simp) ?_;(case hd=>rfl);(case hg=>rfl);(case hr=>first|(go_simp;done)|(go_simp;rfl));(case hp=>exact (Reps.none _ _));intro v476 w16 ho17 hb hg_ hnew_;clear hg_ hnew_;(first|rw [← Ny475.out] at ho17|(simp only [Int.reduceToNat] at ho17;rw [← Ny475.out] at ho17));have HO477:=mA (Kd.R_lower ho17 (bpS HB));replace BK467:=bK BK467 hb;replace HB:=spS HB hb;clear hb ho17))
  go_ret
  exact ⟨_,by first|rfl|(simp [errW_none,errW_some]<;>rfl)|(simp [*,errW_none,errW_some]<;>rfl),pR HO477.out,pS HB.out⟩

/-! ### impl_copied_byte: function 60 -/
def impl_copied_byte.f (l0 : List Int) : Option (List Int) := if l0.length ≤ 281474976710656 then some l0 else none
set_option maxHeartbeats 8000000 in
set_option maxRecDepth 100000 in
theorem impl_copied_byte.calls (A0 : Option Addr) (c0 : Nat) (l0 : List Int) (r : List Int) (w : World) (hr0 : Kd.C (Kd.int .u8) w A0 l0.length l0) (hc0 : l0.length ≤ c0) (h : impl_copied_byte.f l0 = some r) :
    Calls Try.prog 60 #[.slice A0 l0.length c0] w fun e w' => ∃ v0_ : Value, e = .returned (v0_) ∧ Kd.R (Kd.int .u8) 5 w' w.heap.size (fun _ => True) v0_ r ∧ Below w.heap.size w w' := by
  unfold impl_copied_byte.f at h
  by_cases hz : l0.length ≤ 281474976710656
  · rw [if_pos hz] at h
    obtain rfl := Option.some.inj h
    have HR := Aside0.mk hr0
    have HZ := Aside0.mk hz
    clear hr0 hc0 h hz
    by_cases h0 : l0.length = 0
    · obtain rfl := List.eq_nil_of_length_eq_zero h0
      clear h0
      go_enter Try.func60, Try.ntmps60
      go_wp2
      go_ret
      exact ⟨_, rfl, Kd.R_nil _ _ _ _ _, Below.refl _ _⟩
    · have c0b : ((l0.length : Int) == 0) = false := beq_eq_false_iff_ne.mpr (by omega)
      have c0c : ((l0.length : Int) != 0) = true := bne_iff_ne.mpr (by omega)
      have c0d : ¬ (l0 = []) := fun h_ => h0 (by rw [h_]; rfl)
      clear h0
      have HB := Aside0.mk (Below.refl w.heap.size w)
      go_enter Try.func60, Try.ntmps60
      go_wp2_with (first
        | (refine Kd.R_make (Kd.int .u8) _ 5 rfl (N := 9) rfl 22 _ _ rfl (l0.length : Int) rfl rfl Try.underlying22 (.int .u8 0) 1 info5 rfl (by decide) (by omega) 0 (ok := fun _ => True) (okp := fun _ => True) rfl (fun _ hk => hk) trivial (Int.natCast_nonneg _) (by have hz := HZ.out; rw [Int.toNat_natCast]; omega) HB.out (Nat.le_refl _) ?_
           intro v1 w1 hR1 hB1 hg1 hn1
           rw [Int.toNat_natCast] at hR1
           have HR1 := Aside0.mk hR1
           have HB1 := Aside0.mk hB1
           have HC1 := Aside0.mk (Kd.C_below HR.out (below_of_grown hg1))
           clear hR1 hB1 hg1 hn1)
        | (refine R_copy (Kd.int .u8) (flat_int _) w.heap.size rfl _ _ 22 22 5 rfl Try.underlying22 (by rw [show (Try.prog.info? 5).map (·.size) = ((Try.prog.info? 5).map (fun i => (i.zero, i.size, i.bytes))).map (fun x => x.2.1) from by rw [Option.map_map]; rfl, info5]; rfl) _ _ _ _ _ l0 (fun _ => True) rfl rfl rfl (by simp) HR1.out HC1.out HB1.out ?_
           intro w2 hR2 hB2 _
           have HR2 := Aside0.mk hR2
           have HB2 := Aside0.mk hB2
           clear hR2 hB2))
      go_ret
      exact ⟨_, rfl, HR2.out, HB2.out⟩
  · rw [if_neg hz] at h; cases h

/-! ### impl_bytesOf: function 61 -/
mutual
def impl_bytesOf.l0 : Nat → List Int → List Int → Int → Int → Option (List Int)
 | 0,_,_,_,_=>none
 | k+1,x3,x6,x7,x8=>if x8<x7 then (if 0≤x8 then (if x8<(x6.length:Int) then (impl_bytesOf.l1 k x3 (wrap64 ((rd x6 x8)+1)) x6 x7 x8) else (none)) else (none)) else (some x3)
def impl_bytesOf.l1 : Nat → List Int → Int → List Int → Int → Int → Option (List Int)
 | 0,_,_,_,_,_=>none
 | k+1,x3,x5,x6,x7,x8=>if x5 > 127 then (if x3.length<140737488355328 then (impl_bytesOf.l1 k (x3 ++ [(wrap64 ((Int.tmod x5 128)+128)) % 256]) (wrap64 (Int.tdiv x5 128)) x6 x7 x8) else (none)) else (if x3.length<140737488355328 then (impl_bytesOf.l0 k (x3 ++ [(x5) % 256]) x6 x7 (wrap64 (x8+1))) else (none))
end
def impl_bytesOf.f (k : Nat) (l0 : List Int) : Option (List Int) := impl_bytesOf.l0 k ([] : List Int) l0 (l0.length : Int) 0
theorem impl_bytesOf.mono_l : ∀ k, (∀ y0 y1 y2 y3, LeO (impl_bytesOf.l0 k y0 y1 y2 y3) (impl_bytesOf.l0 (k + 1) y0 y1 y2 y3)) ∧ (∀ y0 y1 y2 y3 y4, LeO (impl_bytesOf.l1 k y0 y1 y2 y3 y4) (impl_bytesOf.l1 (k + 1) y0 y1 y2 y3 y4))
 | 0=>⟨fun _ _ _ _ r h=>by simp [impl_bytesOf.l0] at h,fun _ _ _ _ _ r h=>by simp [impl_bytesOf.l1] at h⟩
 | k+1=>by
  obtain ⟨ih0,ih1⟩:=impl_bytesOf.mono_l k;refine ⟨?_,?_⟩
  ·intros
   unfold impl_bytesOf.l0
   repeat' first
   | (with_reducible first|apply ih0|apply ih1|exact LeO.refl _|exact LeO.none _|refine LeO.ite ?_ ?_|refine LeO.bind ?_ (fun _=>?_))|exact LeO.none _|refine LeO.ite ?_ ?_|refine LeO.bind ?_ (fun _=>?_)
  ·intros
   unfold impl_bytesOf.l1
   repeat' first
   | (with_reducible first|apply ih0|apply ih1|exact LeO.refl _|exact LeO.none _|refine LeO.ite ?_ ?_|refine LeO.bind ?_ (fun _=>?_))|exact LeO.none _|refine LeO.ite ?_ ?_|refine LeO.bind ?_ (fun _=>?_)
theorem impl_bytesOf.mono : ∀ a0 k, LeO (impl_bytesOf.f k a0) (impl_bytesOf.f (k + 1) a0) := by
 intro a0 k;obtain ⟨ih0,ih1⟩:=impl_bytesOf.mono_l k
 unfold impl_bytesOf.f
 repeat' first
   | (with_reducible first|apply ih0|apply ih1|exact LeO.refl _|exact LeO.none _|refine LeO.ite ?_ ?_|refine LeO.bind ?_ (fun _=>?_))|exact LeO.none _|refine LeO.ite ?_ ?_|refine LeO.bind ?_ (fun _=>?_)
set_option maxHeartbeats 8000000 in
set_option maxRecDepth 100000 in
theorem impl_bytesOf.calls {k : Nat} {A0 : Option Addr} {c0 : Nat} {l0 : List Int} {r : List Int} {w : World} (hr0 : Kd.C (Kd.int .i64) w A0 l0.length l0) (hc0 : l0.length ≤ c0) (h : impl_bytesOf.f k l0 = some r) :
  Calls Try.prog 61 #[.slice A0 l0.length c0] w fun e w'=>∃ v0_:Value,e=.returned (v0_)∧Kd.R (Kd.int .u8) 5 w' w.heap.size (fun _=>True) v0_ r∧Below w.heap.size w w':=by
 have HR0:=mA hr0;have HC0:=mA hc0;clear hr0 hc0;have HB:=mA (Below.refl w.heap.size w);have H:(impl_bytesOf.l0 k ([]:List Int) l0 (l0.length:Int) 0)=some r:=h;clear h;have H':=mA H;clear H
 go_enter Try.func61,Try.ntmps61
 go_wp2
 go_loopg [3,8] k (fun kq v3 v8 w'=>∃ (x3_1:List Int) (x8_1:Int),v8=.int .i64 x8_1∧Aside0 (impl_bytesOf.l0 kq x3_1 l0 (l0.length:Int) x8_1=some r)∧Aside0 (kq≤k)∧Aside0 (Kd.R (Kd.int .u8) 5 w' w.heap.size (fun _=>True) v3 x3_1)∧Aside0 (Below w.heap.size w w'))
 case atStart=>exact ⟨(([]:List Int)),(0),bZ,H',⟨Nat.le_refl _⟩,⟨aN⟩,⟨pB HB.out⟩⟩
 case round =>
  clear H';obtain ⟨x3_1,x8_1,rfl,HA,HK1,HO_3,HB⟩:=hrel
  cases gk with
  | zero=>exact absurd HA.out (by simp [impl_bytesOf.l0])
  | succ k1 =>
   have H:=HA.out;clear HA;simp only [impl_bytesOf.l0] at H
   by_cases c2:x8_1<(l0.length:Int)
   ·rw [if_pos c2] at H;have c2b0:decide (x8_1<(l0.length:Int))=true:=decide_eq_true c2;clear c2
    by_cases c3:0≤x8_1
    ·rw [if_pos c3] at H;have c3b0:decide (0≤x8_1)=true:=decide_eq_true c3;clear c3
     by_cases c4:x8_1<(l0.length:Int)
     ·rw [if_pos c4] at H;have c4b0:decide (x8_1<(l0.length:Int))=true:=decide_eq_true c4;clear c4;have H':=mA H;clear H;have p575:0≤(x8_1:Int):=of_decide_eq_true bA;have q575:x8_1<(l0.length:Int):=of_decide_eq_true bA;obtain ⟨ad575,e575,hx575_0⟩:=Kd.at_int HR0.out x8_1 p575 q575;cases e575;replace hx575_0:=hC HB hx575_0;replace p575:=eq_true p575;replace q575:=eq_true q575
      go_wp2
      go_loopg [3,5] k1 (fun kq v3 v5 w'=>∃ (x3_2:List Int) (x5_2:Int),v5=.int .i64 x5_2∧Aside0 (impl_bytesOf.l1 kq x3_2 x5_2 l0 (l0.length:Int) x8_1=some r)∧Aside0 (kq≤k1)∧Aside0 (Kd.R (Kd.int .u8) 5 w' w.heap.size (fun _=>True) v3 x3_2)∧Aside0 (Below w.heap.size w w'))
      case atStart=>exact ⟨(x3_1),(wrap64 ((rd l0 x8_1)+1)),bZ,H',⟨Nat.le_refl _⟩,⟨pR HO_3.out⟩,⟨pB HB.out⟩⟩
      case round =>
       clear H'
       (try clear c2);(try clear c2b0);(try clear c3);(try clear c3b0);(try clear c4);(try clear c4b0);(try clear hx575_0);(try clear p575);(try clear q575)
       obtain ⟨x3_2,x5_2,rfl,HA,HK2,HO_3,HB⟩:=hrel
       cases gk with
       | zero=>exact absurd HA.out (by simp [impl_bytesOf.l1])
       | succ k2 =>
        have H:=HA.out;clear HA;simp only [impl_bytesOf.l1] at H
        by_cases c5:x5_2 > 127
        ·rw [if_pos c5] at H;have c5b0:decide (127<x5_2)=true:=decide_eq_true c5;clear c5
         by_cases c6:x3_2.length<140737488355328
         ·rw [if_pos c6] at H;have LMc6:=mA c6;clear c6;obtain ⟨y576,hy576⟩:∃ y_:List Int,y_=(x3_2 ++ [(wrap64 ((Int.tmod x5_2 128)+128)) % 256]):=⟨_,rfl⟩
          replace H:(impl_bytesOf.l1 k2 y576 (wrap64 (Int.tdiv x5_2 128)) l0 (l0.length:Int) x8_1)=some r:=qH hy576 H
          have Ny576:=mA hy576;clear hy576;have H':=mA H;clear H
          go_wp2_with (first|((with_reducible refine gate_builtin (b:=.append) (xs:=#[.tmp 16,.tmp 21]) rfl ?_);at_builtin;refine Kd.R_append (Kd.int .u8) (w0:=w) w.heap.size rfl (.tmp 16) (.tmp 21) 22 5 (.int .u8 0) 1 rfl Try.underlying22 info5 rfl aD (by omega) u3 x3_2 ((wrap64 ((Int.tmod x5_2 128)+128)) % 256) [.int .u8 ((wrap64 ((Int.tmod x5_2 128)+128)) % 256)] (fun _=>True) (fun _=>False) rfl rfl ?aP (fun _ hk=>hk.elim) ?aF ?aO ?aB ?aS ?aL ?_;(case aP=>exact rfl);(case aB=>exact (pB HB.out));(case aF=>exact (fun _ _=>trivial));(case aO=>exact (pR HO_3.out));(case aS=>exact (bpB HB));(case aL=>have:=LMc6.out;omega);intro v577 w7 ho hb hg hat;rw [← Ny576.out] at ho;have HO578:=mA ho;replace HB:=mA hb;clear HO_3;clear ho hb hg hat))
          go_roundg k2
          case measure=>have:=HK1.out;have:=HK2.out;omega
          case rel=>exact ⟨(y576),(wrap64 (Int.tdiv x5_2 128)),bZ,H',⟨by have:=HK1.out;have:=HK2.out;omega⟩,⟨pR HO578.out⟩,⟨pB HB.out⟩⟩
         ·rw [if_neg c6] at H
          exact absurd H (by simp)
        ·rw [if_neg c5] at H;have c5b0:decide (127<x5_2)=false:=decide_eq_false c5;clear c5
         by_cases c8:x3_2.length<140737488355328
         ·rw [if_pos c8] at H;have LMc8:=mA c8;clear c8;obtain ⟨y579,hy579⟩:∃ y_:List Int,y_=(x3_2 ++ [(x5_2) % 256]):=⟨_,rfl⟩
          replace H:(impl_bytesOf.l0 k2 y579 l0 (l0.length:Int) (wrap64 (x8_1+1)))=some r:=qH hy579 H
          have Ny579:=mA hy579;clear hy579;have H':=mA H;clear H
          go_wp2_with (first|((with_reducible refine gate_builtin (b:=.append) (xs:=#[.tmp 25,.tmp 28]) rfl ?_);at_builtin;refine Kd.R_append (Kd.int .u8) (w0:=w) w.heap.size rfl (.tmp 25) (.tmp 28) 22 5 (.int .u8 0) 1 rfl Try.underlying22 info5 rfl aD (by omega) u3 x3_2 ((x5_2) % 256) [.int .u8 ((x5_2) % 256)] (fun _=>True) (fun _=>False) rfl rfl ?aP (fun _ hk=>hk.elim) ?aF ?aO ?aB ?aS ?aL ?_;(case aP=>exact rfl);(case aB=>exact (pB HB.out));(case aF=>exact (fun _ _=>trivial));(case aO=>exact (pR HO_3.out));(case aS=>exact (bpB HB));(case aL=>have:=LMc8.out;omega);intro v580 w9 ho hb hg hat;rw [← Ny579.out] at ho;have HO581:=mA ho;replace HB:=mA hb;clear HO_3;clear ho hb hg hat))
          go_roundg k2
          case measure=>have:=HK1.out;have:=HK2.out;omega
          case rel=>exact ⟨(y579),(wrap64 (x8_1+1)),bZ,H',⟨by have:=HK1.out;have:=HK2.out;omega⟩,⟨pR HO581.out⟩,⟨pB HB.out⟩⟩
         ·rw [if_neg c8] at H
          exact absurd H (by simp)
     ·rw [if_neg c4] at H
      exact absurd H (by simp)
    ·rw [if_neg c3] at H
     exact absurd H (by simp)
   ·rw [if_neg c2] at H;have c2b0:decide (x8_1<(l0.length:Int))=false:=decide_eq_false c2;clear c2;obtain rfl:=Option.some.inj H
    go_wp2
    go_ret
    exact ⟨_,by first|rfl|(simp [errW_none,errW_some]<;>rfl)|(simp [*,errW_none,errW_some]<;>rfl),pR HO_3.out,pB HB.out⟩

/-! ### impl_WordPack: function 15 -/
def impl_WordPack.f (k : Nat) (a0_0 : Int) (a0_1 : Int) (a0_2 : Int) (a0_3 : Int) (a0_4 : Int) (a0_5 : Int) (a0_6 : Int) (a0_7 : Int) (a0_8 : Int) (a0_9 : Int) (a0_10 : Int) (a0_11 : Int) (a0_12 : Int) (a0_13 : Int) (a0_14 : Int) (a0_15 : Int) (a0_16 : Int) (a0_17 : Int) (a0_18 : Int) (a0_19 : Int) (a0_20 : Int) (a0_21 : Int) (a0_22 : Int) (a0_23 : Int) (l0_24 : List (S138)) (l0_25 : List (S140)) : Option (List Int) := (impl_WordOk.f k a0_0 a0_1 a0_2 a0_3 a0_4 a0_5 a0_6 a0_7 a0_8 a0_9 a0_10 a0_11 a0_12 a0_13 a0_14 a0_15 a0_16 a0_17 a0_18 a0_19 a0_20 a0_21 a0_22 a0_23 l0_24 l0_25).bind fun t583 => (if t583 = true then ((impl_wordNumbers.f k a0_0 a0_1 a0_2 a0_3 a0_4 a0_5 a0_6 a0_7 a0_8 a0_9 a0_10 a0_11 a0_12 a0_13 a0_14 a0_15 a0_16 a0_17 a0_18 a0_19 a0_20 a0_21 a0_22 a0_23 l0_24 l0_25).bind fun t584 => ((impl_bytesOf.f k t584).bind fun t587 => ((impl_copied_byte.f t587).bind fun t590 => (some t590)))) else (some ([] : List Int)))
theorem impl_WordPack.mono : ∀ a0 a1 a2 a3 a4 a5 a6 a7 a8 a9 a10 a11 a12 a13 a14 a15 a16 a17 a18 a19 a20 a21 a22 a23 a24 a25 k, LeO (impl_WordPack.f k a0 a1 a2 a3 a4 a5 a6 a7 a8 a9 a10 a11 a12 a13 a14 a15 a16 a17 a18 a19 a20 a21 a22 a23 a24 a25) (impl_WordPack.f (k + 1) a0 a1 a2 a3 a4 a5 a6 a7 a8 a9 a10 a11 a12 a13 a14 a15 a16 a17 a18 a19 a20 a21 a22 a23 a24 a25) := by
 intro a0 a1 a2 a3 a4 a5 a6 a7 a8 a9 a10 a11 a12 a13 a14 a15 a16 a17 a18 a19 a20 a21 a22 a23 a24 a25 k
 unfold impl_WordPack.f
 repeat' first
   | (with_reducible first|apply impl_WordOk.mono|apply impl_bytesOf.mono|apply impl_wordNumbers.mono|exact LeO.refl _|exact LeO.none _|refine LeO.ite ?_ ?_|refine LeO.bind ?_ (fun _=>?_))|exact LeO.none _|refine LeO.ite ?_ ?_|refine LeO.bind ?_ (fun _=>?_)
set_option maxHeartbeats 8000000 in
set_option maxRecDepth 100000 in
theorem impl_WordPack.calls {k : Nat} {a0_0 : Int} {a0_1 : Int} {a0_2 : Int} {a0_3 : Int} {a0_4 : Int} {a0_5 : Int} {a0_6 : Int} {a0_7 : Int} {a0_8 : Int} {a0_9 : Int} {a0_10 : Int} {a0_11 : Int} {a0_12 : Int} {a0_13 : Int} {a0_14 : Int} {a0_15 : Int} {a0_16 : Int} {a0_17 : Int} {a0_18 : Int} {a0_19 : Int} {a0_20 : Int} {a0_21 : Int} {a0_22 : Int} {a0_23 : Int} {A0_24 : Option Addr} {c0_24 : Nat} {l0_24 : List (S138)} {A0_25 : Option Addr} {c0_25 : Nat} {l0_25 : List (S140)} {r : List Int} {w : World} (hr0_24 : Kd.C k138 w A0_24 l0_24.length l0_24) (hc0_24 : l0_24.length ≤ c0_24) (hr0_25 : Kd.C k140 w A0_25 l0_25.length l0_25) (hc0_25 : l0_25.length ≤ c0_25) (h : impl_WordPack.f k a0_0 a0_1 a0_2 a0_3 a0_4 a0_5 a0_6 a0_7 a0_8 a0_9 a0_10 a0_11 a0_12 a0_13 a0_14 a0_15 a0_16 a0_17 a0_18 a0_19 a0_20 a0_21 a0_22 a0_23 l0_24 l0_25 = some r) :
  Calls Try.prog 15 #[.agg #[.int .i64 a0_0,.int .i64 a0_1,.int .i64 a0_2,.int .i64 a0_3,.int .i64 a0_4,.int .i64 a0_5,.int .i64 a0_6,.int .i64 a0_7,.int .i64 a0_8,.int .i64 a0_9,.int .i64 a0_10,.int .i64 a0_11,.int .i64 a0_12,.int .i64 a0_13,.int .i64 a0_14,.int .i64 a0_15,.int .i64 a0_16,.int .i64 a0_17,.int .i64 a0_18,.int .i64 a0_19,.int .i64 a0_20,.int .i64 a0_21,.int .i64 a0_22,.int .i64 a0_23,.slice A0_24 l0_24.length c0_24,.slice A0_25 l0_25.length c0_25]] w fun e w'=>∃ v0_:Value,e=.returned (v0_)∧Kd.R (Kd.int .u8) 5 w' w.heap.size (fun _=>True) v0_ r∧Below w.heap.size w w':=by
 have hu28:=Try.underlying28;have HR0_24:=mA hr0_24;have HC0_24:=mA hc0_24;clear hr0_24 hc0_24;have HR0_25:=mA hr0_25;have HC0_25:=mA hc0_25;clear hr0_25 hc0_25;have HB:=mA (Below.refl w.heap.size w);have H:((impl_WordOk.f k a0_0 a0_1 a0_2 a0_3 a0_4 a0_5 a0_6 a0_7 a0_8 a0_9 a0_10 a0_11 a0_12 a0_13 a0_14 a0_15 a0_16 a0_17 a0_18 a0_19 a0_20 a0_21 a0_22 a0_23 l0_24 l0_25).bind fun t583=>(if t583=true then ((impl_wordNumbers.f k a0_0 a0_1 a0_2 a0_3 a0_4 a0_5 a0_6 a0_7 a0_8 a0_9 a0_10 a0_11 a0_12 a0_13 a0_14 a0_15 a0_16 a0_17 a0_18 a0_19 a0_20 a0_21 a0_22 a0_23 l0_24 l0_25).bind fun t584=>((impl_bytesOf.f k t584).bind fun t587=>((impl_copied_byte.f t587).bind fun t590=>(some t590)))) else (some ([]:List Int))))=some r:=h;clear h;obtain ⟨t583,A2,H⟩:=bI H;(try dsimp only at H)
 by_cases c3:t583=true
 ·subst c3;rw [if_pos rfl] at H;obtain ⟨t584,A4,H⟩:=bI H;(try dsimp only at H);obtain ⟨t587,A5,H⟩:=bI H;(try dsimp only at H);obtain ⟨t590,A6,H⟩:=bI H;(try dsimp only at H);obtain rfl:=Option.some.inj H
  go_enter Try.func15,Try.ntmps15
  go_wp2_with (first|((with_reducible refine gLg rfl (by assumption) ?_);refine ldV ?_)|((with_reducible refine gSt rfl (by assumption) ?_);refine stV ?_)|((with_reducible refine gT 1 rfl ?_);refine bE 1 #[.int .i64 a0_0,.int .i64 a0_1,.int .i64 a0_2,.int .i64 a0_3,.int .i64 a0_4,.int .i64 a0_5,.int .i64 a0_6,.int .i64 a0_7,.int .i64 a0_8,.int .i64 a0_9,.int .i64 a0_10,.int .i64 a0_11,.int .i64 a0_12,.int .i64 a0_13,.int .i64 a0_14,.int .i64 a0_15,.int .i64 a0_16,.int .i64 a0_17,.int .i64 a0_18,.int .i64 a0_19,.int .i64 a0_20,.int .i64 a0_21,.int .i64 a0_22,.int .i64 a0_23,.slice A0_24 l0_24.length c0_24,.slice A0_25 l0_25.length c0_25] 28 ?_;intro gb582 hg w7 hbox hb;have BK582:=mA hbox;have GW582:=gbpB HB hg;have GE582:=gbpB HB hg;replace HB:=spB HB hb;clear hb hbox hg;have hcz8_0:=fun i_=>blk_cell BK582.out i_;have hfz8_0:=fun i_=>blk_frozen BK582.out i_)|((with_reducible refine gT 4 rfl ?_);refine gC (some 4) Try.func19 (impl_WordOk.calls (cB HR0_24 HB) HC0_24.out (cB HR0_25 HB) HC0_25.out A2.out) ?_;rintro e w9 ⟨rfl,hb⟩;refine ⟨_,rfl,?_⟩;replace BK582:=bK BK582 hb;replace HB:=spS HB hb;(try clear hb);have hcz10_0:=fun i_=>blk_cell BK582.out i_;have hfz10_0:=fun i_=>blk_frozen BK582.out i_)|((with_reducible refine gT 7 rfl ?_);refine gC (some 7) Try.func62 (impl_wordNumbers.calls (cB HR0_24 HB) HC0_24.out (cB HR0_25 HB) HC0_25.out A4.out) ?_;rintro e w11 ⟨v585,rfl,ho0,hb⟩;refine ⟨_,rfl,?_⟩;have HO586:=mA (Kd.R_lower ho0 (bpS HB));replace BK582:=bK BK582 hb;replace HB:=spS HB hb;(try clear hb);(try clear ho0);obtain ⟨Ao12,co12,rfl⟩:=Kd.R_slice HO586.out)|((with_reducible refine gT 8 rfl ?_);refine gC (some 8) Try.func61 (impl_bytesOf.calls (cR HO586) (cL HO586) A5.out) ?_;rintro e w13 ⟨v588,rfl,ho0,hb⟩;refine ⟨_,rfl,?_⟩;replace HO586:=rB HO586 hb;have HO589:=mA (Kd.R_lower ho0 (bpS HB));replace BK582:=bK BK582 hb;replace HB:=spS HB hb;(try clear hb);(try clear ho0);obtain ⟨Ao14,co14,rfl⟩:=Kd.R_slice HO589.out)|((with_reducible refine gT 9 rfl ?_);refine gC (some 9) Try.func60 (impl_copied_byte.calls _ _ t587 t590 _ (cR HO589) (cL HO589) A6.out) ?_;rintro e w15 ⟨v591,rfl,ho0,hb⟩;refine ⟨_,rfl,?_⟩;replace HO586:=rB HO586 hb;have HO592:=mA (Kd.R_lower (Kd.R_new' ho0 (rL HO589)) (bpS HB));replace HO589:=rE HO589 ho0 hb;replace BK582:=bK BK582 hb;replace HB:=spS HB hb;(try clear hb);(try clear ho0)))
  go_ret
  exact ⟨_,by first|rfl|(simp [errW_none,errW_some]<;>rfl)|(simp [*,errW_none,errW_some]<;>rfl),pR (Kd.R_mono HO592.out (fun _ hk=>trivial)),pS HB.out⟩
 ·replace c3:=Bool.eq_false_iff.mpr c3;subst c3
  rw [if_neg nFT] at H
  obtain rfl:=Option.some.inj H
  go_enter Try.func15,Try.ntmps15
  go_wp2_with (first|((with_reducible refine gLg rfl (by assumption) ?_);refine ldV ?_)|((with_reducible refine gSt rfl (by assumption) ?_);refine stV ?_)|((with_reducible refine gT 1 rfl ?_);refine bE 1 #[.int .i64 a0_0,.int .i64 a0_1,.int .i64 a0_2,.int .i64 a0_3,.int .i64 a0_4,.int .i64 a0_5,.int .i64 a0_6,.int .i64 a0_7,.int .i64 a0_8,.int .i64 a0_9,.int .i64 a0_10,.int .i64 a0_11,.int .i64 a0_12,.int .i64 a0_13,.int .i64 a0_14,.int .i64 a0_15,.int .i64 a0_16,.int .i64 a0_17,.int .i64 a0_18,.int .i64 a0_19,.int .i64 a0_20,.int .i64 a0_21,.int .i64 a0_22,.int .i64 a0_23,.slice A0_24 l0_24.length c0_24,.slice A0_25 l0_25.length c0_25] 28 ?_;intro gb582 hg w16 hbox hb;have BK582:=mA hbox;have GW582:=gbpB HB hg;have GE582:=gbpB HB hg;replace HB:=spB HB hb;clear hb hbox hg;have hcz17_0:=fun i_=>blk_cell BK582.out i_;have hfz17_0:=fun i_=>blk_frozen BK582.out i_)|((with_reducible refine gT 4 rfl ?_);refine gC (some 4) Try.func19 (impl_WordOk.calls (cB HR0_24 HB) HC0_24.out (cB HR0_25 HB) HC0_25.out A2.out) ?_;rintro e w18 ⟨rfl,hb⟩;refine ⟨_,rfl,?_⟩;replace BK582:=bK BK582 hb;replace HB:=spS HB hb;(try clear hb)))
  go_ret
  exact ⟨_,by first|rfl|(simp [errW_none,errW_some]<;>rfl)|(simp [*,errW_none,errW_some]<;>rfl),aN,pS HB.out⟩

end Go.Proofs.Ytoieojmfkkidnaa.P
