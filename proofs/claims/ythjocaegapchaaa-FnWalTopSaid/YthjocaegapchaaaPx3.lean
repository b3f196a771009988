-- printed by pprint.py (this session's program over the kit's printer) out of the translation. Lean checks it.
import Derived.Test.YthjocaegapchaaaPx0
import Derived.Test.YthjocaegapchaaaPx2
namespace Go.Proofs.Ythjocaegapchaaa.P
open Go.RowKit Go.Proofs.YthjocaegapchaaaX Go.Proofs.YthjocaegapchaaaW.PrintWords Go.Proofs.YthjocaegapchaaaW.PrintLast Go.Proofs.YthjocaegapchaaaW.PrintMore
attribute [local go_sem] max2_int min2_int max_two min_two max_three min_three max_four min_four   -- for this text's walks alone
set_option linter.unusedVariables false
set_option linter.unusedSimpArgs false

/-! ### spec_l2Form: function 44 -/
def spec_l2Form.f (k : Nat) (l0_0 : List ByteArray) (l0_1 : List (S75)) : Option (Bool) := (spec_SecOk.f k l0_0 l0_1).bind fun t115 => (if t115 = true then (some ((l0_0.length : Int) == 501)) else (some false))
theorem spec_l2Form.mono : ∀ a0 a1 k, LeO (spec_l2Form.f k a0 a1) (spec_l2Form.f (k + 1) a0 a1) := by
 intro a0 a1 k
 unfold spec_l2Form.f
 repeat' first
   | (with_reducible first|exact spec_SecOk.mono _ _ _|exact LeO.refl _|exact LeO.none _|refine LeO.ite ?_ ?_|refine LeO.bind ?_ (fun _=>?_))|exact spec_SecOk.mono _ _ _|exact LeO.none _|refine LeO.ite ?_ ?_|refine LeO.bind ?_ (fun _=>?_)
set_option maxHeartbeats 8000000 in
set_option maxRecDepth 100000 in
theorem spec_l2Form.calls (k : Nat) (A0_0 : Option Addr) (c0_0 : Nat) (l0_0 : List ByteArray) (A0_1 : Option Addr) (c0_1 : Nat) (l0_1 : List (S75)) (r : Bool) (w : World) (hr0_0 : Kd.C Kd.string w A0_0 l0_0.length l0_0) (hc0_0 : l0_0.length ≤ c0_0) (hr0_1 : Kd.C k75 w A0_1 l0_1.length l0_1) (hc0_1 : l0_1.length ≤ c0_1) (h : spec_l2Form.f k l0_0 l0_1 = some r) :
  Calls Try.prog 44 #[.agg #[.slice A0_0 l0_0.length c0_0,.slice A0_1 l0_1.length c0_1]] w fun e w'=>e=.returned (.bool r)∧Below w.heap.size w w':=by
 have hu31:=Try.underlying31;have HR0_0:=mA hr0_0;have HC0_0:=mA hc0_0;clear hr0_0 hc0_0;have HR0_1:=mA hr0_1;have HC0_1:=mA hc0_1;clear hr0_1 hc0_1;have HB:=mA (Below.refl w.heap.size w);have H:((spec_SecOk.f k l0_0 l0_1).bind fun t115=>(if t115=true then (some ((l0_0.length:Int) == 501)) else (some false)))=some r:=h;clear h;obtain ⟨t115,A2,H⟩:=bI H;(try dsimp only at H)
 by_cases c3:t115=true
 ·subst c3;rw [if_pos rfl] at H;obtain rfl:=Option.some.inj H
  go_enter Try.func44,Try.ntmps44
  go_wp2_with (first|((with_reducible refine gate_dst (N:=1) rfl ?_);(try (refine gate_guard (by rfl) ?_;dsimp only));refine bE 1 #[.slice A0_0 l0_0.length c0_0,.slice A0_1 l0_1.length c0_1] 31 ?_;intro gb114 hg w4 hbox hb;have BK114:=mA hbox;have GW114:=gbpB HB hg;have GE114:=gbpB HB hg;replace HB:=spB HB hb;clear hb hbox hg;obtain ⟨hcz5_0,hcz5_1,hfz5_0,hfz5_1⟩:=box2 BK114.out)|(refine gL (some 4) Try.func68 #[.agg #[.slice A0_0 l0_0.length c0_0,.slice A0_1 l0_1.length c0_1]] ?_;(with_reducible refine (spec_SecOk.calls k _ _ l0_0 _ _ l0_1 true _ ?s1 ?s2 ?s3 ?s4 A2.out).mono ?_);(case s1=>exact cB HR0_0 HB);(case s2=>exact HC0_0.out);(case s3=>exact cB HR0_1 HB);(case s4=>exact HC0_1.out);rintro e w6 ⟨rfl,hb⟩;refine ⟨_,rfl,?_⟩;replace BK114:=bK BK114 hb;replace HB:=spS HB hb;(try clear hb);obtain ⟨hcz7_0,hcz7_1,hfz7_0,hfz7_1⟩:=box2 BK114.out))
  go_ret
  exact ⟨by first|rfl|(simp [errW_none,errW_some]<;>rfl)|(simp [*,errW_none,errW_some]<;>rfl),pS HB.out⟩
 ·replace c3:=Bool.eq_false_iff.mpr c3;subst c3
  rw [if_neg nFT] at H
  obtain rfl:=Option.some.inj H
  go_enter Try.func44,Try.ntmps44
  go_wp2_with (first|((with_reducible refine gate_dst (N:=1) rfl ?_);(try (refine gate_guard (by rfl) ?_;dsimp only));refine bE 1 #[.slice A0_0 l0_0.length c0_0,.slice A0_1 l0_1.length c0_1] 31 ?_;intro gb114 hg w8 hbox hb;have BK114:=mA hbox;have GW114:=gbpB HB hg;have GE114:=gbpB HB hg;replace HB:=spB HB hb;clear hb hbox hg;obtain ⟨hcz9_0,hcz9_1,hfz9_0,hfz9_1⟩:=box2 BK114.out)|(refine gL (some 4) Try.func68 #[.agg #[.slice A0_0 l0_0.length c0_0,.slice A0_1 l0_1.length c0_1]] ?_;(with_reducible refine (spec_SecOk.calls k _ _ l0_0 _ _ l0_1 false _ ?s1 ?s2 ?s3 ?s4 A2.out).mono ?_);(case s1=>exact cB HR0_0 HB);(case s2=>exact HC0_0.out);(case s3=>exact cB HR0_1 HB);(case s4=>exact HC0_1.out);rintro e w10 ⟨rfl,hb⟩;refine ⟨_,rfl,?_⟩;replace BK114:=bK BK114 hb;replace HB:=spS HB hb;(try clear hb)))
  go_ret
  exact ⟨by first|rfl|(simp [errW_none,errW_some]<;>rfl)|(simp [*,errW_none,errW_some]<;>rfl),pS HB.out⟩

/-! ### spec_l2Logged: function 46 -/
mutual
def spec_l2Logged.j0 : Nat → List ByteArray → List (S75) → Int → Bool → Option ((List (S75)) × Bool)
 | 0,_,_,_,_=>none
 | k+1,x0,x4,x5,x27=>if x27=true then (some (x4,false)) else (spec_l2Logged.l0 k x0 x4 x5 0)
def spec_l2Logged.l0 : Nat → List ByteArray → List (S75) → Int → Int → Option ((List (S75)) × Bool)
 | 0,_,_,_,_=>none
 | k+1,x0,x4,x5,x6=>if x6<x5 then (if 0≤(wrap64 (1+x6)) then (if (wrap64 (1+x6))<(x0.length:Int) then (if ((rdOf ByteArray.empty x0 (wrap64 (1+x6))).size:Int)=0 then (some (x4,false)) else (if 0<((rdOf ByteArray.empty x0 (wrap64 (1+x6))).size:Int) then (if (wrap64 (bt (rdOf ByteArray.empty x0 (wrap64 (1+x6))) 0)) ≥ 250 then (some (x4,false)) else (if 1≤((rdOf ByteArray.empty x0 (wrap64 (1+x6))).size:Int) then (if x4.length<5864062014805 then (spec_l2Logged.l0 k x0 (x4 ++ [(⟨wrap64 (bt (rdOf ByteArray.empty x0 (wrap64 (1+x6))) 0),(rdOf ByteArray.empty x0 (wrap64 (1+x6))).extract 1 (rdOf ByteArray.empty x0 (wrap64 (1+x6))).size⟩:S75)]) x5 (wrap64 (x6+1))) else (none)) else (none))) else (none))) else (none)) else (none)) else (some (x4,true))
end
def spec_l2Logged.f (k : Nat) (l0 : List ByteArray) : Option ((List (S75)) × Bool) := (some (([] : List (S75)) : List (S75))).bind fun y129 => (if 0 < (l0.length : Int) then (if (rdOf ByteArray.empty l0 0).toList = ([] : List UInt8) then (some (y129, true)) else (if 0 < ((rdOf ByteArray.empty l0 0).size : Int) then (if ((rdOf ByteArray.empty l0 0).size : Int) = 1 then (spec_l2Logged.j0 k l0 y129 (wrap64 (bt (rdOf ByteArray.empty l0 0) 0)) (decide ((wrap64 (bt (rdOf ByteArray.empty l0 0) 0)) > 250))) else (spec_l2Logged.j0 k l0 y129 (wrap64 (bt (rdOf ByteArray.empty l0 0) 0)) true)) else (none))) else (none))
theorem spec_l2Logged.mono_l : ∀ k, (∀ y0 y1 y2 y3, LeO (spec_l2Logged.j0 k y0 y1 y2 y3) (spec_l2Logged.j0 (k + 1) y0 y1 y2 y3)) ∧ (∀ y0 y1 y2 y3, LeO (spec_l2Logged.l0 k y0 y1 y2 y3) (spec_l2Logged.l0 (k + 1) y0 y1 y2 y3))
 | 0=>⟨fun _ _ _ _ r h=>by simp [spec_l2Logged.j0] at h,fun _ _ _ _ r h=>by simp [spec_l2Logged.l0] at h⟩
 | k+1=>by
  obtain ⟨ih0,ih1⟩:=spec_l2Logged.mono_l k;refine ⟨?_,?_⟩
  ·intro y0 y1 y2 y3
   unfold spec_l2Logged.j0
   repeat' first
   | (with_reducible first|exact ih0 _ _ _ _|exact ih1 _ _ _ _|exact LeO.refl _|exact LeO.none _|refine LeO.ite ?_ ?_|refine LeO.bind ?_ (fun _=>?_))|exact ih0 _ _ _ _|exact ih1 _ _ _ _|exact LeO.none _|refine LeO.ite ?_ ?_|refine LeO.bind ?_ (fun _=>?_)
  ·intro y0 y1 y2 y3
   unfold spec_l2Logged.l0
   repeat' first
   | (with_reducible first|exact ih0 _ _ _ _|exact ih1 _ _ _ _|exact LeO.refl _|exact LeO.none _|refine LeO.ite ?_ ?_|refine LeO.bind ?_ (fun _=>?_))|exact ih0 _ _ _ _|exact ih1 _ _ _ _|exact LeO.none _|refine LeO.ite ?_ ?_|refine LeO.bind ?_ (fun _=>?_)
theorem spec_l2Logged.mono : ∀ a0 k, LeO (spec_l2Logged.f k a0) (spec_l2Logged.f (k + 1) a0) := by
 intro a0 k;obtain ⟨ih0,ih1⟩:=spec_l2Logged.mono_l k
 unfold spec_l2Logged.f
 repeat' first
   | (with_reducible first|exact ih0 _ _ _ _|exact ih1 _ _ _ _|exact LeO.refl _|exact LeO.none _|refine LeO.ite ?_ ?_|refine LeO.bind ?_ (fun _=>?_))|exact ih0 _ _ _ _|exact ih1 _ _ _ _|exact LeO.none _|refine LeO.ite ?_ ?_|refine LeO.bind ?_ (fun _=>?_)
def spec_l2Logged.T13 : Bool × List (List Nat × List Nat) := (true, [([], []), ([], []), ([1], [1]), ([2], [2]), ([], []), ([4], [4]), ([3, 5], [3, 5]), ([6], [6]), ([0, 7], [0, 7]), ([8, 8, 0, 1, 2, 3, 4, 5, 6, 7, 8], [0, 8])])
def spec_l2Logged.B13 : List Nat := [0, 0, 2, 6, 0, 16, 62, 126, 255, 511]
theorem spec_l2Logged.tab13 : rtab .any (opsOf Try.f46 13) = spec_l2Logged.T13 := by kernel_rfl
theorem spec_l2Logged.bits13 : waitsOk spec_l2Logged.T13.2 spec_l2Logged.B13 = true := by kernel_rfl
set_option maxHeartbeats 8000000 in
set_option maxRecDepth 100000 in
theorem spec_l2Logged.calls (k : Nat) (A0 : Option Addr) (c0 : Nat) (l0 : List ByteArray) (r1 : List (S75)) (r2 : Bool) (w : World) (hr0 : Kd.C Kd.string w A0 l0.length l0) (hc0 : l0.length ≤ c0) (h : spec_l2Logged.f k l0 = some (r1, r2)) :
  Calls Try.prog 46 #[.slice A0 l0.length c0] w fun e w'=>∃ v0_:Value,e=.returned (.tuple #[v0_,.bool r2])∧Kd.R k75 75 w' w.heap.size (fun _=>True) v0_ r1∧Below w.heap.size w w':=by
 have hu75:=Try.underlying75;have HR0:=mA hr0;have HC0:=mA hc0;clear hr0 hc0;have HB:=mA (Below.refl w.heap.size w);have H:((some (([]:List (S75)):List (S75))).bind fun y129=>(if 0<(l0.length:Int) then (if (rdOf ByteArray.empty l0 0).toList=([]:List UInt8) then (some (y129,true)) else (if 0<((rdOf ByteArray.empty l0 0).size:Int) then (if ((rdOf ByteArray.empty l0 0).size:Int)=1 then (spec_l2Logged.j0 k l0 y129 (wrap64 (bt (rdOf ByteArray.empty l0 0) 0)) (decide ((wrap64 (bt (rdOf ByteArray.empty l0 0) 0)) > 250))) else (spec_l2Logged.j0 k l0 y129 (wrap64 (bt (rdOf ByteArray.empty l0 0) 0)) true)) else (none))) else (none)))=some (r1,r2):=h;clear h;obtain ⟨y129,hy129⟩:∃ y_:List (S75),y_=(([]:List (S75))):=⟨_,rfl⟩
 replace H:(if 0<(l0.length:Int) then (if (rdOf ByteArray.empty l0 0).toList=([]:List UInt8) then (some (y129,true)) else (if 0<((rdOf ByteArray.empty l0 0).size:Int) then (if ((rdOf ByteArray.empty l0 0).size:Int)=1 then (spec_l2Logged.j0 k l0 y129 (wrap64 (bt (rdOf ByteArray.empty l0 0) 0)) (decide ((wrap64 (bt (rdOf ByteArray.empty l0 0) 0)) > 250))) else (spec_l2Logged.j0 k l0 y129 (wrap64 (bt (rdOf ByteArray.empty l0 0) 0)) true)) else (none))) else (none))=some (r1,r2):=qH hy129 H
 have Ny129:=mA hy129;clear hy129
 by_cases c2:0<(l0.length:Int)
 ·rw [if_pos c2] at H;have c2b0:decide (0<(l0.length:Int))=true:=decide_eq_true c2
  have c2b1:decide (0<l0.length)=true:=decide_eq_true (by omega)
  clear c2
  by_cases c3:(rdOf ByteArray.empty l0 0).toList=([]:List UInt8)
  ·rw [if_pos c3] at H;obtain ⟨c3b0,c3b1⟩:=eqB c3;clear c3;simp only [Option.some.injEq,Prod.mk.injEq] at H;obtain ⟨rfl,rfl⟩:=H
   go_enter Try.func46,Try.ntmps46
   go_wp2_with (first|((with_reducible refine gate_dst (N:=8) rfl ?_);refine Kd.R_lit k75 _ 75 ?hg (N:=8) ?hd (xs:=([]:List (S75))) (inner:=[]) (ok:=fun _=>True) (okp:=fun _=>True) ?hr ?hp (fun _ hk=>hk) trivial (Below.refl _ _) (Nat.le_refl _) (by simp) ?_;(case hd=>rfl);(case hg=>rfl);(case hr=>first|(go_simp;done)|(go_simp;rfl));(case hp=>exact (Reps.none _ _));intro v130 w4 ho5 hb hg_ hnew_;clear hg_ hnew_;(first|rw [← Ny129.out] at ho5|(simp only [Int.reduceToNat] at ho5;rw [← Ny129.out] at ho5));have HO131:=mA (Kd.R_lower ho5 (bpB HB));replace HB:=spB HB hb;clear hb ho5;have p132:0≤(0:Int):=(by omega);have q132:0<(l0.length:Int):=of_decide_eq_true bA;obtain ⟨ad132,e132,hx132_0⟩:=Kd.at_string HR0.out 0 p132 q132;cases e132;have qi132:(0<l0.length)=True:=eq_true (by omega);(try rw [show ((0:Int)).toNat=0 from rfl] at hx132_0);(try rw [Addr.add_zero'] at hx132_0);replace hx132_0:=hC HB hx132_0;replace p132:=eq_true p132;replace q132:=eq_true q132))
   go_ret2
   exact ⟨_,by first|rfl|(simp [errW_none,errW_some]<;>rfl)|(simp [*,errW_none,errW_some]<;>rfl),pR HO131.out,pB HB.out⟩
  ·rw [if_neg c3] at H;have c3b0:((rdOf ByteArray.empty l0 0).toList == ([]:List UInt8))=false:=beq_eq_false_iff_ne.mpr c3;have c3b1:((rdOf ByteArray.empty l0 0).toList != ([]:List UInt8))=true:=bne_iff_ne.mpr c3
   by_cases c6:0<((rdOf ByteArray.empty l0 0).size:Int)
   ·rw [if_pos c6] at H;have c6b0:decide (0<((rdOf ByteArray.empty l0 0).size:Int))=true:=decide_eq_true c6
    have c6b1:decide (0<(rdOf ByteArray.empty l0 0).size)=true:=decide_eq_true (by omega)
    clear c6;have HC8:=mA H;clear H
    go_enter Try.func46,Try.ntmps46
    go_upto_region 5 with (first|((with_reducible refine gate_dst (N:=8) rfl ?_);refine Kd.R_lit k75 _ 75 ?hg (N:=8) ?hd (xs:=([]:List (S75))) (inner:=[]) (ok:=fun _=>True) (okp:=fun _=>True) ?hr ?hp (fun _ hk=>hk) trivial (Below.refl _ _) (Nat.le_refl _) (by simp) ?_;(case hd=>rfl);(case hg=>rfl);(case hr=>first|(go_simp;done)|(go_simp;rfl));(case hp=>exact (Reps.none _ _));intro v130 w9 ho10 hb hg_ hnew_;clear hg_ hnew_;(first|rw [← Ny129.out] at ho10|(simp only [Int.reduceToNat] at ho10;rw [← Ny129.out] at ho10));have HO131:=mA (Kd.R_lower ho10 (bpB HB));replace HB:=spB HB hb;clear hb ho10;have p132:0≤(0:Int):=(by omega);have q132:0<(l0.length:Int):=of_decide_eq_true bA;obtain ⟨ad132,e132,hx132_0⟩:=Kd.at_string HR0.out 0 p132 q132;cases e132;have qi132:(0<l0.length)=True:=eq_true (by omega);(try rw [show ((0:Int)).toNat=0 from rfl] at hx132_0);(try rw [Addr.add_zero'] at hx132_0);replace hx132_0:=hC HB hx132_0;replace p132:=eq_true p132;replace q132:=eq_true q132;have p133:0≤(0:Int):=(by omega);have q133:0<(l0.length:Int):=of_decide_eq_true bA;obtain ⟨ad133,e133,hx133_0⟩:=Kd.at_string HR0.out 0 p133 q133;obtain rfl:ad132=ad133:=(by injection e133);have qi133:(0<l0.length)=True:=eq_true (by omega);(try rw [show ((0:Int)).toNat=0 from rfl] at hx133_0);(try rw [Addr.add_zero'] at hx133_0);replace hx133_0:=hC HB hx133_0;replace p133:=eq_true p133;replace q133:=eq_true q133;have p7:0≤(0:Int):=(by omega);have q7:0<(rdOf ByteArray.empty l0 0).size:=(by have:(0:Int)<((rdOf ByteArray.empty l0 0).size:Int):=of_decide_eq_true bA;omega);have hx7:∀ h:0<(rdOf ByteArray.empty l0 0).size,(((rdOf ByteArray.empty l0 0)[0]'h).toNat:Int)=bt (rdOf ByteArray.empty l0 0) 0:=bt_at (rdOf ByteArray.empty l0 0) 0;clear p7;have qi7:(0<((rdOf ByteArray.empty l0 0).size:Int))=True:=eq_true (of_decide_eq_true bA);replace q7:=eq_true q7))
    (try simp only [Act.put,List.setIfInBounds_toArray,List.set_cons_zero,List.set_cons_succ])
    go_cut [27] (fun v27 wc=>∃ (kq:Nat) (x27_7:Bool),v27=.bool x27_7∧Aside0 (spec_l2Logged.j0 kq l0 y129 (wrap64 (bt (rdOf ByteArray.empty l0 0) 0)) x27_7=some (r1,r2))∧Aside0 (kq≤k)∧Aside0 (Kd.R k75 75 wc w.heap.size (fun _=>True) v130 y129)∧Aside0 (Below w.heap.size w wc))
    case first =>
     have H:=HC8.out;clear HC8
     by_cases c11:((rdOf ByteArray.empty l0 0).size:Int)=1
     ·rw [if_pos c11] at H;obtain ⟨c11b0,c11b1⟩:=eqB c11;clear c11
      (first|rw [c11b0]|(simp only [i64_w,i32_w];rw [c11b0])|skip)
      have H':=mA H;clear H
      have p134:0≤(0:Int):=(by omega)
      have q134:0<(l0.length:Int):=of_decide_eq_true bA;obtain ⟨ad134,e134,hx134_0⟩:=Kd.at_string HR0.out 0 p134 q134
      obtain rfl:ad132=ad134:=(by injection e134)
      have qi134:(0<l0.length)=True:=eq_true (by omega)
      (try rw [show ((0:Int)).toNat=0 from rfl] at hx134_0)
      (try rw [Addr.add_zero'] at hx134_0)
      replace hx134_0:=hC HB hx134_0;replace p134:=eq_true p134;replace q134:=eq_true q134
      go_wp2
      go_meet
      case rel=>exact ⟨_,(decide ((wrap64 (bt (rdOf ByteArray.empty l0 0) 0)) > 250)),bZ,H',⟨by first|omega|exact Nat.le_refl _⟩,⟨pR HO131.out⟩,⟨pB HB.out⟩⟩
     ·rw [if_neg c11] at H;have c11b0:(((rdOf ByteArray.empty l0 0).size:Int) == 1)=false:=beq_eq_false_iff_ne.mpr c11;have c11b1:(((rdOf ByteArray.empty l0 0).size:Int) != 1)=true:=bne_iff_ne.mpr c11
      (first|rw [c11b0]|(simp only [i64_w,i32_w];rw [c11b0])|skip)
      have H':=mA H;clear H
      have p134:0≤(0:Int):=(by omega)
      have q134:0<(l0.length:Int):=of_decide_eq_true bA;obtain ⟨ad134,e134,hx134_0⟩:=Kd.at_string HR0.out 0 p134 q134
      obtain rfl:ad132=ad134:=(by injection e134)
      have qi134:(0<l0.length)=True:=eq_true (by omega)
      (try rw [show ((0:Int)).toNat=0 from rfl] at hx134_0)
      (try rw [Addr.add_zero'] at hx134_0)
      replace hx134_0:=hC HB hx134_0;replace p134:=eq_true p134;replace q134:=eq_true q134
      go_wp2
      go_meet
      case rel=>exact ⟨_,(true),bZ,H',⟨by first|omega|exact Nat.le_refl _⟩,⟨pR HO131.out⟩,⟨pB HB.out⟩⟩
    case rest =>
     clear HC8
     (try clear c2);(try clear c2b0);(try clear c2b1);(try clear c3);(try clear c3b0);(try clear c3b1);(try clear c6);(try clear c6b0);(try clear c6b1);(try clear p7);(try clear q7);(try clear hx7);(try clear qi7);(try clear hx132_0);(try clear hx133_0);(try clear p132);(try clear p133);(try clear p7);(try clear q132);(try clear q133);(try clear q7)
     obtain ⟨kq,x27_7,rfl,HA,HJ7,HO_4,HB⟩:=hcut
     cases kq with
     | zero=>exact absurd HA.out (by simp [spec_l2Logged.j0])
     | succ kj7 =>
      have H:=HA.out;clear HA;simp only [spec_l2Logged.j0] at H
      by_cases c12:x27_7=true
      ·subst c12;rw [if_pos rfl] at H;simp only [Option.some.injEq,Prod.mk.injEq] at H;obtain ⟨rfl,rfl⟩:=H
       go_wp2
       go_ret2
       exact ⟨_,by first|rfl|(simp [errW_none,errW_some]<;>rfl)|(simp [*,errW_none,errW_some]<;>rfl),pR HO_4.out,pB HB.out⟩
      ·replace c12:=Bool.eq_false_iff.mpr c12;subst c12
       rw [if_neg nFT] at H
       have H':=mA H;clear H
       go_wp2
       go_loopg [4,6] kj7 (fun kq v4 v6 w'=>∃ (x4_2:List (S75)) (x6_2:Int),v6=.int .i64 x6_2∧Aside0 (spec_l2Logged.l0 kq l0 x4_2 (wrap64 (bt (rdOf ByteArray.empty l0 0) 0)) x6_2=some (r1,r2))∧Aside0 (kq≤kj7)∧Aside0 (Kd.R k75 75 w' w.heap.size (fun _=>True) v4 x4_2)∧Aside0 (Below w.heap.size w w'))
       case atStart=>exact ⟨(y129),(0),bZ,H',⟨Nat.le_refl _⟩,⟨pR HO_4.out⟩,⟨pB HB.out⟩⟩
       case round =>
        clear H'
        (try clear c2);(try clear c2b0);(try clear c2b1);(try clear c3);(try clear c3b0);(try clear c3b1);(try clear c6);(try clear c6b0);(try clear c6b1);(try clear p7);(try clear q7);(try clear hx7);(try clear qi7);(try clear c12);(try clear hx132_0);(try clear hx133_0);(try clear p132);(try clear p133);(try clear p7);(try clear q132);(try clear q133);(try clear q7)
        obtain ⟨x4_2,x6_2,rfl,HA,HK2,HO_4,HB⟩:=hrel
        cases gk with
        | zero=>exact absurd HA.out (by simp [spec_l2Logged.l0])
        | succ k2 =>
         have H:=HA.out;clear HA;simp only [spec_l2Logged.l0] at H
         by_cases c13:x6_2<(wrap64 (bt (rdOf ByteArray.empty l0 0) 0))
         ·rw [if_pos c13] at H;have c13b0:decide (x6_2<(wrap64 (bt (rdOf ByteArray.empty l0 0) 0)))=true:=decide_eq_true c13;clear c13;obtain ⟨ji14,hji14⟩:∃ j_:Int,(wrap64 (1+x6_2))=j_:=⟨_,rfl⟩
          replace H:(if 0≤(ji14) then (if (ji14)<(l0.length:Int) then (if ((rdOf ByteArray.empty l0 (ji14)).size:Int)=0 then (some (x4_2,false)) else (if 0<((rdOf ByteArray.empty l0 (ji14)).size:Int) then (if (wrap64 (bt (rdOf ByteArray.empty l0 (ji14)) 0)) ≥ 250 then (some (x4_2,false)) else (if 1≤((rdOf ByteArray.empty l0 (ji14)).size:Int) then (if x4_2.length<5864062014805 then (spec_l2Logged.l0 k2 l0 (x4_2 ++ [(⟨wrap64 (bt (rdOf ByteArray.empty l0 (ji14)) 0),(rdOf ByteArray.empty l0 (ji14)).extract 1 (rdOf ByteArray.empty l0 (ji14)).size⟩:S75)]) (wrap64 (bt (rdOf ByteArray.empty l0 0) 0)) (wrap64 (x6_2+1))) else (none)) else (none))) else (none))) else (none)) else (none))=some (r1,r2):=by first|(rw [hji14] at H;exact H)|(simp only [hji14] at H ⊢;exact H)
          have hji14w:(IntKind.i64.wrap (1+x6_2))=ji14:=(i64_w _).trans hji14
          by_cases c15:0≤(ji14)
          ·rw [if_pos c15] at H;have c15b0:decide (0≤(ji14))=true:=decide_eq_true c15;clear c15
           by_cases c16:(ji14)<(l0.length:Int)
           ·rw [if_pos c16] at H;have c16b0:decide ((ji14)<(l0.length:Int))=true:=decide_eq_true c16;clear c16
            by_cases c17:((rdOf ByteArray.empty l0 (ji14)).size:Int)=0
            ·rw [if_pos c17] at H;obtain ⟨c17b0,c17b1⟩:=eqB c17;clear c17;simp only [Option.some.injEq,Prod.mk.injEq] at H;obtain ⟨rfl,rfl⟩:=H;have p135:0≤((ji14):Int):=of_decide_eq_true bA;have q135:(ji14)<(l0.length:Int):=of_decide_eq_true bA;obtain ⟨ad135,e135,hx135_0⟩:=Kd.at_string HR0.out (ji14) p135 q135
             obtain rfl:ad132=ad135:=(by injection e135)
             replace hx135_0:=hC HB hx135_0;replace p135:=eq_true p135;replace q135:=eq_true q135
             go_wp2
             go_ret2
             exact ⟨_,by first|rfl|(simp [errW_none,errW_some]<;>rfl)|(simp only [← hji14];first|rfl|(simp [errW_none,errW_some]<;>rfl))|(simp [*,errW_none,errW_some]<;>rfl),pR HO_4.out,pB HB.out⟩
            ·rw [if_neg c17] at H;have c17b0:(((rdOf ByteArray.empty l0 (ji14)).size:Int) == 0)=false:=beq_eq_false_iff_ne.mpr c17;have c17b1:(((rdOf ByteArray.empty l0 (ji14)).size:Int) != 0)=true:=bne_iff_ne.mpr c17
             by_cases c18:0<((rdOf ByteArray.empty l0 (ji14)).size:Int)
             ·rw [if_pos c18] at H;have c18b0:decide (0<((rdOf ByteArray.empty l0 (ji14)).size:Int))=true:=decide_eq_true c18
              have c18b1:decide (0<(rdOf ByteArray.empty l0 (ji14)).size)=true:=decide_eq_true (by omega)
              clear c18
              by_cases c20:(wrap64 (bt (rdOf ByteArray.empty l0 (ji14)) 0)) ≥ 250
              ·rw [if_pos c20] at H;have c20b0:decide (250≤(wrap64 (bt (rdOf ByteArray.empty l0 (ji14)) 0)))=true:=decide_eq_true c20;clear c20;simp only [Option.some.injEq,Prod.mk.injEq] at H;obtain ⟨rfl,rfl⟩:=H;have p135:0≤((ji14):Int):=of_decide_eq_true bA;have q135:(ji14)<(l0.length:Int):=of_decide_eq_true bA;obtain ⟨ad135,e135,hx135_0⟩:=Kd.at_string HR0.out (ji14) p135 q135
               obtain rfl:ad132=ad135:=(by injection e135)
               replace hx135_0:=hC HB hx135_0;replace p135:=eq_true p135;replace q135:=eq_true q135
               have p19:0≤(0:Int):=(by omega)
               have q19:0<(rdOf ByteArray.empty l0 (ji14)).size:=(by have:(0:Int)<((rdOf ByteArray.empty l0 (ji14)).size:Int):=of_decide_eq_true bA;omega)
               have hx19:∀ h:0<(rdOf ByteArray.empty l0 (ji14)).size,(((rdOf ByteArray.empty l0 (ji14))[0]'h).toNat:Int)=bt (rdOf ByteArray.empty l0 (ji14)) 0:=bt_at (rdOf ByteArray.empty l0 (ji14)) 0;clear p19;have qi19:(0<((rdOf ByteArray.empty l0 (ji14)).size:Int))=True:=eq_true (of_decide_eq_true bA);replace q19:=eq_true q19
               go_wp2
               go_ret2
               exact ⟨_,by first|rfl|(simp [errW_none,errW_some]<;>rfl)|(simp only [← hji14];first|rfl|(simp [errW_none,errW_some]<;>rfl))|(simp [*,errW_none,errW_some]<;>rfl),pR HO_4.out,pB HB.out⟩
              ·rw [if_neg c20] at H;have c20b0:decide (250≤(wrap64 (bt (rdOf ByteArray.empty l0 (ji14)) 0)))=false:=decide_eq_false c20;clear c20
               by_cases c22:1≤((rdOf ByteArray.empty l0 (ji14)).size:Int)
               ·rw [if_pos c22] at H;have c22b0:=eq_true c22;have c22b1:decide (1≤((rdOf ByteArray.empty l0 (ji14)).size:Int))=true:=decide_eq_true c22;clear c22
                by_cases c23:x4_2.length<5864062014805
                ·rw [if_pos c23] at H;have LMc23:=mA c23;clear c23;obtain ⟨y136,hy136⟩:∃ y_:List (S75),y_=(x4_2 ++ [(⟨wrap64 (bt (rdOf ByteArray.empty l0 (ji14)) 0),(rdOf ByteArray.empty l0 (ji14)).extract 1 (rdOf ByteArray.empty l0 (ji14)).size⟩:S75)]):=⟨_,rfl⟩
                 replace H:(spec_l2Logged.l0 k2 l0 y136 (wrap64 (bt (rdOf ByteArray.empty l0 0) 0)) (wrap64 (x6_2+1)))=some (r1,r2):=qH hy136 H
                 have Ny136:=mA hy136;clear hy136;have H':=mA H;clear H;have p135:0≤((ji14):Int):=of_decide_eq_true bA;have q135:(ji14)<(l0.length:Int):=of_decide_eq_true bA;obtain ⟨ad135,e135,hx135_0⟩:=Kd.at_string HR0.out (ji14) p135 q135
                 obtain rfl:ad132=ad135:=(by injection e135)
                 replace hx135_0:=hC HB hx135_0;replace p135:=eq_true p135;replace q135:=eq_true q135
                 have p19:0≤(0:Int):=(by omega)
                 have q19:0<(rdOf ByteArray.empty l0 (ji14)).size:=(by have:(0:Int)<((rdOf ByteArray.empty l0 (ji14)).size:Int):=of_decide_eq_true bA;omega)
                 have hx19:∀ h:0<(rdOf ByteArray.empty l0 (ji14)).size,(((rdOf ByteArray.empty l0 (ji14))[0]'h).toNat:Int)=bt (rdOf ByteArray.empty l0 (ji14)) 0:=bt_at (rdOf ByteArray.empty l0 (ji14)) 0;clear p19;have qi19:(0<((rdOf ByteArray.empty l0 (ji14)).size:Int))=True:=eq_true (of_decide_eq_true bA);replace q19:=eq_true q19
                 try go_wp2
                 replace HO_4:=rD HO_4;replace HB:=mA (below_drew1 HB.out)
                 have p21:0≤(0:Int):=(by omega)
                 have q21:0<(rdOf ByteArray.empty l0 (ji14)).size:=(by have:(0:Int)<((rdOf ByteArray.empty l0 (ji14)).size:Int):=of_decide_eq_true bA;omega)
                 have hx21:∀ h:0<(rdOf ByteArray.empty l0 (ji14)).size,(((rdOf ByteArray.empty l0 (ji14))[0]'h).toNat:Int)=bt (rdOf ByteArray.empty l0 (ji14)) 0:=bt_at (rdOf ByteArray.empty l0 (ji14)) 0;clear p21;have qi21:(0<((rdOf ByteArray.empty l0 (ji14)).size:Int))=True:=eq_true (of_decide_eq_true bA);replace q21:=eq_true q21
                 refine start_ (n:=10) (S:=fun w'=>True) (ds:=[]) _ aK rfl rfl trivial (fun hHeld=>?_);refine with_tabW spec_l2Logged.tab13 spec_l2Logged.bits13 (fun HT_ HW_=>?_)
                 generalize wr.drew=w24 at HO_4 HB hHeld ⊢
                 refine pu_ 0 (some 49) (aT HT_) ?_
                 refine pu_ 1 (some 50) (aT HT_) ?_
                 refine pu_ 4 (some 53) (aT HT_) ?_
                 refine pu_ 5 (some 54) (aT HT_) ?_
                 refine take_ (i:=2) (N:=some 51) (v:=?_) (a':=?_) #[true,true,true,false,true,true,false,false,false,false] rfl rfl (tT HT_ HW_) (fun _ _ _ h=>h) (Or.inl ⟨by rfl,?_⟩) hHeld ?_ ?_
                 rotate_left
                 ·intro w' _;go_simp;with_reducible rfl
                 rotate_left
                 ·simp only [Act.put,List.setIfInBounds_toArray,List.set_cons_zero,List.set_cons_succ,i64_w,i32_w];rfl
                 refine pu_ 3 (some 52) (aT HT_) ?_
                 refine pu_ 6 (some 55) (aT HT_) ?_
                 refine on_ 7 (some 56) (oT HT_) ?_;intro K hK
                 refine value_ (w1:=?_) (v:=?_) (by rfl) rfl ?_ ?_
                 rotate_left 2
                 ·go_simp
                  constructor
                  ·rfl
                  ·rfl
                 refine hK.out _ _ trivial (fun hHeld=>?_);clear hK K;refine no_ (some 56) ?_
                 refine on_ 8 (some 57) (oT HT_) ?_;intro K hK
                 refine Kd.R_append_step k75 (w0:=w) w.heap.size (by rfl) (.tmp 49) (.tmp 56) 29 75 (.agg #[(.int .i64 0),(.string ⟨#[]⟩)]) 24 rfl Try.underlying29 info75 rfl aD (by omega) u4 x4_2 (⟨wrap64 (bt (rdOf ByteArray.empty l0 (ji14)) 0),(rdOf ByteArray.empty l0 (ji14)).extract 1 (rdOf ByteArray.empty l0 (ji14)).size⟩:S75) [.int .i64 (wrap64 (bt (rdOf ByteArray.empty l0 (ji14)) 0)),.string ((rdOf ByteArray.empty l0 (ji14)).extract 1 (rdOf ByteArray.empty l0 (ji14)).size)] (fun _=>True) (fun _=>False) rfl rfl ?aP (fun _ hk=>hk.elim) ?aF ?aO ?aB ?aS ?aL ?_
                 (case aP=>exact k75_mkM _ _ _ (⟨wrap64 (bt (rdOf ByteArray.empty l0 (ji14)) 0),(rdOf ByteArray.empty l0 (ji14)).extract 1 (rdOf ByteArray.empty l0 (ji14)).size⟩:S75))
                 (case aB=>exact (pB HB.out))
                 (case aF=>exact (fun _ _=>trivial))
                 (case aO=>exact (pR HO_4.out))
                 (case aS=>exact (bpB HB))
                 (case aL=>have:=LMc23.out;omega)
                 intro v137 w25 ho hb hg hat;rw [← Ny136.out] at ho;have HO138:=mA ho;replace HB:=mA hb;clear HO_4;clear ho hb hg hat;refine hK.out _ _ trivial (fun hHeld=>?_);clear hK K;refine no_ (some 57) ?_
                 refine pu_ 9 (some 4) (aT HT_) ?_
                 refine done_ (done_of HT_.out aK) ?_
                 try go_wp2
                 go_roundg k2
                 case measure=>have:=HJ7.out;have:=HK2.out;omega
                 case rel=>exact ⟨(y136),(wrap64 (x6_2+1)),bZ,H',⟨by have:=HJ7.out;have:=HK2.out;omega⟩,⟨pR HO138.out⟩,⟨pB HB.out⟩⟩
                ·rw [if_neg c23] at H
                 exact absurd H (by simp)
               ·rw [if_neg c22] at H
                exact absurd H (by simp)
             ·rw [if_neg c18] at H
              exact absurd H (by simp)
           ·rw [if_neg c16] at H
            exact absurd H (by simp)
          ·rw [if_neg c15] at H
           exact absurd H (by simp)
         ·rw [if_neg c13] at H;have c13b0:decide (x6_2<(wrap64 (bt (rdOf ByteArray.empty l0 0) 0)))=false:=decide_eq_false c13;clear c13;simp only [Option.some.injEq,Prod.mk.injEq] at H;obtain ⟨rfl,rfl⟩:=H
          go_wp2
          go_ret2
          exact ⟨_,by first|rfl|(simp [errW_none,errW_some]<;>rfl)|(simp [*,errW_none,errW_some]<;>rfl),pR HO_4.out,pB HB.out⟩
   ·rw [if_neg c6] at H
    exact absurd H (by simp)
 ·rw [if_neg c2] at H
  exact absurd H (by simp)

/-! ### spec_l2Home: function 47 -/
def spec_l2Home.f (a0 : Int) : Option (Int) := some (wrap64 (251 + a0))
set_option maxHeartbeats 8000000 in
set_option maxRecDepth 100000 in
theorem spec_l2Home.calls (a0 : Int) (r : Int) (w : World) (h : spec_l2Home.f a0 = some r) :
  Calls Try.prog 47 #[.int .i64 a0] w fun e w'=>e=.returned (.int .i64 r)∧Drawn0 w w':=by
 have H:(some (wrap64 (251+a0)))=some r:=h;clear h;obtain rfl:=Option.some.inj H
 go_enter Try.func47,Try.ntmps47
 go_wp2
 go_ret
 exact ⟨by first|rfl|(simp;done)|(simp [*];done),by repeat (first|exact Drawn0.refl _|apply Drawn0.step)⟩

section
attribute [local go_sem] Go.Instr.field Go.asAgg
/-! ### impl_walLog: function 49 -/
mutual
def impl_walLog.j0 : Nat → Bool → List ByteArray → List (S75) → Option ((List (S81)) × Bool)
 | 0,_,_,_=>none
 | k+1,x16,x211000,x211001=>if x16=true then (some (([]:List (S81)),false)) else ((impl_SecFlush.f k x211000 x211001).bind fun bt212=>(if 0<(bt212.1.length:Int) then (if (rdOf ByteArray.empty bt212.1 0).toList=([]:List UInt8) then (some (([]:List (S81)),true)) else (if ((rdOf ByteArray.empty bt212.1 0).size:Int)=1 then (if 0<((rdOf ByteArray.empty bt212.1 0).size:Int) then (impl_walLog.j1 k bt212.1 (decide ((wrap64 (bt (rdOf ByteArray.empty bt212.1 0) 0)) > 250))) else (none)) else (impl_walLog.j1 k bt212.1 true))) else (none)))
def impl_walLog.j1 : Nat → List ByteArray → Bool → Option ((List (S81)) × Bool)
 | 0,_,_=>none
 | k+1,x4,x36=>if x36=true then (some (([]:List (S81)),false)) else (if 0<(x4.length:Int) then (if 0<((rdOf ByteArray.empty x4 0).size:Int) then (if 1≤(wrap64 (1+(wrap64 (bt (rdOf ByteArray.empty x4 0) 0)))) then (if (wrap64 (1+(wrap64 (bt (rdOf ByteArray.empty x4 0) 0))))≤(x4.length:Int) then ((some ((x4.take ((wrap64 (1+(wrap64 (bt (rdOf ByteArray.empty x4 0) 0)))):Int).toNat).drop 1:List ByteArray)).bind fun y222=>(impl_walLog.l0 k ([]:List (S81)) y222 (y222.length:Int) 0)) else (none)) else (none)) else (none)) else (none))
def impl_walLog.l0 : Nat → List (S81) → List ByteArray → Int → Int → Option ((List (S81)) × Bool)
 | 0,_,_,_,_=>none
 | k+1,x5,x44,x45,x46=>if x46<x45 then (if 0≤x46 then (if x46<(x44.length:Int) then (if (rdOf ByteArray.empty x44 x46).toList=([]:List UInt8) then (some (([]:List (S81)),false)) else (if 0<((rdOf ByteArray.empty x44 x46).size:Int) then (if (wrap64 (bt (rdOf ByteArray.empty x44 x46) 0)) ≥ 250 then (some (([]:List (S81)),false)) else (if 1≤((rdOf ByteArray.empty x44 x46).size:Int) then (if x5.length<5864062014805 then (impl_walLog.l0 k (x5 ++ [(⟨wrap64 (bt (rdOf ByteArray.empty x44 x46) 0),(rdOf ByteArray.empty x44 x46).extract 1 (rdOf ByteArray.empty x44 x46).size⟩:S81)]) x44 x45 (wrap64 (x46+1))) else (none)) else (none))) else (none))) else (none)) else (none)) else (some (x5,true))
end
def impl_walLog.f (k : Nat) (l0_0 : List ByteArray) (l0_1 : List (S75)) : Option ((List (S81)) × Bool) := (impl_SecOk.f k l0_0 l0_1).bind fun t211 => (if t211 = true then (impl_walLog.j0 k ((l0_0.length : Int) != 501) l0_0 l0_1) else (impl_walLog.j0 k true l0_0 l0_1))
theorem impl_walLog.mono_l : ∀ k, (∀ y0 y1 y2, LeO (impl_walLog.j0 k y0 y1 y2) (impl_walLog.j0 (k + 1) y0 y1 y2)) ∧ (∀ y0 y1, LeO (impl_walLog.j1 k y0 y1) (impl_walLog.j1 (k + 1) y0 y1)) ∧ (∀ y0 y1 y2 y3, LeO (impl_walLog.l0 k y0 y1 y2 y3) (impl_walLog.l0 (k + 1) y0 y1 y2 y3))
 | 0=>⟨fun _ _ _ r h=>by simp [impl_walLog.j0] at h,fun _ _ r h=>by simp [impl_walLog.j1] at h,fun _ _ _ _ r h=>by simp [impl_walLog.l0] at h⟩
 | k+1=>by
  obtain ⟨ih0,ih1,ih2⟩:=impl_walLog.mono_l k;refine ⟨?_,?_,?_⟩
  ·intro y0 y1 y2
   unfold impl_walLog.j0
   repeat' first
   | (with_reducible first|exact ih0 _ _ _|exact ih1 _ _|exact ih2 _ _ _ _|exact impl_SecFlush.mono _ _ _|exact impl_SecOk.mono _ _ _|exact LeO.refl _|exact LeO.none _|refine LeO.ite ?_ ?_|refine LeO.bind ?_ (fun _=>?_))|exact ih0 _ _ _|exact ih1 _ _|exact ih2 _ _ _ _|exact impl_SecFlush.mono _ _ _|exact impl_SecOk.mono _ _ _|exact LeO.none _|refine LeO.ite ?_ ?_|refine LeO.bind ?_ (fun _=>?_)
  ·intro y0 y1
   unfold impl_walLog.j1
   repeat' first
   | (with_reducible first|exact ih0 _ _ _|exact ih1 _ _|exact ih2 _ _ _ _|exact impl_SecFlush.mono _ _ _|exact impl_SecOk.mono _ _ _|exact LeO.refl _|exact LeO.none _|refine LeO.ite ?_ ?_|refine LeO.bind ?_ (fun _=>?_))|exact ih0 _ _ _|exact ih1 _ _|exact ih2 _ _ _ _|exact impl_SecFlush.mono _ _ _|exact impl_SecOk.mono _ _ _|exact LeO.none _|refine LeO.ite ?_ ?_|refine LeO.bind ?_ (fun _=>?_)
  ·intro y0 y1 y2 y3
   unfold impl_walLog.l0
   repeat' first
   | (with_reducible first|exact ih0 _ _ _|exact ih1 _ _|exact ih2 _ _ _ _|exact impl_SecFlush.mono _ _ _|exact impl_SecOk.mono _ _ _|exact LeO.refl _|exact LeO.none _|refine LeO.ite ?_ ?_|refine LeO.bind ?_ (fun _=>?_))|exact ih0 _ _ _|exact ih1 _ _|exact ih2 _ _ _ _|exact impl_SecFlush.mono _ _ _|exact impl_SecOk.mono _ _ _|exact LeO.none _|refine LeO.ite ?_ ?_|refine LeO.bind ?_ (fun _=>?_)
theorem impl_walLog.mono : ∀ a0 a1 k, LeO (impl_walLog.f k a0 a1) (impl_walLog.f (k + 1) a0 a1) := by
 intro a0 a1 k;obtain ⟨ih0,ih1,ih2⟩:=impl_walLog.mono_l k
 unfold impl_walLog.f
 repeat' first
   | (with_reducible first|exact ih0 _ _ _|exact ih1 _ _|exact ih2 _ _ _ _|exact impl_SecFlush.mono _ _ _|exact impl_SecOk.mono _ _ _|exact LeO.refl _|exact LeO.none _|refine LeO.ite ?_ ?_|refine LeO.bind ?_ (fun _=>?_))|exact ih0 _ _ _|exact ih1 _ _|exact ih2 _ _ _ _|exact impl_SecFlush.mono _ _ _|exact impl_SecOk.mono _ _ _|exact LeO.none _|refine LeO.ite ?_ ?_|refine LeO.bind ?_ (fun _=>?_)
def impl_walLog.T14 : Bool × List (List Nat × List Nat) := (true, [([], []), ([], []), ([1], [1]), ([2], [2]), ([], []), ([4], [4]), ([3, 5], [3, 5]), ([6], [6]), ([0, 7], [0, 7]), ([8, 8, 0, 1, 2, 3, 4, 5, 6, 7, 8], [0, 8])])
def impl_walLog.B14 : List Nat := [0, 0, 2, 6, 0, 16, 62, 126, 255, 511]
theorem impl_walLog.tab14 : rtab .any (opsOf Try.f49 14) = impl_walLog.T14 := by kernel_rfl
theorem impl_walLog.bits14 : waitsOk impl_walLog.T14.2 impl_walLog.B14 = true := by kernel_rfl
set_option maxHeartbeats 8000000 in
set_option maxRecDepth 100000 in
theorem impl_walLog.calls (k : Nat) (A0_0 : Option Addr) (c0_0 : Nat) (l0_0 : List ByteArray) (A0_1 : Option Addr) (c0_1 : Nat) (l0_1 : List (S75)) (r1 : List (S81)) (r2 : Bool) (w : World) (hr0_0 : Kd.C Kd.string w A0_0 l0_0.length l0_0) (hc0_0 : l0_0.length ≤ c0_0) (hr0_1 : Kd.C k75 w A0_1 l0_1.length l0_1) (hc0_1 : l0_1.length ≤ c0_1) (h : impl_walLog.f k l0_0 l0_1 = some (r1, r2)) :
  Calls Try.prog 49 #[.agg #[.slice A0_0 l0_0.length c0_0,.slice A0_1 l0_1.length c0_1]] w fun e w'=>∃ v0_:Value,e=.returned (.tuple #[v0_,.bool r2])∧Kd.R k81 81 w' w.heap.size (fun _=>True) v0_ r1∧Below w.heap.size w w':=by
 have hu31:=Try.underlying31;have hu81:=Try.underlying81;have HR0_0:=mA hr0_0;have HC0_0:=mA hc0_0;clear hr0_0 hc0_0;have HR0_1:=mA hr0_1;have HC0_1:=mA hc0_1;clear hr0_1 hc0_1;have HB:=mA (Below.refl w.heap.size w);have H:((impl_SecOk.f k l0_0 l0_1).bind fun t211=>(if t211=true then (impl_walLog.j0 k ((l0_0.length:Int) != 501) l0_0 l0_1) else (impl_walLog.j0 k true l0_0 l0_1)))=some (r1,r2):=h;clear h;have HC2:=mA H;clear H
 go_enter Try.func49,Try.ntmps49
 go_upto_region 1 with (first|((with_reducible refine gate_dst (N:=1) rfl ?_);(try (refine gate_guard (by rfl) ?_;dsimp only));refine bE 1 #[.slice A0_0 l0_0.length c0_0,.slice A0_1 l0_1.length c0_1] 31 ?_;intro gb210 hg w3 hbox hb;have BK210:=mA hbox;have GW210:=gbpB HB hg;have GE210:=gbpB HB hg;replace HB:=spB HB hb;clear hb hbox hg))
 (try simp only [Act.put,List.setIfInBounds_toArray,List.set_cons_zero,List.set_cons_succ])
 go_cut [16] (fun v16 wc=>∃ (kq:Nat) (x16_1:Bool),v16=.bool x16_1∧Aside0 (impl_walLog.j0 kq x16_1 l0_0 l0_1=some (r1,r2))∧Aside0 (kq≤k)∧Aside0 (wc.heap[gb210]?=some (.cells #[(.slice A0_0 l0_0.length c0_0),(.slice A0_1 l0_1.length c0_1)] 31 (0,0)))∧Aside0 (Below w.heap.size w wc))
 case first =>
  have H:=HC2.out;clear HC2;obtain ⟨t211,A4,H⟩:=bI H;(try dsimp only at H)
  by_cases c5:t211=true
  ·subst c5;rw [if_pos rfl] at H;have H':=mA H;clear H;obtain ⟨hcz6_0,hcz6_1,hfz6_0,hfz6_1⟩:=box2 BK210.out
   go_wp2_with (first|(refine gL (some 9) Try.func63 #[.agg #[.slice A0_0 l0_0.length c0_0,.slice A0_1 l0_1.length c0_1]] ?_;(with_reducible refine (impl_SecOk.calls k _ _ l0_0 _ _ l0_1 true _ ?s1 ?s2 ?s3 ?s4 A4.out).mono ?_);(case s1=>exact cB HR0_0 HB);(case s2=>exact HC0_0.out);(case s3=>exact cB HR0_1 HB);(case s4=>exact HC0_1.out);rintro e w7 ⟨rfl,hb⟩;refine ⟨_,rfl,?_⟩;replace BK210:=bK BK210 hb;replace HB:=spS HB hb;(try clear hb);obtain ⟨hcz8_0,hcz8_1,hfz8_0,hfz8_1⟩:=box2 BK210.out))
   go_meet
   case rel=>exact ⟨_,(((l0_0.length:Int) != 501)),bZ,H',⟨by first|omega|exact Nat.le_refl _⟩,⟨pK BK210.out⟩,⟨pS HB.out⟩⟩
  ·replace c5:=Bool.eq_false_iff.mpr c5;subst c5
   rw [if_neg nFT] at H
   have H':=mA H;clear H;obtain ⟨hcz9_0,hcz9_1,hfz9_0,hfz9_1⟩:=box2 BK210.out
   go_wp2_with (first|(refine gL (some 9) Try.func63 #[.agg #[.slice A0_0 l0_0.length c0_0,.slice A0_1 l0_1.length c0_1]] ?_;(with_reducible refine (impl_SecOk.calls k _ _ l0_0 _ _ l0_1 false _ ?s1 ?s2 ?s3 ?s4 A4.out).mono ?_);(case s1=>exact cB HR0_0 HB);(case s2=>exact HC0_0.out);(case s3=>exact cB HR0_1 HB);(case s4=>exact HC0_1.out);rintro e w10 ⟨rfl,hb⟩;refine ⟨_,rfl,?_⟩;replace BK210:=bK BK210 hb;replace HB:=spS HB hb;(try clear hb)))
   go_meet
   case rel=>exact ⟨_,(true),bZ,H',⟨by first|omega|exact Nat.le_refl _⟩,⟨pK BK210.out⟩,⟨pS HB.out⟩⟩
 case rest =>
  clear HC2
  obtain ⟨kq,x16_1,rfl,HA,HJ1,BK210,HB⟩:=hcut
  cases kq with
  | zero=>exact absurd HA.out (by simp [impl_walLog.j0])
  | succ kj1 =>
   have H:=HA.out;clear HA;simp only [impl_walLog.j0] at H
   by_cases c11:x16_1=true
   ·subst c11;rw [if_pos rfl] at H;simp only [Option.some.injEq,Prod.mk.injEq] at H;obtain ⟨rfl,rfl⟩:=H
    go_wp2
    go_ret2
    exact ⟨_,by first|rfl|(simp [errW_none,errW_some]<;>rfl)|(simp [*,errW_none,errW_some]<;>rfl),aN,pS HB.out⟩
   ·replace c11:=Bool.eq_false_iff.mpr c11;subst c11
    rw [if_neg nFT] at H
    obtain ⟨⟨t212,t215⟩,A12,H⟩:=bI H;(try dsimp only at H)
    by_cases c13:0<(t212.length:Int)
    ·rw [if_pos c13] at H;have c13b0:decide (0<(t212.length:Int))=true:=decide_eq_true c13
     have c13b1:decide (0<t212.length)=true:=decide_eq_true (by omega)
     clear c13
     by_cases c14:(rdOf ByteArray.empty t212 0).toList=([]:List UInt8)
     ·rw [if_pos c14] at H;obtain ⟨c14b0,c14b1⟩:=eqB c14;clear c14;simp only [Option.some.injEq,Prod.mk.injEq] at H;obtain ⟨rfl,rfl⟩:=H;obtain ⟨hcz15_0,hcz15_1,hfz15_0,hfz15_1⟩:=box2 BK210.out
      go_wp2_with (first|(refine gL (some 18) Try.func51 #[.agg #[.slice A0_0 l0_0.length c0_0,.slice A0_1 l0_1.length c0_1]] ?_;(with_reducible refine (impl_SecFlush.calls kj1 _ _ l0_0 _ _ l0_1 t212 t215 _ ?s1 ?s2 ?s3 ?s4 A12.out).mono ?_);(case s1=>exact cB HR0_0 HB);(case s2=>exact HC0_0.out);(case s3=>exact cB HR0_1 HB);(case s4=>exact HC0_1.out);rintro e w16 ⟨v213,v216,rfl,ho0,ho1,hb⟩;refine ⟨_,rfl,?_⟩;have HO214:=mA (Kd.R_lower ho0 (bpS HB));have HO217:=mA (Kd.R_lower ho1 (bpS HB));replace BK210:=bK BK210 hb;replace HB:=spS HB hb;(try clear hb);(try clear ho0);(try clear ho1);obtain ⟨Ao17,co17,rfl⟩:=Kd.R_slice HO214.out;have p218:0≤(0:Int):=(by omega);have q218:0<(t212.length:Int):=of_decide_eq_true bA;obtain ⟨ad218,e218,hx218_0⟩:=Kd.at_string (Kd.R_reads' HO214.out).2.2 0 p218 q218;cases e218;have qi218:(0<t212.length)=True:=eq_true (by omega);(try rw [show ((0:Int)).toNat=0 from rfl] at hx218_0);(try rw [Addr.add_zero'] at hx218_0);replace p218:=eq_true p218;replace q218:=eq_true q218))
      go_ret2
      exact ⟨_,by first|rfl|(simp [errW_none,errW_some]<;>rfl)|(simp [*,errW_none,errW_some]<;>rfl),aN,pS HB.out⟩
     ·rw [if_neg c14] at H;have c14b0:((rdOf ByteArray.empty t212 0).toList == ([]:List UInt8))=false:=beq_eq_false_iff_ne.mpr c14;have c14b1:((rdOf ByteArray.empty t212 0).toList != ([]:List UInt8))=true:=bne_iff_ne.mpr c14;have HC18:=mA H;clear H;obtain ⟨hcz19_0,hcz19_1,hfz19_0,hfz19_1⟩:=box2 BK210.out
      go_upto_region 6 with (first|(refine gL (some 18) Try.func51 #[.agg #[.slice A0_0 l0_0.length c0_0,.slice A0_1 l0_1.length c0_1]] ?_;(with_reducible refine (impl_SecFlush.calls kj1 _ _ l0_0 _ _ l0_1 t212 t215 _ ?s1 ?s2 ?s3 ?s4 A12.out).mono ?_);(case s1=>exact cB HR0_0 HB);(case s2=>exact HC0_0.out);(case s3=>exact cB HR0_1 HB);(case s4=>exact HC0_1.out);rintro e w20 ⟨v213,v216,rfl,ho0,ho1,hb⟩;refine ⟨_,rfl,?_⟩;have HO214:=mA (Kd.R_lower ho0 (bpS HB));have HO217:=mA (Kd.R_lower ho1 (bpS HB));replace BK210:=bK BK210 hb;replace HB:=spS HB hb;(try clear hb);(try clear ho0);(try clear ho1);obtain ⟨Ao21,co21,rfl⟩:=Kd.R_slice HO214.out;have p218:0≤(0:Int):=(by omega);have q218:0<(t212.length:Int):=of_decide_eq_true bA;obtain ⟨ad218,e218,hx218_0⟩:=Kd.at_string (Kd.R_reads' HO214.out).2.2 0 p218 q218;cases e218;have qi218:(0<t212.length)=True:=eq_true (by omega);(try rw [show ((0:Int)).toNat=0 from rfl] at hx218_0);(try rw [Addr.add_zero'] at hx218_0);replace p218:=eq_true p218;replace q218:=eq_true q218))
      (try simp only [Act.put,List.setIfInBounds_toArray,List.set_cons_zero,List.set_cons_succ])
      go_cut [36] (fun v36 wc=>∃ (kq:Nat) (x36_17:Bool),v36=.bool x36_17∧Aside0 (impl_walLog.j1 kq t212 x36_17=some (r1,r2))∧Aside0 (kq≤kj1)∧Aside0 (Kd.R Kd.string 9 wc w.heap.size (fun _=>True) (.slice (some ad218) t212.length co21) t212)∧Aside0 (wc.heap[gb210]?=some (.cells #[(.slice A0_0 l0_0.length c0_0),(.slice A0_1 l0_1.length c0_1)] 31 (0,0)))∧Aside0 (Below w.heap.size w wc))
      case first =>
       have H:=HC18.out;clear HC18
       by_cases c22:((rdOf ByteArray.empty t212 0).size:Int)=1
       ·rw [if_pos c22] at H;obtain ⟨c22b0,c22b1⟩:=eqB c22;clear c22
        (first|rw [c22b0]|(simp only [i64_w,i32_w];rw [c22b0])|skip)
        by_cases c23:0<((rdOf ByteArray.empty t212 0).size:Int)
        ·rw [if_pos c23] at H;have c23b0:decide (0<((rdOf ByteArray.empty t212 0).size:Int))=true:=decide_eq_true c23
         have c23b1:decide (0<(rdOf ByteArray.empty t212 0).size)=true:=decide_eq_true (by omega)
         clear c23;have H':=mA H;clear H
         have p219:0≤(0:Int):=(by omega)
         have q219:0<(t212.length:Int):=of_decide_eq_true bA;obtain ⟨ad219,e219,hx219_0⟩:=Kd.at_string (Kd.R_reads' HO214.out).2.2 0 p219 q219
         obtain rfl:ad218=ad219:=(by injection e219)
         have qi219:(0<t212.length)=True:=eq_true (by omega)
         (try rw [show ((0:Int)).toNat=0 from rfl] at hx219_0)
         (try rw [Addr.add_zero'] at hx219_0)
         replace p219:=eq_true p219;replace q219:=eq_true q219
         have p220:0≤(0:Int):=(by omega)
         have q220:0<(t212.length:Int):=of_decide_eq_true bA;obtain ⟨ad220,e220,hx220_0⟩:=Kd.at_string (Kd.R_reads' HO214.out).2.2 0 p220 q220
         obtain rfl:ad218=ad220:=(by injection e220)
         have qi220:(0<t212.length)=True:=eq_true (by omega)
         (try rw [show ((0:Int)).toNat=0 from rfl] at hx220_0)
         (try rw [Addr.add_zero'] at hx220_0)
         replace p220:=eq_true p220;replace q220:=eq_true q220
         have p24:0≤(0:Int):=(by omega)
         have q24:0<(rdOf ByteArray.empty t212 0).size:=(by have:(0:Int)<((rdOf ByteArray.empty t212 0).size:Int):=of_decide_eq_true bA;omega)
         have hx24:∀ h:0<(rdOf ByteArray.empty t212 0).size,(((rdOf ByteArray.empty t212 0)[0]'h).toNat:Int)=bt (rdOf ByteArray.empty t212 0) 0:=bt_at (rdOf ByteArray.empty t212 0) 0;clear p24;have qi24:(0<((rdOf ByteArray.empty t212 0).size:Int))=True:=eq_true (of_decide_eq_true bA);replace q24:=eq_true q24
         go_wp2
         go_meet
         case rel=>exact ⟨_,(decide ((wrap64 (bt (rdOf ByteArray.empty t212 0) 0)) > 250)),bZ,H',⟨by have:=HJ1.out;first|omega|exact Nat.le_refl _⟩,⟨pR HO214.out⟩,⟨pK BK210.out⟩,⟨pS HB.out⟩⟩
        ·rw [if_neg c23] at H
         exact absurd H (by simp)
       ·rw [if_neg c22] at H;have c22b0:(((rdOf ByteArray.empty t212 0).size:Int) == 1)=false:=beq_eq_false_iff_ne.mpr c22;have c22b1:(((rdOf ByteArray.empty t212 0).size:Int) != 1)=true:=bne_iff_ne.mpr c22
        (first|rw [c22b0]|(simp only [i64_w,i32_w];rw [c22b0])|skip)
        have H':=mA H;clear H
        have p219:0≤(0:Int):=(by omega)
        have q219:0<(t212.length:Int):=of_decide_eq_true bA;obtain ⟨ad219,e219,hx219_0⟩:=Kd.at_string (Kd.R_reads' HO214.out).2.2 0 p219 q219
        obtain rfl:ad218=ad219:=(by injection e219)
        have qi219:(0<t212.length)=True:=eq_true (by omega)
        (try rw [show ((0:Int)).toNat=0 from rfl] at hx219_0)
        (try rw [Addr.add_zero'] at hx219_0)
        replace p219:=eq_true p219;replace q219:=eq_true q219
        go_wp2
        go_meet
        case rel=>exact ⟨_,(true),bZ,H',⟨by have:=HJ1.out;first|omega|exact Nat.le_refl _⟩,⟨pR HO214.out⟩,⟨pK BK210.out⟩,⟨pS HB.out⟩⟩
      case rest =>
       clear HC18
       (try clear c11);(try clear c13);(try clear c13b0);(try clear c13b1);(try clear c14);(try clear c14b0);(try clear c14b1);(try clear hcz15_0);(try clear hcz15_1);(try clear hcz19_0);(try clear hcz19_1);(try clear hfz15_0);(try clear hfz15_1);(try clear hfz19_0);(try clear hfz19_1);(try clear hx218_0);(try clear p218);(try clear q218)
       obtain ⟨kq,x36_17,rfl,HA,HJ17,HO_4,BK210,HB⟩:=hcut
       cases kq with
       | zero=>exact absurd HA.out (by simp [impl_walLog.j1])
       | succ kj17 =>
        have H:=HA.out;clear HA;simp only [impl_walLog.j1] at H
        by_cases c25:x36_17=true
        ·subst c25;rw [if_pos rfl] at H;simp only [Option.some.injEq,Prod.mk.injEq] at H;obtain ⟨rfl,rfl⟩:=H
         go_wp2
         go_ret2
         exact ⟨_,by first|rfl|(simp [errW_none,errW_some]<;>rfl)|(simp [*,errW_none,errW_some]<;>rfl),aN,pS HB.out⟩
        ·replace c25:=Bool.eq_false_iff.mpr c25;subst c25
         rw [if_neg nFT] at H
         by_cases c26:0<(t212.length:Int)
         ·rw [if_pos c26] at H;have c26b0:decide (0<(t212.length:Int))=true:=decide_eq_true c26
          have c26b1:decide (0<t212.length)=true:=decide_eq_true (by omega)
          clear c26
          by_cases c27:0<((rdOf ByteArray.empty t212 0).size:Int)
          ·rw [if_pos c27] at H;have c27b0:decide (0<((rdOf ByteArray.empty t212 0).size:Int))=true:=decide_eq_true c27
           have c27b1:decide (0<(rdOf ByteArray.empty t212 0).size)=true:=decide_eq_true (by omega)
           clear c27
           by_cases c29:1≤(wrap64 (1+(wrap64 (bt (rdOf ByteArray.empty t212 0) 0))))
           ·rw [if_pos c29] at H;have c29b0:=eq_true c29;have c29b1:decide (1≤(wrap64 (1+(wrap64 (bt (rdOf ByteArray.empty t212 0) 0)))))=true:=decide_eq_true c29
            by_cases c30:(wrap64 (1+(wrap64 (bt (rdOf ByteArray.empty t212 0) 0))))≤(t212.length:Int)
            ·rw [if_pos c30] at H;have c30b0:=eq_true c30;have c30b1:decide ((wrap64 (1+(wrap64 (bt (rdOf ByteArray.empty t212 0) 0))))≤(t212.length:Int))=true:=decide_eq_true c30;obtain ⟨y222,hy222⟩:∃ y_:List ByteArray,y_=((t212.take ((wrap64 (1+(wrap64 (bt (rdOf ByteArray.empty t212 0) 0)))):Int).toNat).drop 1):=⟨_,rfl⟩
             replace H:(impl_walLog.l0 kj17 ([]:List (S81)) y222 (y222.length:Int) 0)=some (r1,r2):=qH hy222 H
             have Ny222:=mA hy222;clear hy222;have H':=mA H;clear H
             have p221:0≤(0:Int):=(by omega)
             have q221:0<(t212.length:Int):=of_decide_eq_true bA;obtain ⟨ad221,e221,hx221_0⟩:=Kd.at_string (Kd.R_reads' HO_4.out).2.2 0 p221 q221
             obtain rfl:ad218=ad221:=(by injection e221)
             have qi221:(0<t212.length)=True:=eq_true (by omega)
             (try rw [show ((0:Int)).toNat=0 from rfl] at hx221_0)
             (try rw [Addr.add_zero'] at hx221_0)
             replace p221:=eq_true p221;replace q221:=eq_true q221
             have p28:0≤(0:Int):=(by omega)
             have q28:0<(rdOf ByteArray.empty t212 0).size:=(by have:(0:Int)<((rdOf ByteArray.empty t212 0).size:Int):=of_decide_eq_true bA;omega)
             have hx28:∀ h:0<(rdOf ByteArray.empty t212 0).size,(((rdOf ByteArray.empty t212 0)[0]'h).toNat:Int)=bt (rdOf ByteArray.empty t212 0) 0:=bt_at (rdOf ByteArray.empty t212 0) 0;clear p28;have qi28:(0<((rdOf ByteArray.empty t212 0).size:Int))=True:=eq_true (of_decide_eq_true bA);replace q28:=eq_true q28;have q31:((wrap64 (1+(wrap64 (bt (rdOf ByteArray.empty t212 0) 0)))):Int)≤((t212.length:Int):Int):=of_decide_eq_true bA;obtain ⟨i031,hi031,_,hsz31,_⟩:=info_parts info9;have hroom31:t212.length≤co21:=cL HO_4
             have hC31:Kd.F Kd.string _ _ (some ad218) t212.length t212:=(Kd.V_at (base:=w.heap.size) (Kd.R_V (Kd.R_types (HO_4.out) BK210.out aD))).2.2
             have ql31:(1:Int)≤((wrap64 (1+(wrap64 (bt (rdOf ByteArray.empty t212 0) 0)))):Int):=of_decide_eq_true bA
             have hcut31:=cut_mid (P:=Try.prog) 22 9 .i64 .i64 Try.underlying22 hi031 1 hsz31 (some ad218) t212.length co21 1 (wrap64 (1+(wrap64 (bt (rdOf ByteArray.empty t212 0) 0)))) (by omega) ql31 q31 hroom31
             have hr31:=Kd.F_mid (lo:=(1:Int).toNat) (hi:=((wrap64 (1+(wrap64 (bt (rdOf ByteArray.empty t212 0) 0)))):Int).toNat) (c:=co21) hC31 (by omega) (by omega) hroom31
             obtain ⟨A31,hA31⟩:∃ A1,A1=(if co21=(1:Int).toNat then (some ad218) else ((some ad218):Option Addr).map (·.add ((1:Int).toNat * 1))):=⟨_,rfl⟩;obtain ⟨c31,hc31⟩:∃ c1,c1=co21 - (1:Int).toNat:=⟨_,rfl⟩
             have hy31:y222.length=((wrap64 (1+(wrap64 (bt (rdOf ByteArray.empty t212 0) 0)))):Int).toNat - (1:Int).toNat:=(by rw [Ny222.out,List.length_drop,List.length_take]<;>omega)
             rw [show ((t212).take ((wrap64 (1+(wrap64 (bt (rdOf ByteArray.empty t212 0) 0)))):Int).toNat).drop (1:Int).toNat=y222 from Ny222.out.symm] at hr31
             replace hr31:Kd.F Kd.string _ _ A31 y222.length y222:=(by rw [hA31];exact hr31)
             rw [← hy31,← hA31,← hc31] at hcut31
             have HO226:=mA (show Kd.V Kd.string 9 _ w.heap.size _ (.slice A31 y222.length c31) y222 from Kd.V_mk (by rw [hy31,hc31];exact Nat.sub_le_sub_right (Nat.le_trans (by omega) hroom31) _) hr31)
             have HC226:=mA (show y222.length≤c31 from by rw [hy31,hc31];exact Nat.sub_le_sub_right (Nat.le_trans (by omega) hroom31) _)
             clear hr31 hC31 hroom31 hi031 hsz31 hc31;have KY31:=mA hy31;have KA31:=mA hA31;clear hy31 hA31;replace q31:=eq_true q31
             go_wp2
             go_loopg [5,46] kj17 (fun kq v5 v46 w'=>∃ (x5_3:List (S81)) (x46_3:Int),v46=.int .i64 x46_3∧Aside0 (impl_walLog.l0 kq x5_3 y222 (y222.length:Int) x46_3=some (r1,r2))∧Aside0 (kq≤kj17)∧Aside0 (Kd.R k81 81 w' w.heap.size (fun _=>True) v5 x5_3)∧Aside0 (Kd.V Kd.string 9 w' w.heap.size (fun k_=>some k_≠(v5:Value).ownBlock∧k_≠gb210) (.slice A31 y222.length c31) y222)∧Aside0 (w'.heap[gb210]?=some (.cells #[(.slice A0_0 l0_0.length c0_0),(.slice A0_1 l0_1.length c0_1)] 31 (0,0)))∧Aside0 (Below w.heap.size w w'))
             case atStart=>exact ⟨(([]:List (S81))),(0),bZ,H',⟨Nat.le_refl _⟩,⟨aN⟩,⟨by (with_reducible repeat (first|apply Kd.V_alloc|apply Kd.V_drewN|apply Kd.V_drew));exact Kd.V_mono HO226.out (fun _ hk=>⟨(by simp [Value.ownBlock]),hk.2⟩)⟩,⟨pK BK210.out⟩,⟨pS HB.out⟩⟩
             case round =>
              clear H'
              (try clear c1);(try clear c11);(try clear c13);(try clear c13b0);(try clear c13b1);(try clear c14);(try clear c14b0);(try clear c14b1);(try clear c25);(try clear c26);(try clear c26b0);(try clear c26b1);(try clear c27);(try clear c27b0);(try clear c27b1);(try clear p28);(try clear q28);(try clear hx28);(try clear qi28);(try clear c29);(try clear c29b0);(try clear c29b1);(try clear c30);(try clear c30b0);(try clear c30b1);(try clear c31);(try clear q31);(try clear hcz15_0);(try clear hcz15_1);(try clear hcz19_0);(try clear hcz19_1);(try clear hfz15_0);(try clear hfz15_1);(try clear hfz19_0);(try clear hfz19_1);(try clear hx218_0);(try clear hx221_0);(try clear p218);(try clear p221);(try clear p28);(try clear q218);(try clear q221);(try clear q28);(try clear q31)
              obtain ⟨x5_3,x46_3,rfl,HA,HK3,HO_5,HO_44,BK210,HB⟩:=hrel
              cases gk with
              | zero=>exact absurd HA.out (by simp [impl_walLog.l0])
              | succ k3 =>
               have H:=HA.out;clear HA;simp only [impl_walLog.l0] at H
               by_cases c32:x46_3<(y222.length:Int)
               ·rw [if_pos c32] at H;have c32b0:decide (x46_3<(y222.length:Int))=true:=decide_eq_true c32;clear c32
                by_cases c33:0≤x46_3
                ·rw [if_pos c33] at H;have c33b0:decide (0≤x46_3)=true:=decide_eq_true c33;clear c33
                 by_cases c34:x46_3<(y222.length:Int)
                 ·rw [if_pos c34] at H;have c34b0:decide (x46_3<(y222.length:Int))=true:=decide_eq_true c34;clear c34
                  by_cases c35:(rdOf ByteArray.empty y222 x46_3).toList=([]:List UInt8)
                  ·rw [if_pos c35] at H;obtain ⟨c35b0,c35b1⟩:=eqB c35;clear c35;simp only [Option.some.injEq,Prod.mk.injEq] at H;obtain ⟨rfl,rfl⟩:=H;have p227:0≤(x46_3:Int):=of_decide_eq_true bA;have q227:x46_3<(y222.length:Int):=of_decide_eq_true bA;obtain ⟨ad227,e227,hx227_0⟩:=Kd.at_string (Kd.V_reads' HO_44.out).2.2 x46_3 p227 q227;cases e227;replace p227:=eq_true p227;replace q227:=eq_true q227
                   go_wp2
                   go_ret2
                   exact ⟨_,by first|rfl|(simp [errW_none,errW_some]<;>rfl)|(simp [*,errW_none,errW_some]<;>rfl),aN,pS HB.out⟩
                  ·rw [if_neg c35] at H;have c35b0:((rdOf ByteArray.empty y222 x46_3).toList == ([]:List UInt8))=false:=beq_eq_false_iff_ne.mpr c35;have c35b1:((rdOf ByteArray.empty y222 x46_3).toList != ([]:List UInt8))=true:=bne_iff_ne.mpr c35
                   by_cases c36:0<((rdOf ByteArray.empty y222 x46_3).size:Int)
                   ·rw [if_pos c36] at H;have c36b0:decide (0<((rdOf ByteArray.empty y222 x46_3).size:Int))=true:=decide_eq_true c36
                    have c36b1:decide (0<(rdOf ByteArray.empty y222 x46_3).size)=true:=decide_eq_true (by omega)
                    clear c36
                    by_cases c38:(wrap64 (bt (rdOf ByteArray.empty y222 x46_3) 0)) ≥ 250
                    ·rw [if_pos c38] at H;have c38b0:decide (250≤(wrap64 (bt (rdOf ByteArray.empty y222 x46_3) 0)))=true:=decide_eq_true c38;clear c38;simp only [Option.some.injEq,Prod.mk.injEq] at H;obtain ⟨rfl,rfl⟩:=H;have p227:0≤(x46_3:Int):=of_decide_eq_true bA;have q227:x46_3<(y222.length:Int):=of_decide_eq_true bA;obtain ⟨ad227,e227,hx227_0⟩:=Kd.at_string (Kd.V_reads' HO_44.out).2.2 x46_3 p227 q227;cases e227;replace p227:=eq_true p227;replace q227:=eq_true q227
                     have p37:0≤(0:Int):=(by omega)
                     have q37:0<(rdOf ByteArray.empty y222 x46_3).size:=(by have:(0:Int)<((rdOf ByteArray.empty y222 x46_3).size:Int):=of_decide_eq_true bA;omega)
                     have hx37:∀ h:0<(rdOf ByteArray.empty y222 x46_3).size,(((rdOf ByteArray.empty y222 x46_3)[0]'h).toNat:Int)=bt (rdOf ByteArray.empty y222 x46_3) 0:=bt_at (rdOf ByteArray.empty y222 x46_3) 0;clear p37;have qi37:(0<((rdOf ByteArray.empty y222 x46_3).size:Int))=True:=eq_true (of_decide_eq_true bA);replace q37:=eq_true q37
                     go_wp2
                     go_ret2
                     exact ⟨_,by first|rfl|(simp [errW_none,errW_some]<;>rfl)|(simp [*,errW_none,errW_some]<;>rfl),aN,pS HB.out⟩
                    ·rw [if_neg c38] at H;have c38b0:decide (250≤(wrap64 (bt (rdOf ByteArray.empty y222 x46_3) 0)))=false:=decide_eq_false c38;clear c38
                     by_cases c40:1≤((rdOf ByteArray.empty y222 x46_3).size:Int)
                     ·rw [if_pos c40] at H;have c40b0:=eq_true c40;have c40b1:decide (1≤((rdOf ByteArray.empty y222 x46_3).size:Int))=true:=decide_eq_true c40;clear c40
                      by_cases c41:x5_3.length<5864062014805
                      ·rw [if_pos c41] at H;have LMc41:=mA c41;clear c41;obtain ⟨y228,hy228⟩:∃ y_:List (S81),y_=(x5_3 ++ [(⟨wrap64 (bt (rdOf ByteArray.empty y222 x46_3) 0),(rdOf ByteArray.empty y222 x46_3).extract 1 (rdOf ByteArray.empty y222 x46_3).size⟩:S81)]):=⟨_,rfl⟩
                       replace H:(impl_walLog.l0 k3 y228 y222 (y222.length:Int) (wrap64 (x46_3+1)))=some (r1,r2):=qH hy228 H
                       have Ny228:=mA hy228;clear hy228;have H':=mA H;clear H;have p227:0≤(x46_3:Int):=of_decide_eq_true bA;have q227:x46_3<(y222.length:Int):=of_decide_eq_true bA;obtain ⟨ad227,e227,hx227_0⟩:=Kd.at_string (Kd.V_reads' HO_44.out).2.2 x46_3 p227 q227;cases e227;replace p227:=eq_true p227;replace q227:=eq_true q227
                       have p37:0≤(0:Int):=(by omega)
                       have q37:0<(rdOf ByteArray.empty y222 x46_3).size:=(by have:(0:Int)<((rdOf ByteArray.empty y222 x46_3).size:Int):=of_decide_eq_true bA;omega)
                       have hx37:∀ h:0<(rdOf ByteArray.empty y222 x46_3).size,(((rdOf ByteArray.empty y222 x46_3)[0]'h).toNat:Int)=bt (rdOf ByteArray.empty y222 x46_3) 0:=bt_at (rdOf ByteArray.empty y222 x46_3) 0;clear p37;have qi37:(0<((rdOf ByteArray.empty y222 x46_3).size:Int))=True:=eq_true (of_decide_eq_true bA);replace q37:=eq_true q37
                       try go_wp2
                       replace HO_5:=rD HO_5;replace HO_44:=mA (Kd.V_drew HO_44.out);replace BK210:=mA (blk_drew BK210.out);replace HB:=mA (below_drew1 HB.out)
                       have p39:0≤(0:Int):=(by omega)
                       have q39:0<(rdOf ByteArray.empty y222 x46_3).size:=(by have:(0:Int)<((rdOf ByteArray.empty y222 x46_3).size:Int):=of_decide_eq_true bA;omega)
                       have hx39:∀ h:0<(rdOf ByteArray.empty y222 x46_3).size,(((rdOf ByteArray.empty y222 x46_3)[0]'h).toNat:Int)=bt (rdOf ByteArray.empty y222 x46_3) 0:=bt_at (rdOf ByteArray.empty y222 x46_3) 0;clear p39;have qi39:(0<((rdOf ByteArray.empty y222 x46_3).size:Int))=True:=eq_true (of_decide_eq_true bA);replace q39:=eq_true q39
                       refine start_ (n:=10) (S:=fun w'=>True) (ds:=[]) _ aK rfl rfl trivial (fun hHeld=>?_);refine with_tabW impl_walLog.tab14 impl_walLog.bits14 (fun HT_ HW_=>?_)
                       generalize wr.drew=w42 at HO_5 HO_44 BK210 HB hHeld ⊢
                       refine pu_ 0 (some 58) (aT HT_) ?_
                       refine pu_ 1 (some 59) (aT HT_) ?_
                       refine pu_ 4 (some 62) (aT HT_) ?_
                       refine pu_ 5 (some 63) (aT HT_) ?_
                       refine take_ (i:=2) (N:=some 60) (v:=?_) (a':=?_) #[true,true,true,false,true,true,false,false,false,false] rfl rfl (tT HT_ HW_) (fun _ _ _ h=>h) (Or.inl ⟨by rfl,?_⟩) hHeld ?_ ?_
                       rotate_left
                       ·intro w' _;go_simp;with_reducible rfl
                       rotate_left
                       ·simp only [Act.put,List.setIfInBounds_toArray,List.set_cons_zero,List.set_cons_succ,i64_w,i32_w];rfl
                       refine pu_ 3 (some 61) (aT HT_) ?_
                       refine pu_ 6 (some 64) (aT HT_) ?_
                       refine on_ 7 (some 65) (oT HT_) ?_;intro K hK
                       refine value_ (w1:=?_) (v:=?_) (by rfl) rfl ?_ ?_
                       rotate_left 2
                       ·go_simp
                        constructor
                        ·rfl
                        ·rfl
                       refine hK.out _ _ trivial (fun hHeld=>?_);clear hK K;refine no_ (some 65) ?_
                       refine on_ 8 (some 66) (oT HT_) ?_;intro K hK
                       refine Kd.R_append_step k81 (w0:=w) w.heap.size (by rfl) (.tmp 58) (.tmp 65) 77 81 (.agg #[(.int .i64 0),(.string ⟨#[]⟩)]) 24 rfl Try.underlying77 info81 rfl aD (by omega) u5 x5_3 (⟨wrap64 (bt (rdOf ByteArray.empty y222 x46_3) 0),(rdOf ByteArray.empty y222 x46_3).extract 1 (rdOf ByteArray.empty y222 x46_3).size⟩:S81) [.int .i64 (wrap64 (bt (rdOf ByteArray.empty y222 x46_3) 0)),.string ((rdOf ByteArray.empty y222 x46_3).extract 1 (rdOf ByteArray.empty y222 x46_3).size)] (fun _=>True) (fun _=>False) rfl rfl ?aP (fun _ hk=>hk.elim) ?aF ?aO ?aB ?aS ?aL ?_
                       (case aP=>exact k81_mkM _ _ _ (⟨wrap64 (bt (rdOf ByteArray.empty y222 x46_3) 0),(rdOf ByteArray.empty y222 x46_3).extract 1 (rdOf ByteArray.empty y222 x46_3).size⟩:S81))
                       (case aB=>exact (pS HB.out))
                       (case aF=>exact (fun _ _=>trivial))
                       (case aO=>exact (pR HO_5.out))
                       (case aS=>exact (bpS HB))
                       (case aL=>have:=LMc41.out;omega)
                       intro v229 w43 ho hb hg hat;rw [← Ny228.out] at ho
                       replace HO_44:=mA (Kd.V_afterv (ok:=(fun k_=>k_≠gb210)) (by (with_reducible repeat (first|apply Kd.V_alloc|apply Kd.V_drewN|apply Kd.V_drew));exact Kd.V_mono HO_44.out (fun _ hk=>⟨hk.2,hk.1⟩)) hg hat);have HO230:=mA ho;replace BK210:=mA (blk_grown (pK BK210.out) hg (rN HO_5 BK210));replace HB:=mA hb;clear HO_5;clear ho hb hg hat;refine hK.out _ _ trivial (fun hHeld=>?_);clear hK K;refine no_ (some 66) ?_
                       refine pu_ 9 (some 5) (aT HT_) ?_
                       refine done_ (done_of HT_.out aK) ?_
                       try go_wp2
                       go_roundg k3
                       case measure=>have:=HJ1.out;have:=HJ17.out;have:=HK3.out;omega
                       case rel=>exact ⟨(y228),(wrap64 (x46_3+1)),bZ,H',⟨by have:=HJ1.out;have:=HJ17.out;have:=HK3.out;omega⟩,⟨pR HO230.out⟩,⟨by (with_reducible repeat (first|apply Kd.V_alloc|apply Kd.V_drewN|apply Kd.V_drew));exact Kd.V_mono HO_44.out (fun _ hk=>⟨hk.2,hk.1⟩)⟩,⟨pK BK210.out⟩,⟨pS HB.out⟩⟩
                      ·rw [if_neg c41] at H
                       exact absurd H (by simp)
                     ·rw [if_neg c40] at H
                      exact absurd H (by simp)
                   ·rw [if_neg c36] at H
                    exact absurd H (by simp)
                 ·rw [if_neg c34] at H
                  exact absurd H (by simp)
                ·rw [if_neg c33] at H
                 exact absurd H (by simp)
               ·rw [if_neg c32] at H;have c32b0:decide (x46_3<(y222.length:Int))=false:=decide_eq_false c32;clear c32;simp only [Option.some.injEq,Prod.mk.injEq] at H;obtain ⟨rfl,rfl⟩:=H
                go_wp2
                go_ret2
                exact ⟨_,by first|rfl|(simp [errW_none,errW_some]<;>rfl)|(simp [*,errW_none,errW_some]<;>rfl),pR HO_5.out,pS HB.out⟩
            ·rw [if_neg c30] at H
             exact absurd H (by simp)
           ·rw [if_neg c29] at H
            exact absurd H (by simp)
          ·rw [if_neg c27] at H
           exact absurd H (by simp)
         ·rw [if_neg c26] at H
          exact absurd H (by simp)
    ·rw [if_neg c13] at H
     exact absurd H (by simp)
end

end Go.Proofs.Ythjocaegapchaaa.P
