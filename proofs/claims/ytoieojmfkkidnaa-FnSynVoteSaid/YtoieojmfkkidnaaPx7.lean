-- printed by pprint.py (this session's program over the kit's printer) out of the translation. Lean checks it.
import Derived.Test.YtoieojmfkkidnaaPx0
namespace Go.Proofs.Ytoieojmfkkidnaa.P
open Go.RowKit Go.Proofs.YtoieojmfkkidnaaX Go.Proofs.YtoieojmfkkidnaaW.PrintWords Go.Proofs.YtoieojmfkkidnaaW.PrintLast Go.Proofs.YtoieojmfkkidnaaW.PrintMore
attribute [local go_sem] max2_int min2_int max_two min_two max_three min_three max_four min_four   -- for this text's walks alone
set_option linter.unusedVariables false
set_option linter.unusedSimpArgs false
/-! ### spec_l21Paper: function 104 -/
def spec_l21Paper.l0 : Nat → List (S64) → Int → Int → Option (Int)
 | 0,_,_,_=>none
 | k+1,x0,x1,x5=>if x5<(x0.length:Int) then (if 0≤x5 then (if ((rd_T64 x0 x5).f0)=x1 then (some x5) else (spec_l21Paper.l0 k x0 x1 (wrap64 (x5+1)))) else (none)) else (some (-1))
def spec_l21Paper.f (k : Nat) (l0 : List (S64)) (a1 : Int) : Option (Int) := spec_l21Paper.l0 k l0 a1 0
set_option maxHeartbeats 8000000 in
set_option maxRecDepth 100000 in
theorem spec_l21Paper.calls {k : Nat} {A0 : Option Addr} {c0 : Nat} {l0 : List (S64)} {a1 r : Int} {w : World} (hr0 : Kd.C k64 w A0 l0.length l0) (hc0 : l0.length ≤ c0) (h : spec_l21Paper.f k l0 a1 = some r) :
  Calls Try.prog 104 #[.slice A0 l0.length c0,.int .i64 a1] w fun e w'=>e=.returned (.int .i64 r)∧Drawn0 w w':=by
 have HR0:=mA hr0;have HC0:=mA hc0;clear hr0 hc0;have H:(spec_l21Paper.l0 k l0 a1 0)=some r:=h;clear h;have H':=mA H;clear H
 go_enter Try.func104,Try.ntmps104
 go_wp2_with (first|((with_reducible refine gLg rfl (by assumption) ?_);first|refine ldW ?_|refine ldX ?_))
 go_loopg [5] k (fun kq v5 w'=>∃ (x5_1:Int),v5=.int .i64 x5_1∧Aside0 (spec_l21Paper.l0 kq l0 a1 x5_1=some r)∧Aside0 (kq≤k)∧Drawn0 w w')
 case atStart=>exact ⟨(0),bZ,H',⟨Nat.le_refl _⟩,by repeat (first|exact Drawn0.refl _|apply Drawn0.step)⟩
 case round =>
  clear H'
  obtain ⟨x5_1,rfl,HA,HK1,⟨m1,rfl⟩⟩:=hrel
  cases gk with
  | zero=>exact absurd HA.out (by simp [spec_l21Paper.l0])
  | succ k1 =>
   have H:=HA.out;clear HA;simp only [spec_l21Paper.l0] at H
   by_cases c3:x5_1<(l0.length:Int)
   ·rw [if_pos c3] at H;have c3b0:decide (x5_1<(l0.length:Int))=true:=decide_eq_true c3;clear c3
    by_cases c4:0≤x5_1
    ·rw [if_pos c4] at H;have c4b0:decide (0≤x5_1)=true:=decide_eq_true c4;clear c4
     by_cases c5:((rd_T64 l0 x5_1).f0)=a1
     ·rw [if_pos c5] at H;obtain ⟨c5b0,c5b1⟩:=eqB c5;clear c5;obtain rfl:=Option.some.inj H;have p180:0≤(x5_1:Int):=of_decide_eq_true bA;have q180:x5_1<(l0.length:Int):=of_decide_eq_true bA;obtain ⟨ad180,e180,hs180⟩:=at_R64 HR0.out x5_1 p180 q180;have hx180_0:=RS.hd hs180 rfl;cases e180;replace p180:=eq_true p180;replace q180:=eq_true q180
      go_wp2_with (first|((with_reducible refine gLg rfl (by assumption) ?_);first|refine ldW ?_|refine ldX ?_))
      go_ret
      exact ⟨by first|rfl|(simp;done)|(simp [*];done),by repeat (first|exact Drawn0.refl _|apply Drawn0.step)⟩
     ·rw [if_neg c5] at H;have c5b0:(((rd_T64 l0 x5_1).f0) == a1)=false:=beq_eq_false_iff_ne.mpr c5;have c5b1:(((rd_T64 l0 x5_1).f0) != a1)=true:=bne_iff_ne.mpr c5;have H':=mA H;clear H;have p180:0≤(x5_1:Int):=of_decide_eq_true bA;have q180:x5_1<(l0.length:Int):=of_decide_eq_true bA;obtain ⟨ad180,e180,hs180⟩:=at_R64 HR0.out x5_1 p180 q180;have hx180_0:=RS.hd hs180 rfl;cases e180;replace p180:=eq_true p180;replace q180:=eq_true q180
      go_wp2_with (first|((with_reducible refine gLg rfl (by assumption) ?_);first|refine ldW ?_|refine ldX ?_))
      go_roundg k1
      case measure=>have:=HK1.out;omega
      case rel=>exact ⟨(wrap64 (x5_1+1)),bZ,H',⟨by have:=HK1.out;omega⟩,by repeat (first|exact Drawn0.refl _|apply Drawn0.step)⟩
    ·rw [if_neg c4] at H
     exact absurd H (by simp)
   ·rw [if_neg c3] at H;have c3b0:decide (x5_1<(l0.length:Int))=false:=decide_eq_false c3;clear c3;obtain rfl:=Option.some.inj H
    go_wp2_with (first|((with_reducible refine gLg rfl (by assumption) ?_);first|refine ldW ?_|refine ldX ?_))
    go_ret
    exact ⟨by first|rfl|(simp;done)|(simp [*];done),by repeat (first|exact Drawn0.refl _|apply Drawn0.step)⟩
/-! ### spec_l21Put: function 105 -/
mutual
def spec_l21Put.j4 : Nat → List (S64) → Bool → Int → Int → Int → Int → Int → Int → Int → Int → Int → Int → Int → Int → Option ((List (S64)))
 | 0,_,_,_,_,_,_,_,_,_,_,_,_,_,_=>none
 | k+1,x5,x6,x182000,x182001,x182002,x182003,x182004,x182005,x182006,x182007,x182008,x182009,x182010,x182011=>if x6=true then (some x5) else (if x5.length<1466015503701 then (some (x5 ++ [(⟨x182000,x182001,(⟨x182002,x182003,x182004,x182005,x182006,x182007,x182008,x182009,x182010,x182011⟩:S24)⟩:S64)])) else (none))
def spec_l21Put.l0 : Nat → List (S64) → List (S64) → Bool → Int → Int → Int → Int → Int → Int → Int → Int → Int → Int → Int → Int → Int → Option ((List (S64)))
 | 0,_,_,_,_,_,_,_,_,_,_,_,_,_,_,_,_=>none
 | k+1,x0,x5,x6,x7,x182000,x182001,x182002,x182003,x182004,x182005,x182006,x182007,x182008,x182009,x182010,x182011=>if x7<(x0.length:Int) then (spec_l21Put.j1 k x0 x5 x6 x7 x182000 x182001 x182002 x182003 x182004 x182005 x182006 x182007 x182008 x182009 x182010 x182011) else (spec_l21Put.j4 k x5 x6 x182000 x182001 x182002 x182003 x182004 x182005 x182006 x182007 x182008 x182009 x182010 x182011)
def spec_l21Put.j1 : Nat → List (S64) → List (S64) → Bool → Int → Int → Int → Int → Int → Int → Int → Int → Int → Int → Int → Int → Int → Option ((List (S64)))
 | 0,_,_,_,_,_,_,_,_,_,_,_,_,_,_,_,_=>none
 | k+1,x0,x5,x6,x7,x182000,x182001,x182002,x182003,x182004,x182005,x182006,x182007,x182008,x182009,x182010,x182011=>if x6=true then (spec_l21Put.j2 k x0 x5 x6 x7 false x182000 x182001 x182002 x182003 x182004 x182005 x182006 x182007 x182008 x182009 x182010 x182011) else (if 0≤x7 then (if x7<(x0.length:Int) then (spec_l21Put.j2 k x0 x5 x6 x7 (decide (((rd_T64 x0 x7).f0) ≥ x182000)) x182000 x182001 x182002 x182003 x182004 x182005 x182006 x182007 x182008 x182009 x182010 x182011) else (none)) else (none))
def spec_l21Put.j2 : Nat → List (S64) → List (S64) → Bool → Int → Bool → Int → Int → Int → Int → Int → Int → Int → Int → Int → Int → Int → Int → Option ((List (S64)))
 | 0,_,_,_,_,_,_,_,_,_,_,_,_,_,_,_,_,_=>none
 | k+1,x0,x5,x6,x7,x26,x182000,x182001,x182002,x182003,x182004,x182005,x182006,x182007,x182008,x182009,x182010,x182011=>if x26=true then (if x5.length<1466015503701 then (spec_l21Put.j3 k x0 (x5 ++ [(⟨x182000,x182001,(⟨x182002,x182003,x182004,x182005,x182006,x182007,x182008,x182009,x182010,x182011⟩:S24)⟩:S64)]) true x7 x182000 x182001 x182002 x182003 x182004 x182005 x182006 x182007 x182008 x182009 x182010 x182011) else (none)) else (spec_l21Put.j3 k x0 x5 x6 x7 x182000 x182001 x182002 x182003 x182004 x182005 x182006 x182007 x182008 x182009 x182010 x182011)
def spec_l21Put.j3 : Nat → List (S64) → List (S64) → Bool → Int → Int → Int → Int → Int → Int → Int → Int → Int → Int → Int → Int → Int → Option ((List (S64)))
 | 0,_,_,_,_,_,_,_,_,_,_,_,_,_,_,_,_=>none
 | k+1,x0,x5,x6,x7,x182000,x182001,x182002,x182003,x182004,x182005,x182006,x182007,x182008,x182009,x182010,x182011=>if 0≤x7 then (if x7<(x0.length:Int) then (if ((rd_T64 x0 x7).f0)=x182000 then (spec_l21Put.l0 k x0 x5 x6 (wrap64 (x7+1)) x182000 x182001 x182002 x182003 x182004 x182005 x182006 x182007 x182008 x182009 x182010 x182011) else (if x5.length<1466015503701 then (spec_l21Put.l0 k x0 (x5 ++ [(⟨(rd_T64 x0 x7).f0,(rd_T64 x0 x7).f1,(⟨(rd_T64 x0 x7).f2.f0,(rd_T64 x0 x7).f2.f1,(rd_T64 x0 x7).f2.f2,(rd_T64 x0 x7).f2.f3,(rd_T64 x0 x7).f2.f4,(rd_T64 x0 x7).f2.f5,(rd_T64 x0 x7).f2.f6,(rd_T64 x0 x7).f2.f7,(rd_T64 x0 x7).f2.f8,(rd_T64 x0 x7).f2.f9⟩:S24)⟩:S64)]) x6 (wrap64 (x7+1)) x182000 x182001 x182002 x182003 x182004 x182005 x182006 x182007 x182008 x182009 x182010 x182011) else (none))) else (none)) else (none)
end
def spec_l21Put.f (k : Nat) (l0 : List (S64)) (a1_0 a1_1 a1_2 a1_3 a1_4 a1_5 a1_6 a1_7 a1_8 a1_9 a1_10 a1_11 : Int) : Option ((List (S64))) := spec_l21Put.l0 k l0 (([] : List (S64))) false 0 a1_0 a1_1 a1_2 a1_3 a1_4 a1_5 a1_6 a1_7 a1_8 a1_9 a1_10 a1_11
set_option maxHeartbeats 8000000 in
set_option maxRecDepth 100000 in
theorem spec_l21Put.calls {k : Nat} {A0 : Option Addr} {c0 : Nat} {l0 : List (S64)} {a1_0 a1_1 a1_2 a1_3 a1_4 a1_5 a1_6 a1_7 a1_8 a1_9 a1_10 a1_11 : Int} {r : List (S64)} {w : World} (hr0 : Kd.C k64 w A0 l0.length l0) (hc0 : l0.length ≤ c0) (h : spec_l21Put.f k l0 a1_0 a1_1 a1_2 a1_3 a1_4 a1_5 a1_6 a1_7 a1_8 a1_9 a1_10 a1_11 = some r) :
  Calls Try.prog 105 #[.slice A0 l0.length c0,.agg #[.int .i64 a1_0,.int .i64 a1_1,.int .i64 a1_2,.int .i64 a1_3,.int .i64 a1_4,.int .i64 a1_5,.int .i64 a1_6,.int .i64 a1_7,.int .i64 a1_8,.int .i64 a1_9,.int .i64 a1_10,.int .i64 a1_11]] w fun e w'=>∃ v0_:Value,e=.returned (v0_)∧Kd.R k64 64 w' w.heap.size (fun _=>True) v0_ r∧Below w.heap.size w w':=by
 have hu64:=Try.underlying64;have HR0:=mA hr0;have HC0:=mA hc0;clear hr0 hc0;have HB:=mA (Below.refl w.heap.size w);have H:(spec_l21Put.l0 k l0 (([]:List (S64))) false 0 a1_0 a1_1 a1_2 a1_3 a1_4 a1_5 a1_6 a1_7 a1_8 a1_9 a1_10 a1_11)=some r:=h;clear h;obtain ⟨y182,hy182⟩:∃ y_:List (S64),y_=(([]:List (S64))):=⟨_,rfl⟩
 replace H:(spec_l21Put.l0 k l0 y182 false 0 a1_0 a1_1 a1_2 a1_3 a1_4 a1_5 a1_6 a1_7 a1_8 a1_9 a1_10 a1_11)=some r:=qH hy182 H
 have Ny182:=mA hy182;clear hy182;have HC3:=mA H;clear H
 go_enter Try.func105,Try.ntmps105
 go_upto_block 0 with (first|((with_reducible refine gLg rfl (by assumption) ?_);first|refine ldW ?_|refine ldX ?_)|((with_reducible refine gLg rfl (by assumption) ?_);refine ldV ?_)|((with_reducible refine gSt rfl (by assumption) ?_);refine stV ?_)|((with_reducible refine gT 3 rfl ?_);refine bX 3 ?_;intro gb181 hg w4 hbox hb;have BK181:=mA hbox;have GW181:=gbpB HB hg;have GE181:=gbpB HB hg;replace HB:=spB HB hb;clear hb hbox hg)|((with_reducible refine gT 8 rfl ?_);refine Kd.R_lit k64 _ 64 ?hg (N:=8) ?hd (xs:=([]:List (S64))) (inner:=[]) (ok:=fun _=>True) (okp:=fun _=>True) ?hr ?hp (fun _ hk=>hk) trivial (Below.refl _ _) (Nat.le_refl _) (by simp) ?_;(case hd=>rfl);(case hg=>rfl);(case hr=>first|(go_simp;done)|(go_simp;rfl));(case hp=>exact (Reps.none _ _));intro v183 w5 ho6 hb hg_ hnew_;clear hg_ hnew_;(first|rw [← Ny182.out] at ho6|(simp only [Int.reduceToNat] at ho6;rw [← Ny182.out] at ho6));have HO184:=mA (Kd.R_lower (Kd.R_newB ho6 (g:=gb181) (o:=.cells #[.int .i64 a1_0,.int .i64 a1_1,.int .i64 a1_2,.int .i64 a1_3,.int .i64 a1_4,.int .i64 a1_5,.int .i64 a1_6,.int .i64 a1_7,.int .i64 a1_8,.int .i64 a1_9,.int .i64 a1_10,.int .i64 a1_11] 64 (0,0)) (pK BK181.out)) (bpS HB));replace BK181:=bK BK181 hb;replace HB:=spS HB hb;clear hb ho6))
 repeat (go_quiet (first|((with_reducible refine gT 3 rfl ?_);refine bX 3 ?_;intro gb181 hg w4 hbox hb;have BK181:=mA hbox;have GW181:=gbpB HB hg;have GE181:=gbpB HB hg;replace HB:=spB HB hb;clear hb hbox hg)|((with_reducible refine gT 8 rfl ?_);refine Kd.R_lit k64 _ 64 ?hg (N:=8) ?hd (xs:=([]:List (S64))) (inner:=[]) (ok:=fun _=>True) (okp:=fun _=>True) ?hr ?hp (fun _ hk=>hk) trivial (Below.refl _ _) (Nat.le_refl _) (by simp) ?_;(case hd=>rfl);(case hg=>rfl);(case hr=>first|(go_simp;done)|(go_simp;rfl));(case hp=>exact (Reps.none _ _));intro v183 w5 ho6 hb hg_ hnew_;clear hg_ hnew_;(first|rw [← Ny182.out] at ho6|(simp only [Int.reduceToNat] at ho6;rw [← Ny182.out] at ho6));have HO184:=mA (Kd.R_lower (Kd.R_newB ho6 (g:=gb181) (o:=.cells #[.int .i64 a1_0,.int .i64 a1_1,.int .i64 a1_2,.int .i64 a1_3,.int .i64 a1_4,.int .i64 a1_5,.int .i64 a1_6,.int .i64 a1_7,.int .i64 a1_8,.int .i64 a1_9,.int .i64 a1_10,.int .i64 a1_11] 64 (0,0)) (pK BK181.out)) (bpS HB));replace BK181:=bK BK181 hb;replace HB:=spS HB hb;clear hb ho6));go_upto_block 0 with (first|((with_reducible refine gLg rfl (by assumption) ?_);first|refine ldW ?_|refine ldX ?_)|((with_reducible refine gLg rfl (by assumption) ?_);refine ldV ?_)|((with_reducible refine gSt rfl (by assumption) ?_);refine stV ?_)|((with_reducible refine gT 3 rfl ?_);refine bX 3 ?_;intro gb181 hg w4 hbox hb;have BK181:=mA hbox;have GW181:=gbpB HB hg;have GE181:=gbpB HB hg;replace HB:=spB HB hb;clear hb hbox hg)|((with_reducible refine gT 8 rfl ?_);refine Kd.R_lit k64 _ 64 ?hg (N:=8) ?hd (xs:=([]:List (S64))) (inner:=[]) (ok:=fun _=>True) (okp:=fun _=>True) ?hr ?hp (fun _ hk=>hk) trivial (Below.refl _ _) (Nat.le_refl _) (by simp) ?_;(case hd=>rfl);(case hg=>rfl);(case hr=>first|(go_simp;done)|(go_simp;rfl));(case hp=>exact (Reps.none _ _));intro v183 w5 ho6 hb hg_ hnew_;clear hg_ hnew_;(first|rw [← Ny182.out] at ho6|(simp only [Int.reduceToNat] at ho6;rw [← Ny182.out] at ho6));have HO184:=mA (Kd.R_lower (Kd.R_newB ho6 (g:=gb181) (o:=.cells #[.int .i64 a1_0,.int .i64 a1_1,.int .i64 a1_2,.int .i64 a1_3,.int .i64 a1_4,.int .i64 a1_5,.int .i64 a1_6,.int .i64 a1_7,.int .i64 a1_8,.int .i64 a1_9,.int .i64 a1_10,.int .i64 a1_11] 64 (0,0)) (pK BK181.out)) (bpS HB));replace BK181:=bK BK181 hb;replace HB:=spS HB hb;clear hb ho6)))
 (try simp only [Act.put,List.setIfInBounds_toArray,List.set_cons_zero,List.set_cons_succ])
 go_cut [5,6] (fun v5 v6 wc=>∃ (kq:Nat) (x5_2:List (S64)) (x6_2:Bool),v6=.bool x6_2∧Aside0 (spec_l21Put.j4 kq x5_2 x6_2 a1_0 a1_1 a1_2 a1_3 a1_4 a1_5 a1_6 a1_7 a1_8 a1_9 a1_10 a1_11=some r)∧Aside0 (kq≤k)∧Aside0 (Kd.R k64 64 wc w.heap.size (fun k_=>k_≠gb181) v5 x5_2)∧Aside0 (wc.heap[gb181]?=some (.cells #[.int .i64 a1_0,.int .i64 a1_1,.int .i64 a1_2,.int .i64 a1_3,.int .i64 a1_4,.int .i64 a1_5,.int .i64 a1_6,.int .i64 a1_7,.int .i64 a1_8,.int .i64 a1_9,.int .i64 a1_10,.int .i64 a1_11] 64 (0,0)))∧Aside0 (Below w.heap.size w wc))
 case first =>
  have H:=HC3.out;clear HC3;have H':=mA H;clear H
  go_wp2_with (first|((with_reducible refine gLg rfl (by assumption) ?_);first|refine ldW ?_|refine ldX ?_)|((with_reducible refine gLg rfl (by assumption) ?_);refine ldV ?_)|((with_reducible refine gSt rfl (by assumption) ?_);refine stV ?_))
  repeat (go_quiet (fail);try go_wp2)
  go_loopg [5,6,7] k (fun kq v5 v6 v7 w'=>∃ (x5_1:List (S64)) (x6_1:Bool) (x7_1:Int),v6=.bool x6_1∧v7=.int .i64 x7_1∧Aside0 (spec_l21Put.l0 kq l0 x5_1 x6_1 x7_1 a1_0 a1_1 a1_2 a1_3 a1_4 a1_5 a1_6 a1_7 a1_8 a1_9 a1_10 a1_11=some r)∧Aside0 (kq≤k)∧Aside0 (Kd.R k64 64 w' w.heap.size (fun k_=>k_≠gb181) v5 x5_1)∧Aside0 (w'.heap[gb181]?=some (.cells #[.int .i64 a1_0,.int .i64 a1_1,.int .i64 a1_2,.int .i64 a1_3,.int .i64 a1_4,.int .i64 a1_5,.int .i64 a1_6,.int .i64 a1_7,.int .i64 a1_8,.int .i64 a1_9,.int .i64 a1_10,.int .i64 a1_11] 64 (0,0)))∧Aside0 (Below w.heap.size w w'))
  case atStart=>exact ⟨(y182),(false),(0),bZ,bZ,H',⟨Nat.le_refl _⟩,⟨pR (Kd.R_mono HO184.out (fun _ hk=>hk.2))⟩,⟨pK BK181.out⟩,⟨pS HB.out⟩⟩
  case round =>
   clear H'
   obtain ⟨x5_1,x6_1,x7_1,rfl,rfl,HA,HK1,HO_5,BK181,HB⟩:=hrel
   cases gk with
   | zero=>exact absurd HA.out (by simp [spec_l21Put.l0])
   | succ k1 =>
    have H:=HA.out;clear HA;simp only [spec_l21Put.l0] at H;have HC7:=mA H;clear H
    go_upto_if 12 with (fail)
    repeat (go_quiet (fail);go_upto_if 12 with (fail))
    go_cut [] (fun wc=>∃ (kq:Nat),Aside0 (spec_l21Put.j1 kq l0 x5_1 x6_1 x7_1 a1_0 a1_1 a1_2 a1_3 a1_4 a1_5 a1_6 a1_7 a1_8 a1_9 a1_10 a1_11=some r)∧Aside0 (kq≤k1)∧Aside0 (Kd.R k64 64 wc w.heap.size (fun k_=>k_≠gb181) u5 x5_1)∧Aside0 (wc.heap[gb181]?=some (.cells #[.int .i64 a1_0,.int .i64 a1_1,.int .i64 a1_2,.int .i64 a1_3,.int .i64 a1_4,.int .i64 a1_5,.int .i64 a1_6,.int .i64 a1_7,.int .i64 a1_8,.int .i64 a1_9,.int .i64 a1_10,.int .i64 a1_11] 64 (0,0)))∧Aside0 (Below w.heap.size w wc))
    case first =>
     have H:=HC7.out;clear HC7
     by_cases c8:x7_1<(l0.length:Int)
     ·rw [if_pos c8] at H;have c8b0:decide (x7_1<(l0.length:Int))=true:=decide_eq_true c8;clear c8
      (first|rw [c8b0]|(simp only [i64_w,i32_w];rw [c8b0])|skip)
      have H':=mA H;clear H
      go_wp2_with (first|((with_reducible refine gLg rfl (by assumption) ?_);first|refine ldW ?_|refine ldX ?_)|((with_reducible refine gLg rfl (by assumption) ?_);refine ldV ?_)|((with_reducible refine gSt rfl (by assumption) ?_);refine stV ?_))
      repeat (go_quiet (fail);try go_wp2)
      go_meet
      case rel=>exact ⟨_,H',⟨by have:=HK1.out;first|omega|exact Nat.le_refl _⟩,⟨pR HO_5.out⟩,⟨pK BK181.out⟩,⟨pS HB.out⟩⟩
     ·rw [if_neg c8] at H;have c8b0:decide (x7_1<(l0.length:Int))=false:=decide_eq_false c8;clear c8
      (first|rw [c8b0]|(simp only [i64_w,i32_w];rw [c8b0])|skip)
      have H':=mA H;clear H
      go_wp2_with (first|((with_reducible refine gLg rfl (by assumption) ?_);first|refine ldW ?_|refine ldX ?_)|((with_reducible refine gLg rfl (by assumption) ?_);refine ldV ?_)|((with_reducible refine gSt rfl (by assumption) ?_);refine stV ?_))
      repeat (go_quiet (fail);try go_wp2)
      go_meet
      case rel=>exact ⟨_,(x5_1),(x6_1),bZ,H',⟨by have:=HK1.out;first|omega|exact Nat.le_refl _⟩,⟨pR HO_5.out⟩,⟨pK BK181.out⟩,⟨pS HB.out⟩⟩
    case rest =>
     clear HC7
     obtain ⟨kq,HA,HJ6,HO_5,BK181,HB⟩:=hcut
     cases kq with
     | zero=>exact absurd HA.out (by simp [spec_l21Put.j1])
     | succ kj6 =>
      have H:=HA.out;clear HA;simp only [spec_l21Put.j1] at H;have HC9:=mA H;clear H
      go_upto_region 6 with (fail)
      repeat (go_quiet (fail);go_upto_region 6 with (fail))
      go_cut [26] (fun v26 wc=>∃ (kq:Nat) (x26_8:Bool),v26=.bool x26_8∧Aside0 (spec_l21Put.j2 kq l0 x5_1 x6_1 x7_1 x26_8 a1_0 a1_1 a1_2 a1_3 a1_4 a1_5 a1_6 a1_7 a1_8 a1_9 a1_10 a1_11=some r)∧Aside0 (kq≤kj6)∧Aside0 (Kd.R k64 64 wc w.heap.size (fun k_=>k_≠gb181) u5 x5_1)∧Aside0 (wc.heap[gb181]?=some (.cells #[.int .i64 a1_0,.int .i64 a1_1,.int .i64 a1_2,.int .i64 a1_3,.int .i64 a1_4,.int .i64 a1_5,.int .i64 a1_6,.int .i64 a1_7,.int .i64 a1_8,.int .i64 a1_9,.int .i64 a1_10,.int .i64 a1_11] 64 (0,0)))∧Aside0 (Below w.heap.size w wc))
      case first =>
       have H:=HC9.out;clear HC9
       by_cases c10:x6_1=true
       ·subst c10;rw [if_pos rfl] at H;have H':=mA H;clear H
        go_wp2_with (first|((with_reducible refine gLg rfl (by assumption) ?_);first|refine ldW ?_|refine ldX ?_)|((with_reducible refine gLg rfl (by assumption) ?_);refine ldV ?_)|((with_reducible refine gSt rfl (by assumption) ?_);refine stV ?_))
        repeat (go_quiet (fail);try go_wp2)
        go_meet
        case rel=>exact ⟨_,(false),bZ,H',⟨by have:=HK1.out;have:=HJ6.out;first|omega|exact Nat.le_refl _⟩,⟨pR HO_5.out⟩,⟨pK BK181.out⟩,⟨pS HB.out⟩⟩
       ·replace c10:=Bool.eq_false_iff.mpr c10;subst c10
        rw [if_neg nFT] at H
        by_cases c11:0≤x7_1
        ·rw [if_pos c11] at H;have c11b0:decide (0≤x7_1)=true:=decide_eq_true c11;clear c11
         (first|rw [c11b0]|(simp only [i64_w,i32_w];rw [c11b0])|skip)
         by_cases c12:x7_1<(l0.length:Int)
         ·rw [if_pos c12] at H;have c12b0:decide (x7_1<(l0.length:Int))=true:=decide_eq_true c12;clear c12;have H':=mA H;clear H;have p185:0≤(x7_1:Int):=of_decide_eq_true bA;have q185:x7_1<(l0.length:Int):=of_decide_eq_true bA;obtain ⟨ad185,e185,hs185⟩:=at_R64 HR0.out x7_1 p185 q185;have hx185_0:=RS.hd hs185 rfl;cases e185;replace hx185_0:=hC HB hx185_0;replace hs185:=rS HB hs185;replace p185:=eq_true p185;replace q185:=eq_true q185;have hcz13_0:=fun i_=>blk_cell BK181.out i_;have hfz13_0:=fun i_=>blk_frozen BK181.out i_
          go_wp2_with (first|((with_reducible refine gLg rfl (by assumption) ?_);first|refine ldW ?_|refine ldX ?_)|((with_reducible refine gLg rfl (by assumption) ?_);refine ldV ?_)|((with_reducible refine gSt rfl (by assumption) ?_);refine stV ?_))
          repeat (go_quiet (fail);try go_wp2)
          go_meet
          case rel=>exact ⟨_,(decide (((rd_T64 l0 x7_1).f0) ≥ a1_0)),bZ,H',⟨by have:=HK1.out;have:=HJ6.out;first|omega|exact Nat.le_refl _⟩,⟨pR HO_5.out⟩,⟨pK BK181.out⟩,⟨pS HB.out⟩⟩
         ·rw [if_neg c12] at H
          exact absurd H (by simp)
        ·rw [if_neg c11] at H
         exact absurd H (by simp)
      case rest =>
       clear HC9
       obtain ⟨kq,x26_8,rfl,HA,HJ8,HO_5,BK181,HB⟩:=hcut
       cases kq with
       | zero=>exact absurd HA.out (by simp [spec_l21Put.j2])
       | succ kj8 =>
        have H:=HA.out;clear HA;simp only [spec_l21Put.j2] at H;have HC14:=mA H;clear H
        go_upto_if 26 with (fail)
        repeat (go_quiet (fail);go_upto_if 26 with (fail))
        go_cut [5,6] (fun v5 v6 wc=>∃ (kq:Nat) (x5_13:List (S64)) (x6_13:Bool),v6=.bool x6_13∧Aside0 (spec_l21Put.j3 kq l0 x5_13 x6_13 x7_1 a1_0 a1_1 a1_2 a1_3 a1_4 a1_5 a1_6 a1_7 a1_8 a1_9 a1_10 a1_11=some r)∧Aside0 (kq≤kj8)∧Aside0 (Kd.R k64 64 wc w.heap.size (fun k_=>k_≠gb181) v5 x5_13)∧Aside0 (wc.heap[gb181]?=some (.cells #[.int .i64 a1_0,.int .i64 a1_1,.int .i64 a1_2,.int .i64 a1_3,.int .i64 a1_4,.int .i64 a1_5,.int .i64 a1_6,.int .i64 a1_7,.int .i64 a1_8,.int .i64 a1_9,.int .i64 a1_10,.int .i64 a1_11] 64 (0,0)))∧Aside0 (Below w.heap.size w wc))
        case first =>
         have H:=HC14.out;clear HC14
         by_cases c15:x26_8=true
         ·subst c15;rw [if_pos rfl] at H
          by_cases c16:x5_1.length<1466015503701
          ·rw [if_pos c16] at H;have LMc16:=mA c16;clear c16;obtain ⟨y186,hy186⟩:∃ y_:List (S64),y_=(x5_1 ++ [(⟨a1_0,a1_1,(⟨a1_2,a1_3,a1_4,a1_5,a1_6,a1_7,a1_8,a1_9,a1_10,a1_11⟩:S24)⟩:S64)]):=⟨_,rfl⟩
           replace H:(spec_l21Put.j3 kj8 l0 y186 true x7_1 a1_0 a1_1 a1_2 a1_3 a1_4 a1_5 a1_6 a1_7 a1_8 a1_9 a1_10 a1_11)=some r:=qH hy186 H
           have Ny186:=mA hy186;clear hy186;have H':=mA H;clear H;have hcz17_0:=fun i_=>blk_cell BK181.out i_;have hfz17_0:=fun i_=>blk_frozen BK181.out i_
           go_wp2_with (first|((with_reducible refine gLg rfl (by assumption) ?_);first|refine ldW ?_|refine ldX ?_)|((with_reducible refine gLg rfl (by assumption) ?_);refine ldV ?_)|((with_reducible refine gSt rfl (by assumption) ?_);refine stV ?_)|((with_reducible refine gate_builtin (b:=.append) (xs:=#[.tmp 27,.tmp 29]) rfl ?_);at_builtin;refine Kd.R_append k64 (w0:=w) w.heap.size rfl (.tmp 27) (.tmp 29) 50 64 (.agg #[(.int .i64 0),(.int .i64 0),(.int .i64 0),(.int .i64 0),(.int .i64 0),(.int .i64 0),(.int .i64 0),(.int .i64 0),(.int .i64 0),(.int .i64 0),(.int .i64 0),(.int .i64 0)]) 96 rfl Try.underlying50 info64 rfl aD (by omega) u5 x5_1 (⟨a1_0,a1_1,(⟨a1_2,a1_3,a1_4,a1_5,a1_6,a1_7,a1_8,a1_9,a1_10,a1_11⟩:S24)⟩:S64) [.int .i64 a1_0,.int .i64 a1_1,.int .i64 a1_2,.int .i64 a1_3,.int .i64 a1_4,.int .i64 a1_5,.int .i64 a1_6,.int .i64 a1_7,.int .i64 a1_8,.int .i64 a1_9,.int .i64 a1_10,.int .i64 a1_11] (fun k_=>k_≠gb181) (fun _=>False) rfl rfl ?aP (fun _ hk=>hk.elim) ?aF ?aO ?aB ?aS ?aL ?_;(case aP=>exact k64_mkM _ _ _ (⟨a1_0,a1_1,(⟨a1_2,a1_3,a1_4,a1_5,a1_6,a1_7,a1_8,a1_9,a1_10,a1_11⟩:S24)⟩:S64));(case aB=>exact (pS HB.out));(case aF=>exact (fun k_ hk=>Kd.freshB (g:=gb181) (o:=.cells #[.int .i64 a1_0,.int .i64 a1_1,.int .i64 a1_2,.int .i64 a1_3,.int .i64 a1_4,.int .i64 a1_5,.int .i64 a1_6,.int .i64 a1_7,.int .i64 a1_8,.int .i64 a1_9,.int .i64 a1_10,.int .i64 a1_11] 64 (0,0)) (pK BK181.out) k_ hk));(case aO=>exact (pR HO_5.out));(case aS=>exact (bpS HB));(case aL=>have:=LMc16.out;omega);intro v187 w18 ho hb hg hat;rw [← Ny186.out] at ho;have HO188:=mA ho;replace BK181:=mA (blk_grown (pK BK181.out) hg (Kd.R_away HO_5.out (fun _ hk=>hk)));replace HB:=mA hb;clear HO_5;clear ho hb hg hat))
           repeat (go_quiet (first|((with_reducible refine gate_builtin (b:=.append) (xs:=#[.tmp 27,.tmp 29]) rfl ?_);at_builtin;refine Kd.R_append k64 (w0:=w) w.heap.size rfl (.tmp 27) (.tmp 29) 50 64 (.agg #[(.int .i64 0),(.int .i64 0),(.int .i64 0),(.int .i64 0),(.int .i64 0),(.int .i64 0),(.int .i64 0),(.int .i64 0),(.int .i64 0),(.int .i64 0),(.int .i64 0),(.int .i64 0)]) 96 rfl Try.underlying50 info64 rfl aD (by omega) u5 x5_1 (⟨a1_0,a1_1,(⟨a1_2,a1_3,a1_4,a1_5,a1_6,a1_7,a1_8,a1_9,a1_10,a1_11⟩:S24)⟩:S64) [.int .i64 a1_0,.int .i64 a1_1,.int .i64 a1_2,.int .i64 a1_3,.int .i64 a1_4,.int .i64 a1_5,.int .i64 a1_6,.int .i64 a1_7,.int .i64 a1_8,.int .i64 a1_9,.int .i64 a1_10,.int .i64 a1_11] (fun k_=>k_≠gb181) (fun _=>False) rfl rfl ?aP (fun _ hk=>hk.elim) ?aF ?aO ?aB ?aS ?aL ?_;(case aP=>exact k64_mkM _ _ _ (⟨a1_0,a1_1,(⟨a1_2,a1_3,a1_4,a1_5,a1_6,a1_7,a1_8,a1_9,a1_10,a1_11⟩:S24)⟩:S64));(case aB=>exact (pS HB.out));(case aF=>exact (fun k_ hk=>Kd.freshB (g:=gb181) (o:=.cells #[.int .i64 a1_0,.int .i64 a1_1,.int .i64 a1_2,.int .i64 a1_3,.int .i64 a1_4,.int .i64 a1_5,.int .i64 a1_6,.int .i64 a1_7,.int .i64 a1_8,.int .i64 a1_9,.int .i64 a1_10,.int .i64 a1_11] 64 (0,0)) (pK BK181.out) k_ hk));(case aO=>exact (pR HO_5.out));(case aS=>exact (bpS HB));(case aL=>have:=LMc16.out;omega);intro v187 w18 ho hb hg hat;rw [← Ny186.out] at ho;have HO188:=mA ho;replace BK181:=mA (blk_grown (pK BK181.out) hg (Kd.R_away HO_5.out (fun _ hk=>hk)));replace HB:=mA hb;clear HO_5;clear ho hb hg hat));try go_wp2_with (first|((with_reducible refine gLg rfl (by assumption) ?_);first|refine ldW ?_|refine ldX ?_)|((with_reducible refine gLg rfl (by assumption) ?_);refine ldV ?_)|((with_reducible refine gSt rfl (by assumption) ?_);refine stV ?_)|((with_reducible refine gate_builtin (b:=.append) (xs:=#[.tmp 27,.tmp 29]) rfl ?_);at_builtin;refine Kd.R_append k64 (w0:=w) w.heap.size rfl (.tmp 27) (.tmp 29) 50 64 (.agg #[(.int .i64 0),(.int .i64 0),(.int .i64 0),(.int .i64 0),(.int .i64 0),(.int .i64 0),(.int .i64 0),(.int .i64 0),(.int .i64 0),(.int .i64 0),(.int .i64 0),(.int .i64 0)]) 96 rfl Try.underlying50 info64 rfl aD (by omega) u5 x5_1 (⟨a1_0,a1_1,(⟨a1_2,a1_3,a1_4,a1_5,a1_6,a1_7,a1_8,a1_9,a1_10,a1_11⟩:S24)⟩:S64) [.int .i64 a1_0,.int .i64 a1_1,.int .i64 a1_2,.int .i64 a1_3,.int .i64 a1_4,.int .i64 a1_5,.int .i64 a1_6,.int .i64 a1_7,.int .i64 a1_8,.int .i64 a1_9,.int .i64 a1_10,.int .i64 a1_11] (fun k_=>k_≠gb181) (fun _=>False) rfl rfl ?aP (fun _ hk=>hk.elim) ?aF ?aO ?aB ?aS ?aL ?_;(case aP=>exact k64_mkM _ _ _ (⟨a1_0,a1_1,(⟨a1_2,a1_3,a1_4,a1_5,a1_6,a1_7,a1_8,a1_9,a1_10,a1_11⟩:S24)⟩:S64));(case aB=>exact (pS HB.out));(case aF=>exact (fun k_ hk=>Kd.freshB (g:=gb181) (o:=.cells #[.int .i64 a1_0,.int .i64 a1_1,.int .i64 a1_2,.int .i64 a1_3,.int .i64 a1_4,.int .i64 a1_5,.int .i64 a1_6,.int .i64 a1_7,.int .i64 a1_8,.int .i64 a1_9,.int .i64 a1_10,.int .i64 a1_11] 64 (0,0)) (pK BK181.out) k_ hk));(case aO=>exact (pR HO_5.out));(case aS=>exact (bpS HB));(case aL=>have:=LMc16.out;omega);intro v187 w18 ho hb hg hat;rw [← Ny186.out] at ho;have HO188:=mA ho;replace BK181:=mA (blk_grown (pK BK181.out) hg (Kd.R_away HO_5.out (fun _ hk=>hk)));replace HB:=mA hb;clear HO_5;clear ho hb hg hat)))
           go_meet
           case rel=>exact ⟨_,(y186),(true),bZ,H',⟨by have:=HK1.out;have:=HJ6.out;have:=HJ8.out;first|omega|exact Nat.le_refl _⟩,⟨pR HO188.out⟩,⟨pK BK181.out⟩,⟨pS HB.out⟩⟩
          ·rw [if_neg c16] at H
           exact absurd H (by simp)
         ·replace c15:=Bool.eq_false_iff.mpr c15;subst c15
          rw [if_neg nFT] at H
          have H':=mA H;clear H
          go_wp2_with (first|((with_reducible refine gLg rfl (by assumption) ?_);first|refine ldW ?_|refine ldX ?_)|((with_reducible refine gLg rfl (by assumption) ?_);refine ldV ?_)|((with_reducible refine gSt rfl (by assumption) ?_);refine stV ?_))
          repeat (go_quiet (fail);try go_wp2)
          go_meet
          case rel=>exact ⟨_,(x5_1),(x6_1),bZ,H',⟨by have:=HK1.out;have:=HJ6.out;have:=HJ8.out;first|omega|exact Nat.le_refl _⟩,⟨pR HO_5.out⟩,⟨pK BK181.out⟩,⟨pS HB.out⟩⟩
        case rest =>
         clear HC14
         obtain ⟨kq,x5_13,x6_13,rfl,HA,HJ13,HO_5,BK181,HB⟩:=hcut
         cases kq with
         | zero=>exact absurd HA.out (by simp [spec_l21Put.j3])
         | succ kj13 =>
          have H:=HA.out;clear HA;simp only [spec_l21Put.j3] at H
          by_cases c19:0≤x7_1
          ·rw [if_pos c19] at H;have c19b0:decide (0≤x7_1)=true:=decide_eq_true c19;clear c19
           by_cases c20:x7_1<(l0.length:Int)
           ·rw [if_pos c20] at H;have c20b0:decide (x7_1<(l0.length:Int))=true:=decide_eq_true c20;clear c20
            by_cases c21:((rd_T64 l0 x7_1).f0)=a1_0
            ·rw [if_pos c21] at H;obtain ⟨c21b0,c21b1⟩:=eqB c21;clear c21;have H':=mA H;clear H;have p189:0≤(x7_1:Int):=of_decide_eq_true bA;have q189:x7_1<(l0.length:Int):=of_decide_eq_true bA;obtain ⟨ad189,e189,hs189⟩:=at_R64 HR0.out x7_1 p189 q189;have hx189_0:=RS.hd hs189 rfl;cases e189;replace hx189_0:=hC HB hx189_0;replace hs189:=rS HB hs189;replace p189:=eq_true p189;replace q189:=eq_true q189;have hcz22_0:=fun i_=>blk_cell BK181.out i_;have hfz22_0:=fun i_=>blk_frozen BK181.out i_
             go_wp2_with (first|((with_reducible refine gLg rfl (by assumption) ?_);first|refine ldW ?_|refine ldX ?_)|((with_reducible refine gLg rfl (by assumption) ?_);refine ldV ?_)|((with_reducible refine gSt rfl (by assumption) ?_);refine stV ?_))
             repeat (go_quiet (fail);try go_wp2)
             go_roundg kj13
             case measure=>have:=HK1.out;have:=HJ6.out;have:=HJ8.out;have:=HJ13.out;omega
             case rel=>exact ⟨(x5_13),(x6_13),(wrap64 (x7_1+1)),bZ,bZ,H',⟨by have:=HK1.out;have:=HJ6.out;have:=HJ8.out;have:=HJ13.out;omega⟩,⟨pR HO_5.out⟩,⟨pK BK181.out⟩,⟨pS HB.out⟩⟩
            ·rw [if_neg c21] at H;have c21b0:(((rd_T64 l0 x7_1).f0) == a1_0)=false:=beq_eq_false_iff_ne.mpr c21;have c21b1:(((rd_T64 l0 x7_1).f0) != a1_0)=true:=bne_iff_ne.mpr c21
             by_cases c23:x5_13.length<1466015503701
             ·rw [if_pos c23] at H;have LMc23:=mA c23;clear c23;obtain ⟨y191,hy191⟩:∃ y_:List (S64),y_=(x5_13 ++ [(⟨(rd_T64 l0 x7_1).f0,(rd_T64 l0 x7_1).f1,(⟨(rd_T64 l0 x7_1).f2.f0,(rd_T64 l0 x7_1).f2.f1,(rd_T64 l0 x7_1).f2.f2,(rd_T64 l0 x7_1).f2.f3,(rd_T64 l0 x7_1).f2.f4,(rd_T64 l0 x7_1).f2.f5,(rd_T64 l0 x7_1).f2.f6,(rd_T64 l0 x7_1).f2.f7,(rd_T64 l0 x7_1).f2.f8,(rd_T64 l0 x7_1).f2.f9⟩:S24)⟩:S64)]):=⟨_,rfl⟩
              replace H:(spec_l21Put.l0 kj13 l0 y191 x6_13 (wrap64 (x7_1+1)) a1_0 a1_1 a1_2 a1_3 a1_4 a1_5 a1_6 a1_7 a1_8 a1_9 a1_10 a1_11)=some r:=qH hy191 H
              have Ny191:=mA hy191;clear hy191;have H':=mA H;clear H;have p189:0≤(x7_1:Int):=of_decide_eq_true bA;have q189:x7_1<(l0.length:Int):=of_decide_eq_true bA;obtain ⟨ad189,e189,hs189⟩:=at_R64 HR0.out x7_1 p189 q189;have hx189_0:=RS.hd hs189 rfl;cases e189;replace hx189_0:=hC HB hx189_0;replace hs189:=rS HB hs189;replace p189:=eq_true p189;replace q189:=eq_true q189;have hcz24_0:=fun i_=>blk_cell BK181.out i_;have hfz24_0:=fun i_=>blk_frozen BK181.out i_;have p190:0≤(x7_1:Int):=of_decide_eq_true bA;have q190:x7_1<(l0.length:Int):=of_decide_eq_true bA;obtain ⟨ad190,e190,hs190⟩:=at_R64 HR0.out x7_1 p190 q190;have hx190_0:=RS.hd hs190 rfl
              obtain rfl:ad189=ad190:=(by injection e190)
              replace hx190_0:=hC HB hx190_0;replace hs190:=rS HB hs190;replace p190:=eq_true p190;replace q190:=eq_true q190
              go_wp2_with (first|((with_reducible refine gLg rfl (by assumption) ?_);first|refine ldW ?_|refine ldX ?_)|((with_reducible refine gLg rfl (by assumption) ?_);refine ldV ?_)|((with_reducible refine gSt rfl (by assumption) ?_);refine stV ?_)|((with_reducible refine gate_builtin (b:=.append) (xs:=#[.tmp 39,.tmp 44]) rfl ?_);at_builtin;refine Kd.R_append k64 (w0:=w) w.heap.size rfl (.tmp 39) (.tmp 44) 50 64 (.agg #[(.int .i64 0),(.int .i64 0),(.int .i64 0),(.int .i64 0),(.int .i64 0),(.int .i64 0),(.int .i64 0),(.int .i64 0),(.int .i64 0),(.int .i64 0),(.int .i64 0),(.int .i64 0)]) 96 rfl Try.underlying50 info64 rfl aD (by omega) u5 x5_13 (⟨(rd_T64 l0 x7_1).f0,(rd_T64 l0 x7_1).f1,(⟨(rd_T64 l0 x7_1).f2.f0,(rd_T64 l0 x7_1).f2.f1,(rd_T64 l0 x7_1).f2.f2,(rd_T64 l0 x7_1).f2.f3,(rd_T64 l0 x7_1).f2.f4,(rd_T64 l0 x7_1).f2.f5,(rd_T64 l0 x7_1).f2.f6,(rd_T64 l0 x7_1).f2.f7,(rd_T64 l0 x7_1).f2.f8,(rd_T64 l0 x7_1).f2.f9⟩:S24)⟩:S64) [.int .i64 ((rd_T64 l0 x7_1).f0),.int .i64 ((rd_T64 l0 x7_1).f1),.int .i64 ((rd_T64 l0 x7_1).f2.f0),.int .i64 ((rd_T64 l0 x7_1).f2.f1),.int .i64 ((rd_T64 l0 x7_1).f2.f2),.int .i64 ((rd_T64 l0 x7_1).f2.f3),.int .i64 ((rd_T64 l0 x7_1).f2.f4),.int .i64 ((rd_T64 l0 x7_1).f2.f5),.int .i64 ((rd_T64 l0 x7_1).f2.f6),.int .i64 ((rd_T64 l0 x7_1).f2.f7),.int .i64 ((rd_T64 l0 x7_1).f2.f8),.int .i64 ((rd_T64 l0 x7_1).f2.f9)] (fun k_=>k_≠gb181) (fun _=>False) rfl rfl ?aP (fun _ hk=>hk.elim) ?aF ?aO ?aB ?aS ?aL ?_;(case aP=>exact k64_mkM _ _ _ (⟨(rd_T64 l0 x7_1).f0,(rd_T64 l0 x7_1).f1,(⟨(rd_T64 l0 x7_1).f2.f0,(rd_T64 l0 x7_1).f2.f1,(rd_T64 l0 x7_1).f2.f2,(rd_T64 l0 x7_1).f2.f3,(rd_T64 l0 x7_1).f2.f4,(rd_T64 l0 x7_1).f2.f5,(rd_T64 l0 x7_1).f2.f6,(rd_T64 l0 x7_1).f2.f7,(rd_T64 l0 x7_1).f2.f8,(rd_T64 l0 x7_1).f2.f9⟩:S24)⟩:S64));(case aB=>exact (pS HB.out));(case aF=>exact (fun k_ hk=>Kd.freshB (g:=gb181) (o:=.cells #[.int .i64 a1_0,.int .i64 a1_1,.int .i64 a1_2,.int .i64 a1_3,.int .i64 a1_4,.int .i64 a1_5,.int .i64 a1_6,.int .i64 a1_7,.int .i64 a1_8,.int .i64 a1_9,.int .i64 a1_10,.int .i64 a1_11] 64 (0,0)) (pK BK181.out) k_ hk));(case aO=>exact (pR HO_5.out));(case aS=>exact (bpS HB));(case aL=>have:=LMc23.out;omega);intro v192 w25 ho hb hg hat;rw [← Ny191.out] at ho;have HO193:=mA ho;replace BK181:=mA (blk_grown (pK BK181.out) hg (Kd.R_away HO_5.out (fun _ hk=>hk)));replace HB:=mA hb;clear HO_5;clear ho hb hg hat))
              repeat (go_quiet (first|((with_reducible refine gate_builtin (b:=.append) (xs:=#[.tmp 39,.tmp 44]) rfl ?_);at_builtin;refine Kd.R_append k64 (w0:=w) w.heap.size rfl (.tmp 39) (.tmp 44) 50 64 (.agg #[(.int .i64 0),(.int .i64 0),(.int .i64 0),(.int .i64 0),(.int .i64 0),(.int .i64 0),(.int .i64 0),(.int .i64 0),(.int .i64 0),(.int .i64 0),(.int .i64 0),(.int .i64 0)]) 96 rfl Try.underlying50 info64 rfl aD (by omega) u5 x5_13 (⟨(rd_T64 l0 x7_1).f0,(rd_T64 l0 x7_1).f1,(⟨(rd_T64 l0 x7_1).f2.f0,(rd_T64 l0 x7_1).f2.f1,(rd_T64 l0 x7_1).f2.f2,(rd_T64 l0 x7_1).f2.f3,(rd_T64 l0 x7_1).f2.f4,(rd_T64 l0 x7_1).f2.f5,(rd_T64 l0 x7_1).f2.f6,(rd_T64 l0 x7_1).f2.f7,(rd_T64 l0 x7_1).f2.f8,(rd_T64 l0 x7_1).f2.f9⟩:S24)⟩:S64) [.int .i64 ((rd_T64 l0 x7_1).f0),.int .i64 ((rd_T64 l0 x7_1).f1),.int .i64 ((rd_T64 l0 x7_1).f2.f0),.int .i64 ((rd_T64 l0 x7_1).f2.f1),.int .i64 ((rd_T64 l0 x7_1).f2.f2),.int .i64 ((rd_T64 l0 x7_1).f2.f3),.int .i64 ((rd_T64 l0 x7_1).f2.f4),.int .i64 ((rd_T64 l0 x7_1).f2.f5),.int .i64 ((rd_T64 l0 x7_1).f2.f6),.int .i64 ((rd_T64 l0 x7_1).f2.f7),.int .i64 ((rd_T64 l0 x7_1).f2.f8),.int .i64 ((rd_T64 l0 x7_1).f2.f9)] (fun k_=>k_≠gb181) (fun _=>False) rfl rfl ?aP (fun _ hk=>hk.elim) ?aF ?aO ?aB ?aS ?aL ?_;(case aP=>exact k64_mkM _ _ _ (⟨(rd_T64 l0 x7_1).f0,(rd_T64 l0 x7_1).f1,(⟨(rd_T64 l0 x7_1).f2.f0,(rd_T64 l0 x7_1).f2.f1,(rd_T64 l0 x7_1).f2.f2,(rd_T64 l0 x7_1).f2.f3,(rd_T64 l0 x7_1).f2.f4,(rd_T64 l0 x7_1).f2.f5,(rd_T64 l0 x7_1).f2.f6,(rd_T64 l0 x7_1).f2.f7,(rd_T64 l0 x7_1).f2.f8,(rd_T64 l0 x7_1).f2.f9⟩:S24)⟩:S64));(case aB=>exact (pS HB.out));(case aF=>exact (fun k_ hk=>Kd.freshB (g:=gb181) (o:=.cells #[.int .i64 a1_0,.int .i64 a1_1,.int .i64 a1_2,.int .i64 a1_3,.int .i64 a1_4,.int .i64 a1_5,.int .i64 a1_6,.int .i64 a1_7,.int .i64 a1_8,.int .i64 a1_9,.int .i64 a1_10,.int .i64 a1_11] 64 (0,0)) (pK BK181.out) k_ hk));(case aO=>exact (pR HO_5.out));(case aS=>exact (bpS HB));(case aL=>have:=LMc23.out;omega);intro v192 w25 ho hb hg hat;rw [← Ny191.out] at ho;have HO193:=mA ho;replace BK181:=mA (blk_grown (pK BK181.out) hg (Kd.R_away HO_5.out (fun _ hk=>hk)));replace HB:=mA hb;clear HO_5;clear ho hb hg hat));try go_wp2_with (first|((with_reducible refine gLg rfl (by assumption) ?_);first|refine ldW ?_|refine ldX ?_)|((with_reducible refine gLg rfl (by assumption) ?_);refine ldV ?_)|((with_reducible refine gSt rfl (by assumption) ?_);refine stV ?_)|((with_reducible refine gate_builtin (b:=.append) (xs:=#[.tmp 39,.tmp 44]) rfl ?_);at_builtin;refine Kd.R_append k64 (w0:=w) w.heap.size rfl (.tmp 39) (.tmp 44) 50 64 (.agg #[(.int .i64 0),(.int .i64 0),(.int .i64 0),(.int .i64 0),(.int .i64 0),(.int .i64 0),(.int .i64 0),(.int .i64 0),(.int .i64 0),(.int .i64 0),(.int .i64 0),(.int .i64 0)]) 96 rfl Try.underlying50 info64 rfl aD (by omega) u5 x5_13 (⟨(rd_T64 l0 x7_1).f0,(rd_T64 l0 x7_1).f1,(⟨(rd_T64 l0 x7_1).f2.f0,(rd_T64 l0 x7_1).f2.f1,(rd_T64 l0 x7_1).f2.f2,(rd_T64 l0 x7_1).f2.f3,(rd_T64 l0 x7_1).f2.f4,(rd_T64 l0 x7_1).f2.f5,(rd_T64 l0 x7_1).f2.f6,(rd_T64 l0 x7_1).f2.f7,(rd_T64 l0 x7_1).f2.f8,(rd_T64 l0 x7_1).f2.f9⟩:S24)⟩:S64) [.int .i64 ((rd_T64 l0 x7_1).f0),.int .i64 ((rd_T64 l0 x7_1).f1),.int .i64 ((rd_T64 l0 x7_1).f2.f0),.int .i64 ((rd_T64 l0 x7_1).f2.f1),.int .i64 ((rd_T64 l0 x7_1).f2.f2),.int .i64 ((rd_T64 l0 x7_1).f2.f3),.int .i64 ((rd_T64 l0 x7_1).f2.f4),.int .i64 ((rd_T64 l0 x7_1).f2.f5),.int .i64 ((rd_T64 l0 x7_1).f2.f6),.int .i64 ((rd_T64 l0 x7_1).f2.f7),.int .i64 ((rd_T64 l0 x7_1).f2.f8),.int .i64 ((rd_T64 l0 x7_1).f2.f9)] (fun k_=>k_≠gb181) (fun _=>False) rfl rfl ?aP (fun _ hk=>hk.elim) ?aF ?aO ?aB ?aS ?aL ?_;(case aP=>exact k64_mkM _ _ _ (⟨(rd_T64 l0 x7_1).f0,(rd_T64 l0 x7_1).f1,(⟨(rd_T64 l0 x7_1).f2.f0,(rd_T64 l0 x7_1).f2.f1,(rd_T64 l0 x7_1).f2.f2,(rd_T64 l0 x7_1).f2.f3,(rd_T64 l0 x7_1).f2.f4,(rd_T64 l0 x7_1).f2.f5,(rd_T64 l0 x7_1).f2.f6,(rd_T64 l0 x7_1).f2.f7,(rd_T64 l0 x7_1).f2.f8,(rd_T64 l0 x7_1).f2.f9⟩:S24)⟩:S64));(case aB=>exact (pS HB.out));(case aF=>exact (fun k_ hk=>Kd.freshB (g:=gb181) (o:=.cells #[.int .i64 a1_0,.int .i64 a1_1,.int .i64 a1_2,.int .i64 a1_3,.int .i64 a1_4,.int .i64 a1_5,.int .i64 a1_6,.int .i64 a1_7,.int .i64 a1_8,.int .i64 a1_9,.int .i64 a1_10,.int .i64 a1_11] 64 (0,0)) (pK BK181.out) k_ hk));(case aO=>exact (pR HO_5.out));(case aS=>exact (bpS HB));(case aL=>have:=LMc23.out;omega);intro v192 w25 ho hb hg hat;rw [← Ny191.out] at ho;have HO193:=mA ho;replace BK181:=mA (blk_grown (pK BK181.out) hg (Kd.R_away HO_5.out (fun _ hk=>hk)));replace HB:=mA hb;clear HO_5;clear ho hb hg hat)))
              go_roundg kj13
              case measure=>have:=HK1.out;have:=HJ6.out;have:=HJ8.out;have:=HJ13.out;omega
              case rel=>exact ⟨(y191),(x6_13),(wrap64 (x7_1+1)),bZ,bZ,H',⟨by have:=HK1.out;have:=HJ6.out;have:=HJ8.out;have:=HJ13.out;omega⟩,⟨pR HO193.out⟩,⟨pK BK181.out⟩,⟨pS HB.out⟩⟩
             ·rw [if_neg c23] at H
              exact absurd H (by simp)
           ·rw [if_neg c20] at H
            exact absurd H (by simp)
          ·rw [if_neg c19] at H
           exact absurd H (by simp)
 case rest =>
  clear HC3
  obtain ⟨kq,x5_2,x6_2,rfl,HA,HJ2,HO_5,BK181,HB⟩:=hcut
  cases kq with
  | zero=>exact absurd HA.out (by simp [spec_l21Put.j4])
  | succ kj2 =>
   have H:=HA.out;clear HA;simp only [spec_l21Put.j4] at H
   by_cases c26:x6_2=true
   ·subst c26;rw [if_pos rfl] at H;obtain rfl:=Option.some.inj H
    go_wp2_with (first|((with_reducible refine gLg rfl (by assumption) ?_);first|refine ldW ?_|refine ldX ?_)|((with_reducible refine gLg rfl (by assumption) ?_);refine ldV ?_)|((with_reducible refine gSt rfl (by assumption) ?_);refine stV ?_))
    repeat (go_quiet (fail);try go_wp2)
    go_ret
    exact ⟨_,by first|rfl|(simp [errW_none,errW_some]<;>rfl)|(simp [*,errW_none,errW_some]<;>rfl),pR (Kd.R_mono HO_5.out (fun _ hk=>trivial)),pS HB.out⟩
   ·replace c26:=Bool.eq_false_iff.mpr c26;subst c26
    rw [if_neg nFT] at H
    by_cases c27:x5_2.length<1466015503701
    ·rw [if_pos c27] at H;have LMc27:=mA c27;clear c27;obtain ⟨y194,hy194⟩:∃ y_:List (S64),y_=(x5_2 ++ [(⟨a1_0,a1_1,(⟨a1_2,a1_3,a1_4,a1_5,a1_6,a1_7,a1_8,a1_9,a1_10,a1_11⟩:S24)⟩:S64)]):=⟨_,rfl⟩
     replace H:(some y194)=some r:=qH hy194 H
     have Ny194:=mA hy194;clear hy194;obtain rfl:=Option.some.inj H;have hcz28_0:=fun i_=>blk_cell BK181.out i_;have hfz28_0:=fun i_=>blk_frozen BK181.out i_
     go_wp2_with (first|((with_reducible refine gLg rfl (by assumption) ?_);first|refine ldW ?_|refine ldX ?_)|((with_reducible refine gLg rfl (by assumption) ?_);refine ldV ?_)|((with_reducible refine gSt rfl (by assumption) ?_);refine stV ?_)|((with_reducible refine gate_builtin (b:=.append) (xs:=#[.tmp 48,.tmp 50]) rfl ?_);at_builtin;refine Kd.R_append k64 (w0:=w) w.heap.size rfl (.tmp 48) (.tmp 50) 50 64 (.agg #[(.int .i64 0),(.int .i64 0),(.int .i64 0),(.int .i64 0),(.int .i64 0),(.int .i64 0),(.int .i64 0),(.int .i64 0),(.int .i64 0),(.int .i64 0),(.int .i64 0),(.int .i64 0)]) 96 rfl Try.underlying50 info64 rfl aD (by omega) u5 x5_2 (⟨a1_0,a1_1,(⟨a1_2,a1_3,a1_4,a1_5,a1_6,a1_7,a1_8,a1_9,a1_10,a1_11⟩:S24)⟩:S64) [.int .i64 a1_0,.int .i64 a1_1,.int .i64 a1_2,.int .i64 a1_3,.int .i64 a1_4,.int .i64 a1_5,.int .i64 a1_6,.int .i64 a1_7,.int .i64 a1_8,.int .i64 a1_9,.int .i64 a1_10,.int .i64 a1_11] (fun k_=>k_≠gb181) (fun _=>False) rfl rfl ?aP (fun _ hk=>hk.elim) ?aF ?aO ?aB ?aS ?aL ?_;(case aP=>exact k64_mkM _ _ _ (⟨a1_0,a1_1,(⟨a1_2,a1_3,a1_4,a1_5,a1_6,a1_7,a1_8,a1_9,a1_10,a1_11⟩:S24)⟩:S64));(case aB=>exact (pS HB.out));(case aF=>exact (fun k_ hk=>Kd.freshB (g:=gb181) (o:=.cells #[.int .i64 a1_0,.int .i64 a1_1,.int .i64 a1_2,.int .i64 a1_3,.int .i64 a1_4,.int .i64 a1_5,.int .i64 a1_6,.int .i64 a1_7,.int .i64 a1_8,.int .i64 a1_9,.int .i64 a1_10,.int .i64 a1_11] 64 (0,0)) (pK BK181.out) k_ hk));(case aO=>exact (pR HO_5.out));(case aS=>exact (bpS HB));(case aL=>have:=LMc27.out;omega);intro v195 w29 ho hb hg hat;rw [← Ny194.out] at ho;have HO196:=mA ho;replace BK181:=mA (blk_grown (pK BK181.out) hg (Kd.R_away HO_5.out (fun _ hk=>hk)));replace HB:=mA hb;clear HO_5;clear ho hb hg hat))
     repeat (go_quiet (first|((with_reducible refine gate_builtin (b:=.append) (xs:=#[.tmp 48,.tmp 50]) rfl ?_);at_builtin;refine Kd.R_append k64 (w0:=w) w.heap.size rfl (.tmp 48) (.tmp 50) 50 64 (.agg #[(.int .i64 0),(.int .i64 0),(.int .i64 0),(.int .i64 0),(.int .i64 0),(.int .i64 0),(.int .i64 0),(.int .i64 0),(.int .i64 0),(.int .i64 0),(.int .i64 0),(.int .i64 0)]) 96 rfl Try.underlying50 info64 rfl aD (by omega) u5 x5_2 (⟨a1_0,a1_1,(⟨a1_2,a1_3,a1_4,a1_5,a1_6,a1_7,a1_8,a1_9,a1_10,a1_11⟩:S24)⟩:S64) [.int .i64 a1_0,.int .i64 a1_1,.int .i64 a1_2,.int .i64 a1_3,.int .i64 a1_4,.int .i64 a1_5,.int .i64 a1_6,.int .i64 a1_7,.int .i64 a1_8,.int .i64 a1_9,.int .i64 a1_10,.int .i64 a1_11] (fun k_=>k_≠gb181) (fun _=>False) rfl rfl ?aP (fun _ hk=>hk.elim) ?aF ?aO ?aB ?aS ?aL ?_;(case aP=>exact k64_mkM _ _ _ (⟨a1_0,a1_1,(⟨a1_2,a1_3,a1_4,a1_5,a1_6,a1_7,a1_8,a1_9,a1_10,a1_11⟩:S24)⟩:S64));(case aB=>exact (pS HB.out));(case aF=>exact (fun k_ hk=>Kd.freshB (g:=gb181) (o:=.cells #[.int .i64 a1_0,.int .i64 a1_1,.int .i64 a1_2,.int .i64 a1_3,.int .i64 a1_4,.int .i64 a1_5,.int .i64 a1_6,.int .i64 a1_7,.int .i64 a1_8,.int .i64 a1_9,.int .i64 a1_10,.int .i64 a1_11] 64 (0,0)) (pK BK181.out) k_ hk));(case aO=>exact (pR HO_5.out));(case aS=>exact (bpS HB));(case aL=>have:=LMc27.out;omega);intro v195 w29 ho hb hg hat;rw [← Ny194.out] at ho;have HO196:=mA ho;replace BK181:=mA (blk_grown (pK BK181.out) hg (Kd.R_away HO_5.out (fun _ hk=>hk)));replace HB:=mA hb;clear HO_5;clear ho hb hg hat));try go_wp2_with (first|((with_reducible refine gLg rfl (by assumption) ?_);first|refine ldW ?_|refine ldX ?_)|((with_reducible refine gLg rfl (by assumption) ?_);refine ldV ?_)|((with_reducible refine gSt rfl (by assumption) ?_);refine stV ?_)|((with_reducible refine gate_builtin (b:=.append) (xs:=#[.tmp 48,.tmp 50]) rfl ?_);at_builtin;refine Kd.R_append k64 (w0:=w) w.heap.size rfl (.tmp 48) (.tmp 50) 50 64 (.agg #[(.int .i64 0),(.int .i64 0),(.int .i64 0),(.int .i64 0),(.int .i64 0),(.int .i64 0),(.int .i64 0),(.int .i64 0),(.int .i64 0),(.int .i64 0),(.int .i64 0),(.int .i64 0)]) 96 rfl Try.underlying50 info64 rfl aD (by omega) u5 x5_2 (⟨a1_0,a1_1,(⟨a1_2,a1_3,a1_4,a1_5,a1_6,a1_7,a1_8,a1_9,a1_10,a1_11⟩:S24)⟩:S64) [.int .i64 a1_0,.int .i64 a1_1,.int .i64 a1_2,.int .i64 a1_3,.int .i64 a1_4,.int .i64 a1_5,.int .i64 a1_6,.int .i64 a1_7,.int .i64 a1_8,.int .i64 a1_9,.int .i64 a1_10,.int .i64 a1_11] (fun k_=>k_≠gb181) (fun _=>False) rfl rfl ?aP (fun _ hk=>hk.elim) ?aF ?aO ?aB ?aS ?aL ?_;(case aP=>exact k64_mkM _ _ _ (⟨a1_0,a1_1,(⟨a1_2,a1_3,a1_4,a1_5,a1_6,a1_7,a1_8,a1_9,a1_10,a1_11⟩:S24)⟩:S64));(case aB=>exact (pS HB.out));(case aF=>exact (fun k_ hk=>Kd.freshB (g:=gb181) (o:=.cells #[.int .i64 a1_0,.int .i64 a1_1,.int .i64 a1_2,.int .i64 a1_3,.int .i64 a1_4,.int .i64 a1_5,.int .i64 a1_6,.int .i64 a1_7,.int .i64 a1_8,.int .i64 a1_9,.int .i64 a1_10,.int .i64 a1_11] 64 (0,0)) (pK BK181.out) k_ hk));(case aO=>exact (pR HO_5.out));(case aS=>exact (bpS HB));(case aL=>have:=LMc27.out;omega);intro v195 w29 ho hb hg hat;rw [← Ny194.out] at ho;have HO196:=mA ho;replace BK181:=mA (blk_grown (pK BK181.out) hg (Kd.R_away HO_5.out (fun _ hk=>hk)));replace HB:=mA hb;clear HO_5;clear ho hb hg hat)))
     go_ret
     exact ⟨_,by first|rfl|(simp [errW_none,errW_some]<;>rfl)|(simp [*,errW_none,errW_some]<;>rfl),pR (Kd.R_mono HO196.out (fun _ hk=>trivial)),pS HB.out⟩
    ·rw [if_neg c27] at H
     exact absurd H (by simp)
end Go.Proofs.Ytoieojmfkkidnaa.P
