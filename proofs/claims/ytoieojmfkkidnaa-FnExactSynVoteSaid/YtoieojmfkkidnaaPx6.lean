-- printed by pprint.py (this session's program over the kit's printer) out of the translation. Lean checks it.
import Derived.Test.YtoieojmfkkidnaaPx0
namespace Go.Proofs.Ytoieojmfkkidnaa.P
open Go.RowKit Go.Proofs.YtoieojmfkkidnaaX Go.Proofs.YtoieojmfkkidnaaW.PrintWords Go.Proofs.YtoieojmfkkidnaaW.PrintLast Go.Proofs.YtoieojmfkkidnaaW.PrintMore
attribute [local go_sem] max2_int min2_int max_two min_two max_three min_three max_four min_four   -- for this text's walks alone
set_option linter.unusedVariables false
set_option linter.unusedSimpArgs false
/-! ### impl_cmdNumbers: function 126 -/
def impl_cmdNumbers.f (a0_0 a0_1 a0_2 a0_3 a0_4 a0_5 a0_6 a0_7 a0_8 a0_9 : Int) : Option (List Int) := some (([a0_0, a0_1, a0_2, a0_3, a0_4, a0_5, a0_6, a0_7, a0_8, a0_9] : List Int))
set_option maxHeartbeats 8000000 in
set_option maxRecDepth 100000 in
theorem impl_cmdNumbers.calls {a0_0 a0_1 a0_2 a0_3 a0_4 a0_5 a0_6 a0_7 a0_8 a0_9 : Int} {r : List Int} {w : World} (h : impl_cmdNumbers.f a0_0 a0_1 a0_2 a0_3 a0_4 a0_5 a0_6 a0_7 a0_8 a0_9 = some r) :
  Calls Try.prog 126 #[.agg #[.int .i64 a0_0,.int .i64 a0_1,.int .i64 a0_2,.int .i64 a0_3,.int .i64 a0_4,.int .i64 a0_5,.int .i64 a0_6,.int .i64 a0_7,.int .i64 a0_8,.int .i64 a0_9]] w fun e w'=>∃ v0_:Value,e=.returned (v0_)∧Kd.R (Kd.int .i64) 3 w' w.heap.size (fun _=>True) v0_ r∧Below w.heap.size w w':=by
 have hu24:=Try.underlying24;have HB:=mA (Below.refl w.heap.size w);have H:(some (([a0_0,a0_1,a0_2,a0_3,a0_4,a0_5,a0_6,a0_7,a0_8,a0_9]:List Int)))=some r:=h;clear h;obtain ⟨y326,hy326⟩:∃ y_:List Int,y_=(([a0_0,a0_1,a0_2,a0_3,a0_4,a0_5,a0_6,a0_7,a0_8,a0_9]:List Int)):=⟨_,rfl⟩
 replace H:(some y326)=some r:=qH hy326 H
 have Ny326:=mA hy326;clear hy326;obtain rfl:=Option.some.inj H
 go_enter Try.func126,Try.ntmps126
 go_wp2_with (first|((with_reducible refine gLg rfl (by assumption) ?_);refine ldV ?_)|((with_reducible refine gSt rfl (by assumption) ?_);refine stV ?_)|((with_reducible refine gT 1 rfl ?_);refine bX 1 ?_;intro gb325 hg w2 hbox hb;have BK325:=mA hbox;have GW325:=gbpB HB hg;have GE325:=gbpB HB hg;replace HB:=spB HB hb;clear hb hbox hg;have hcz3_0:=fun i_=>blk_cell BK325.out i_;have hfz3_0:=fun i_=>blk_frozen BK325.out i_)|((with_reducible refine gT 23 rfl ?_);refine Kd.R_lit (Kd.int .i64) _ 3 ?hg (N:=23) ?hd (xs:=([a0_0,a0_1,a0_2,a0_3,a0_4,a0_5,a0_6,a0_7,a0_8,a0_9]:List Int)) (inner:=[.int .i64 a0_0,.int .i64 a0_1,.int .i64 a0_2,.int .i64 a0_3,.int .i64 a0_4,.int .i64 a0_5,.int .i64 a0_6,.int .i64 a0_7,.int .i64 a0_8,.int .i64 a0_9]) (ok:=fun _=>True) (okp:=fun _=>True) ?hr ?hp (fun _ hk=>hk) trivial (Below.refl _ _) (Nat.le_refl _) (by simp) ?_;(case hd=>rfl);(case hg=>rfl);(case hr=>first|(go_simp;done)|(go_simp;rfl));(case hp=>repeat (first|exact Reps.none _ _|refine Reps.one (show Kd.M (Kd.int .i64) _ _ _ _ [_] from rfl) ?_));intro v327 w4 ho5 hb hg_ hnew_;clear hg_ hnew_;(first|rw [← Ny326.out] at ho5|(simp only [Int.reduceToNat] at ho5;rw [← Ny326.out] at ho5));have HO328:=mA (Kd.R_lower ho5 (bpS HB));replace BK325:=bK BK325 hb;replace HB:=spS HB hb;clear hb ho5))
 go_ret
 exact ⟨_,by first|rfl|(simp [errW_none,errW_some]<;>rfl)|(simp [*,errW_none,errW_some]<;>rfl),pR HO328.out,pS HB.out⟩
/-! ### impl_piecesNumbers: function 127 -/
def impl_piecesNumbers.l0 : Nat → List Int → List (S138) → Int → Int → Option (List Int)
 | 0,_,_,_,_=>none
 | k+1,x3,x9,x10,x11=>if x11<x10 then (if 0≤x11 then (if x11<(x9.length:Int) then ((some (([(rd_T138 x9 x11).f0,(rd_T138 x9 x11).f1,(rd_T138 x9 x11).f2,(rd_T138 x9 x11).f3]:List Int):List Int)).bind fun y334=>(if x3.length+y334.length<17592186044416 then (impl_piecesNumbers.l0 k (x3 ++ y334) x9 x10 (wrap64 (x11+1))) else (none))) else (none)) else (none)) else (some x3)
def impl_piecesNumbers.f (k : Nat) (l0 : List (S138)) : Option (List Int) := impl_piecesNumbers.l0 k (([(l0.length : Int)] : List Int)) l0 (l0.length : Int) 0
set_option maxHeartbeats 8000000 in
set_option maxRecDepth 100000 in
theorem impl_piecesNumbers.calls {k : Nat} {A0 : Option Addr} {c0 : Nat} {l0 : List (S138)} {r : List Int} {w : World} (hr0 : Kd.C k138 w A0 l0.length l0) (hc0 : l0.length ≤ c0) (h : impl_piecesNumbers.f k l0 = some r) :
  Calls Try.prog 127 #[.slice A0 l0.length c0] w fun e w'=>∃ v0_:Value,e=.returned (v0_)∧Kd.R (Kd.int .i64) 3 w' w.heap.size (fun _=>True) v0_ r∧Below w.heap.size w w':=by
 have hu138:=Try.underlying138;have HR0:=mA hr0;have HC0:=mA hc0;clear hr0 hc0;have HB:=mA (Below.refl w.heap.size w);have H:(impl_piecesNumbers.l0 k (([(l0.length:Int)]:List Int)) l0 (l0.length:Int) 0)=some r:=h;clear h;obtain ⟨y329,hy329⟩:∃ y_:List Int,y_=(([(l0.length:Int)]:List Int)):=⟨_,rfl⟩
 replace H:(impl_piecesNumbers.l0 k y329 l0 (l0.length:Int) 0)=some r:=qH hy329 H
 have Ny329:=mA hy329;clear hy329;have H':=mA H;clear H
 go_enter Try.func127,Try.ntmps127
 go_wp2_with (first|((with_reducible refine gT 8 rfl ?_);refine Kd.R_lit (Kd.int .i64) _ 3 ?hg (N:=8) ?hd (xs:=([(l0.length:Int)]:List Int)) (inner:=[.int .i64 (l0.length:Int)]) (ok:=fun _=>True) (okp:=fun _=>True) ?hr ?hp (fun _ hk=>hk) trivial (Below.refl _ _) (Nat.le_refl _) (by simp) ?_;(case hd=>rfl);(case hg=>rfl);(case hr=>first|(go_simp;done)|(go_simp;rfl));(case hp=>exact (Reps.one (show Kd.M (Kd.int .i64) _ _ _ (l0.length:Int) [.int .i64 (l0.length:Int)] from rfl) (Reps.none _ _)));intro v330 w2 ho3 hb hg_ hnew_;clear hg_ hnew_;(first|rw [← Ny329.out] at ho3|(simp only [Int.reduceToNat] at ho3;rw [← Ny329.out] at ho3));have HO331:=mA (Kd.R_lower ho3 (bpB HB));replace HB:=spB HB hb;clear hb ho3))
 go_loopg [3,11] k (fun kq v3 v11 w'=>∃ (x3_1:List Int) (x11_1:Int),v11=.int .i64 x11_1∧Aside0 (impl_piecesNumbers.l0 kq x3_1 l0 (l0.length:Int) x11_1=some r)∧Aside0 (kq≤k)∧Aside0 (Kd.R (Kd.int .i64) 3 w' w.heap.size (fun _=>True) v3 x3_1)∧Aside0 (Below w.heap.size w w'))
 case atStart=>exact ⟨(y329),(0),bZ,H',⟨Nat.le_refl _⟩,⟨pR HO331.out⟩,⟨pB HB.out⟩⟩
 case round =>
  clear H'
  obtain ⟨x3_1,x11_1,rfl,HA,HK1,HO_3,HB⟩:=hrel
  cases gk with
  | zero=>exact absurd HA.out (by simp [impl_piecesNumbers.l0])
  | succ k1 =>
   have H:=HA.out;clear HA;simp only [impl_piecesNumbers.l0] at H
   by_cases c4:x11_1<(l0.length:Int)
   ·rw [if_pos c4] at H;have c4b0:decide (x11_1<(l0.length:Int))=true:=decide_eq_true c4;clear c4
    by_cases c5:0≤x11_1
    ·rw [if_pos c5] at H;have c5b0:decide (0≤x11_1)=true:=decide_eq_true c5;clear c5
     by_cases c6:x11_1<(l0.length:Int)
     ·rw [if_pos c6] at H;have c6b0:decide (x11_1<(l0.length:Int))=true:=decide_eq_true c6;clear c6;obtain ⟨y334,hy334⟩:∃ y_:List Int,y_=(([(rd_T138 l0 x11_1).f0,(rd_T138 l0 x11_1).f1,(rd_T138 l0 x11_1).f2,(rd_T138 l0 x11_1).f3]:List Int)):=⟨_,rfl⟩
      replace H:(if x3_1.length+y334.length<17592186044416 then (impl_piecesNumbers.l0 k1 (x3_1 ++ y334) l0 (l0.length:Int) (wrap64 (x11_1+1))) else (none))=some r:=qH hy334 H
      have Ny334:=mA hy334;clear hy334
      by_cases c7:x3_1.length+y334.length<17592186044416
      ·rw [if_pos c7] at H;have LMc7:=mA c7;clear c7;obtain ⟨y337,hy337⟩:∃ y_:List Int,y_=(x3_1 ++ y334):=⟨_,rfl⟩
       replace H:(impl_piecesNumbers.l0 k1 y337 l0 (l0.length:Int) (wrap64 (x11_1+1)))=some r:=qH hy337 H
       have Ny337:=mA hy337;clear hy337;have H':=mA H;clear H;have p332:0≤(x11_1:Int):=of_decide_eq_true bA;have q332:x11_1<(l0.length:Int):=of_decide_eq_true bA;obtain ⟨ad332,e332,hx332_0,hx332_1,hx332_2,hx332_3⟩:=at_T138 HR0.out x11_1 p332 q332;cases e332;replace hx332_0:=hC HB hx332_0;replace hx332_1:=hC HB hx332_1;replace hx332_2:=hC HB hx332_2;replace hx332_3:=hC HB hx332_3;replace p332:=eq_true p332;replace q332:=eq_true q332
       go_wp2_with (first|((with_reducible refine gT 5 rfl ?_);refine bJ 5 y138 ?_;intro gb333 hg w8 hbox hb;replace HO_3:=rB HO_3 hb;have BK333:=mA hbox;have GW333:=gbpB HB hg;have GE333:=gbpB HB hg;replace HB:=spB HB hb;clear hb hbox hg;obtain ⟨hcz9_0,hcz9_1,hcz9_2,hcz9_3,hfz9_0,hfz9_1,hfz9_2,hfz9_3⟩:=box4 BK333.out)|((with_reducible refine gT 24 rfl ?_);refine Kd.R_lit (Kd.int .i64) _ 3 ?hg (N:=24) ?hd (xs:=([(rd_T138 l0 x11_1).f0,(rd_T138 l0 x11_1).f1,(rd_T138 l0 x11_1).f2,(rd_T138 l0 x11_1).f3]:List Int)) (inner:=[.int .i64 ((rd_T138 l0 x11_1).f0),.int .i64 ((rd_T138 l0 x11_1).f1),.int .i64 ((rd_T138 l0 x11_1).f2),.int .i64 ((rd_T138 l0 x11_1).f3)]) (ok:=fun _=>True) (okp:=fun _=>True) ?hr ?hp (fun _ hk=>hk) trivial (Below.refl _ _) (Nat.le_refl _) (by simp) ?_;(case hd=>rfl);(case hg=>rfl);(case hr=>first|(go_simp;done)|(go_simp;rfl));(case hp=>repeat (first|exact Reps.none _ _|refine Reps.one (show Kd.M (Kd.int .i64) _ _ _ _ [_] from rfl) ?_));intro v335 w10 ho11 hb hg_ hnew_;clear hg_ hnew_;(first|rw [← Ny334.out] at ho11|(simp only [Int.reduceToNat] at ho11;rw [← Ny334.out] at ho11));have HO336:=mA (Kd.R_lower (Kd.R_new' ho11 (Kd.R_lt (pG HO_3 BK333))) (bpS HB));replace HO_3:=mA (Kd.R_elder' (pG HO_3 BK333) (Kd.R_base ho11) hb);replace BK333:=mA (blk_below (g:=gb333) (o:=.cells #[.int .i64 ((rd_T138 l0 x11_1).f0),.int .i64 ((rd_T138 l0 x11_1).f1),.int .i64 ((rd_T138 l0 x11_1).f2),.int .i64 ((rd_T138 l0 x11_1).f3)] 138 (0,0)) (pP BK333) hb);replace HB:=spS HB hb;clear hb ho11;obtain ⟨Ao13,co13,rfl⟩:=Kd.R_slice HO336.out)|((with_reducible refine gate_builtin (b:=.append) (xs:=#[.tmp 15,.tmp 24]) rfl ?_);at_builtin;refine Kd.R_append_rows (Kd.int .i64) (w0:=w) w.heap.size rfl (.tmp 15) (.tmp 24) 58 3 (.int .i64 0) 8 rfl Try.underlying58 info3 rfl aD (by omega) u3 x3_1 y334 _ _ _ (fun k_=>some k_≠(.slice Ao13 y334.length co13:Value).ownBlock) (fun _=>False) rfl rfl ?aO ?aR (fun _ _ h=>h) (fun _ h=>h.elim) ?aF ?aB ?aS ?aL ?_;(case aR=>exact cR HO336);(case aB=>exact (pS HB.out));(case aF=>exact (fun k_ hk=>Kd.fresh' (rL HO336) k_ hk));(case aO=>exact (pR (Kd.R_mono HO_3.out (fun _ hk=>hk.2))));(case aS=>exact (bpS HB));(case aL=>have:=LMc7.out;omega);intro v338 w12 ho hb hg hat;rw [← Ny337.out] at ho;replace HO336:=mA (Kd.R_after (ok:=(fun _=>True)) (pR HO336.out) hg hat);have HO339:=mA ho;replace BK333:=mA (blk_grown (pK BK333.out) hg (rN HO_3 BK333));replace HB:=mA hb;clear HO_3;clear ho hb hg hat))
       go_roundg k1
       case measure=>have:=HK1.out;omega
       case rel=>exact ⟨(y337),(wrap64 (x11_1+1)),bZ,H',⟨by have:=HK1.out;omega⟩,⟨pR (Kd.R_mono HO339.out (fun _ hk=>trivial))⟩,⟨pS HB.out⟩⟩
      ·rw [if_neg c7] at H
       exact absurd H (by simp)
     ·rw [if_neg c6] at H
      exact absurd H (by simp)
    ·rw [if_neg c5] at H
     exact absurd H (by simp)
   ·rw [if_neg c4] at H;have c4b0:decide (x11_1<(l0.length:Int))=false:=decide_eq_false c4;clear c4;obtain rfl:=Option.some.inj H
    go_wp2
    go_ret
    exact ⟨_,by first|rfl|(simp [errW_none,errW_some]<;>rfl)|(simp [*,errW_none,errW_some]<;>rfl),pR HO_3.out,pB HB.out⟩
/-! ### impl_lastNumbers: function 128 -/
def impl_lastNumbers.l0 : Nat → List Int → List (S140) → Int → Int → Option (List Int)
 | 0,_,_,_,_=>none
 | k+1,x3,x9,x10,x11=>if x11<x10 then (if 0≤x11 then (if x11<(x9.length:Int) then ((some (([(rd_T140 x9 x11).f0,(rd_T140 x9 x11).f1]:List Int):List Int)).bind fun y345=>(if x3.length+y345.length<17592186044416 then (impl_lastNumbers.l0 k (x3 ++ y345) x9 x10 (wrap64 (x11+1))) else (none))) else (none)) else (none)) else (some x3)
def impl_lastNumbers.f (k : Nat) (l0 : List (S140)) : Option (List Int) := impl_lastNumbers.l0 k (([(l0.length : Int)] : List Int)) l0 (l0.length : Int) 0
set_option maxHeartbeats 8000000 in
set_option maxRecDepth 100000 in
theorem impl_lastNumbers.calls {k : Nat} {A0 : Option Addr} {c0 : Nat} {l0 : List (S140)} {r : List Int} {w : World} (hr0 : Kd.C k140 w A0 l0.length l0) (hc0 : l0.length ≤ c0) (h : impl_lastNumbers.f k l0 = some r) :
  Calls Try.prog 128 #[.slice A0 l0.length c0] w fun e w'=>∃ v0_:Value,e=.returned (v0_)∧Kd.R (Kd.int .i64) 3 w' w.heap.size (fun _=>True) v0_ r∧Below w.heap.size w w':=by
 have hu140:=Try.underlying140;have HR0:=mA hr0;have HC0:=mA hc0;clear hr0 hc0;have HB:=mA (Below.refl w.heap.size w);have H:(impl_lastNumbers.l0 k (([(l0.length:Int)]:List Int)) l0 (l0.length:Int) 0)=some r:=h;clear h;obtain ⟨y340,hy340⟩:∃ y_:List Int,y_=(([(l0.length:Int)]:List Int)):=⟨_,rfl⟩
 replace H:(impl_lastNumbers.l0 k y340 l0 (l0.length:Int) 0)=some r:=qH hy340 H
 have Ny340:=mA hy340;clear hy340;have H':=mA H;clear H
 go_enter Try.func128,Try.ntmps128
 go_wp2_with (first|((with_reducible refine gT 8 rfl ?_);refine Kd.R_lit (Kd.int .i64) _ 3 ?hg (N:=8) ?hd (xs:=([(l0.length:Int)]:List Int)) (inner:=[.int .i64 (l0.length:Int)]) (ok:=fun _=>True) (okp:=fun _=>True) ?hr ?hp (fun _ hk=>hk) trivial (Below.refl _ _) (Nat.le_refl _) (by simp) ?_;(case hd=>rfl);(case hg=>rfl);(case hr=>first|(go_simp;done)|(go_simp;rfl));(case hp=>exact (Reps.one (show Kd.M (Kd.int .i64) _ _ _ (l0.length:Int) [.int .i64 (l0.length:Int)] from rfl) (Reps.none _ _)));intro v341 w2 ho3 hb hg_ hnew_;clear hg_ hnew_;(first|rw [← Ny340.out] at ho3|(simp only [Int.reduceToNat] at ho3;rw [← Ny340.out] at ho3));have HO342:=mA (Kd.R_lower ho3 (bpB HB));replace HB:=spB HB hb;clear hb ho3))
 go_loopg [3,11] k (fun kq v3 v11 w'=>∃ (x3_1:List Int) (x11_1:Int),v11=.int .i64 x11_1∧Aside0 (impl_lastNumbers.l0 kq x3_1 l0 (l0.length:Int) x11_1=some r)∧Aside0 (kq≤k)∧Aside0 (Kd.R (Kd.int .i64) 3 w' w.heap.size (fun _=>True) v3 x3_1)∧Aside0 (Below w.heap.size w w'))
 case atStart=>exact ⟨(y340),(0),bZ,H',⟨Nat.le_refl _⟩,⟨pR HO342.out⟩,⟨pB HB.out⟩⟩
 case round =>
  clear H'
  obtain ⟨x3_1,x11_1,rfl,HA,HK1,HO_3,HB⟩:=hrel
  cases gk with
  | zero=>exact absurd HA.out (by simp [impl_lastNumbers.l0])
  | succ k1 =>
   have H:=HA.out;clear HA;simp only [impl_lastNumbers.l0] at H
   by_cases c4:x11_1<(l0.length:Int)
   ·rw [if_pos c4] at H;have c4b0:decide (x11_1<(l0.length:Int))=true:=decide_eq_true c4;clear c4
    by_cases c5:0≤x11_1
    ·rw [if_pos c5] at H;have c5b0:decide (0≤x11_1)=true:=decide_eq_true c5;clear c5
     by_cases c6:x11_1<(l0.length:Int)
     ·rw [if_pos c6] at H;have c6b0:decide (x11_1<(l0.length:Int))=true:=decide_eq_true c6;clear c6;obtain ⟨y345,hy345⟩:∃ y_:List Int,y_=(([(rd_T140 l0 x11_1).f0,(rd_T140 l0 x11_1).f1]:List Int)):=⟨_,rfl⟩
      replace H:(if x3_1.length+y345.length<17592186044416 then (impl_lastNumbers.l0 k1 (x3_1 ++ y345) l0 (l0.length:Int) (wrap64 (x11_1+1))) else (none))=some r:=qH hy345 H
      have Ny345:=mA hy345;clear hy345
      by_cases c7:x3_1.length+y345.length<17592186044416
      ·rw [if_pos c7] at H;have LMc7:=mA c7;clear c7;obtain ⟨y348,hy348⟩:∃ y_:List Int,y_=(x3_1 ++ y345):=⟨_,rfl⟩
       replace H:(impl_lastNumbers.l0 k1 y348 l0 (l0.length:Int) (wrap64 (x11_1+1)))=some r:=qH hy348 H
       have Ny348:=mA hy348;clear hy348;have H':=mA H;clear H;have p343:0≤(x11_1:Int):=of_decide_eq_true bA;have q343:x11_1<(l0.length:Int):=of_decide_eq_true bA;obtain ⟨ad343,e343,hx343_0,hx343_1⟩:=at_T140 HR0.out x11_1 p343 q343;cases e343;replace hx343_0:=hC HB hx343_0;replace hx343_1:=hC HB hx343_1;replace p343:=eq_true p343;replace q343:=eq_true q343
       go_wp2_with (first|((with_reducible refine gT 5 rfl ?_);refine bE 5 #[.int .i64 0,.int .i64 0] 140 ?_;intro gb344 hg w8 hbox hb;replace HO_3:=rB HO_3 hb;have BK344:=mA hbox;have GW344:=gbpB HB hg;have GE344:=gbpB HB hg;replace HB:=spB HB hb;clear hb hbox hg;obtain ⟨hcz9_0,hcz9_1,hfz9_0,hfz9_1⟩:=box2 BK344.out)|((with_reducible refine gT 20 rfl ?_);refine Kd.R_lit (Kd.int .i64) _ 3 ?hg (N:=20) ?hd (xs:=([(rd_T140 l0 x11_1).f0,(rd_T140 l0 x11_1).f1]:List Int)) (inner:=[.int .i64 ((rd_T140 l0 x11_1).f0),.int .i64 ((rd_T140 l0 x11_1).f1)]) (ok:=fun _=>True) (okp:=fun _=>True) ?hr ?hp (fun _ hk=>hk) trivial (Below.refl _ _) (Nat.le_refl _) (by simp) ?_;(case hd=>rfl);(case hg=>rfl);(case hr=>first|(go_simp;done)|(go_simp;rfl));(case hp=>repeat (first|exact Reps.none _ _|refine Reps.one (show Kd.M (Kd.int .i64) _ _ _ _ [_] from rfl) ?_));intro v346 w10 ho11 hb hg_ hnew_;clear hg_ hnew_;(first|rw [← Ny345.out] at ho11|(simp only [Int.reduceToNat] at ho11;rw [← Ny345.out] at ho11));have HO347:=mA (Kd.R_lower (Kd.R_new' ho11 (Kd.R_lt (pG HO_3 BK344))) (bpS HB));replace HO_3:=mA (Kd.R_elder' (pG HO_3 BK344) (Kd.R_base ho11) hb);replace BK344:=mA (blk_below (g:=gb344) (o:=.cells #[.int .i64 ((rd_T140 l0 x11_1).f0),.int .i64 ((rd_T140 l0 x11_1).f1)] 140 (0,0)) (pP BK344) hb);replace HB:=spS HB hb;clear hb ho11;obtain ⟨Ao13,co13,rfl⟩:=Kd.R_slice HO347.out)|((with_reducible refine gate_builtin (b:=.append) (xs:=#[.tmp 15,.tmp 20]) rfl ?_);at_builtin;refine Kd.R_append_rows (Kd.int .i64) (w0:=w) w.heap.size rfl (.tmp 15) (.tmp 20) 58 3 (.int .i64 0) 8 rfl Try.underlying58 info3 rfl aD (by omega) u3 x3_1 y345 _ _ _ (fun k_=>some k_≠(.slice Ao13 y345.length co13:Value).ownBlock) (fun _=>False) rfl rfl ?aO ?aR (fun _ _ h=>h) (fun _ h=>h.elim) ?aF ?aB ?aS ?aL ?_;(case aR=>exact cR HO347);(case aB=>exact (pS HB.out));(case aF=>exact (fun k_ hk=>Kd.fresh' (rL HO347) k_ hk));(case aO=>exact (pR (Kd.R_mono HO_3.out (fun _ hk=>hk.2))));(case aS=>exact (bpS HB));(case aL=>have:=LMc7.out;omega);intro v349 w12 ho hb hg hat;rw [← Ny348.out] at ho;replace HO347:=mA (Kd.R_after (ok:=(fun _=>True)) (pR HO347.out) hg hat);have HO350:=mA ho;replace BK344:=mA (blk_grown (pK BK344.out) hg (rN HO_3 BK344));replace HB:=mA hb;clear HO_3;clear ho hb hg hat))
       go_roundg k1
       case measure=>have:=HK1.out;omega
       case rel=>exact ⟨(y348),(wrap64 (x11_1+1)),bZ,H',⟨by have:=HK1.out;omega⟩,⟨pR (Kd.R_mono HO350.out (fun _ hk=>trivial))⟩,⟨pS HB.out⟩⟩
      ·rw [if_neg c7] at H
       exact absurd H (by simp)
     ·rw [if_neg c6] at H
      exact absurd H (by simp)
    ·rw [if_neg c5] at H
     exact absurd H (by simp)
   ·rw [if_neg c4] at H;have c4b0:decide (x11_1<(l0.length:Int))=false:=decide_eq_false c4;clear c4;obtain rfl:=Option.some.inj H
    go_wp2
    go_ret
    exact ⟨_,by first|rfl|(simp [errW_none,errW_some]<;>rfl)|(simp [*,errW_none,errW_some]<;>rfl),pR HO_3.out,pB HB.out⟩
/-! ### impl_wordNumbers: function 62 -/
def impl_wordNumbers.f (k : Nat) (a0_0 a0_1 a0_2 a0_3 a0_4 a0_5 a0_6 a0_7 a0_8 a0_9 a0_10 a0_11 a0_12 a0_13 a0_14 a0_15 a0_16 a0_17 a0_18 a0_19 a0_20 a0_21 a0_22 a0_23 : Int) (l0_24 : List (S138)) (l0_25 : List (S140)) : Option (List Int) := (some (([a0_0, a0_1, a0_2, a0_3, a0_4, a0_5] : List Int) : List Int)).bind fun y352 => ((impl_cmdNumbers.f a0_6 a0_7 a0_8 a0_9 a0_10 a0_11 a0_12 a0_13 a0_14 a0_15).bind fun t355 => (if y352.length + t355.length < 17592186044416 then ((some (y352 ++ t355 : List Int)).bind fun y358 => ((some (([a0_16, a0_17, a0_18, a0_19, a0_20, a0_21, a0_22, a0_23] : List Int) : List Int)).bind fun y361 => (if y358.length + y361.length < 17592186044416 then ((some (y358 ++ y361 : List Int)).bind fun y364 => ((impl_piecesNumbers.f k l0_24).bind fun t367 => (if y364.length + t367.length < 17592186044416 then ((some (y364 ++ t367 : List Int)).bind fun y370 => ((impl_lastNumbers.f k l0_25).bind fun t373 => (if y370.length + t373.length < 17592186044416 then (some (y370 ++ t373)) else (none)))) else (none)))) else (none)))) else (none)))
set_option maxHeartbeats 8000000 in
set_option maxRecDepth 100000 in
theorem impl_wordNumbers.calls {k : Nat} {a0_0 a0_1 a0_2 a0_3 a0_4 a0_5 a0_6 a0_7 a0_8 a0_9 a0_10 a0_11 a0_12 a0_13 a0_14 a0_15 a0_16 a0_17 a0_18 a0_19 a0_20 a0_21 a0_22 a0_23 : Int} {A0_24 : Option Addr} {c0_24 : Nat} {l0_24 : List (S138)} {A0_25 : Option Addr} {c0_25 : Nat} {l0_25 : List (S140)} {r : List Int} {w : World} (hr0_24 : Kd.C k138 w A0_24 l0_24.length l0_24) (hc0_24 : l0_24.length ≤ c0_24) (hr0_25 : Kd.C k140 w A0_25 l0_25.length l0_25) (hc0_25 : l0_25.length ≤ c0_25) (h : impl_wordNumbers.f k a0_0 a0_1 a0_2 a0_3 a0_4 a0_5 a0_6 a0_7 a0_8 a0_9 a0_10 a0_11 a0_12 a0_13 a0_14 a0_15 a0_16 a0_17 a0_18 a0_19 a0_20 a0_21 a0_22 a0_23 l0_24 l0_25 = some r) :
  Calls Try.prog 62 #[.agg #[.int .i64 a0_0,.int .i64 a0_1,.int .i64 a0_2,.int .i64 a0_3,.int .i64 a0_4,.int .i64 a0_5,.int .i64 a0_6,.int .i64 a0_7,.int .i64 a0_8,.int .i64 a0_9,.int .i64 a0_10,.int .i64 a0_11,.int .i64 a0_12,.int .i64 a0_13,.int .i64 a0_14,.int .i64 a0_15,.int .i64 a0_16,.int .i64 a0_17,.int .i64 a0_18,.int .i64 a0_19,.int .i64 a0_20,.int .i64 a0_21,.int .i64 a0_22,.int .i64 a0_23,.slice A0_24 l0_24.length c0_24,.slice A0_25 l0_25.length c0_25]] w fun e w'=>∃ v0_:Value,e=.returned (v0_)∧Kd.R (Kd.int .i64) 3 w' w.heap.size (fun _=>True) v0_ r∧Below w.heap.size w w':=by
 have hu28:=Try.underlying28;have hu24:=Try.underlying24;have HR0_24:=mA hr0_24;have HC0_24:=mA hc0_24;clear hr0_24 hc0_24;have HR0_25:=mA hr0_25;have HC0_25:=mA hc0_25;clear hr0_25 hc0_25;have HB:=mA (Below.refl w.heap.size w);have H:((some (([a0_0,a0_1,a0_2,a0_3,a0_4,a0_5]:List Int):List Int)).bind fun y352=>((impl_cmdNumbers.f a0_6 a0_7 a0_8 a0_9 a0_10 a0_11 a0_12 a0_13 a0_14 a0_15).bind fun t355=>(if y352.length+t355.length<17592186044416 then ((some (y352 ++ t355:List Int)).bind fun y358=>((some (([a0_16,a0_17,a0_18,a0_19,a0_20,a0_21,a0_22,a0_23]:List Int):List Int)).bind fun y361=>(if y358.length+y361.length<17592186044416 then ((some (y358 ++ y361:List Int)).bind fun y364=>((impl_piecesNumbers.f k l0_24).bind fun t367=>(if y364.length+t367.length<17592186044416 then ((some (y364 ++ t367:List Int)).bind fun y370=>((impl_lastNumbers.f k l0_25).bind fun t373=>(if y370.length+t373.length<17592186044416 then (some (y370 ++ t373)) else (none)))) else (none)))) else (none)))) else (none))))=some r:=h;clear h;obtain ⟨y352,hy352⟩:∃ y_:List Int,y_=(([a0_0,a0_1,a0_2,a0_3,a0_4,a0_5]:List Int)):=⟨_,rfl⟩
 replace H:((impl_cmdNumbers.f a0_6 a0_7 a0_8 a0_9 a0_10 a0_11 a0_12 a0_13 a0_14 a0_15).bind fun t355=>(if y352.length+t355.length<17592186044416 then ((some (y352 ++ t355:List Int)).bind fun y358=>((some (([a0_16,a0_17,a0_18,a0_19,a0_20,a0_21,a0_22,a0_23]:List Int):List Int)).bind fun y361=>(if y358.length+y361.length<17592186044416 then ((some (y358 ++ y361:List Int)).bind fun y364=>((impl_piecesNumbers.f k l0_24).bind fun t367=>(if y364.length+t367.length<17592186044416 then ((some (y364 ++ t367:List Int)).bind fun y370=>((impl_lastNumbers.f k l0_25).bind fun t373=>(if y370.length+t373.length<17592186044416 then (some (y370 ++ t373)) else (none)))) else (none)))) else (none)))) else (none)))=some r:=qH hy352 H
 have Ny352:=mA hy352;clear hy352;obtain ⟨t355,A2,H⟩:=bI H;(try dsimp only at H)
 by_cases c3:y352.length+t355.length<17592186044416
 ·rw [if_pos c3] at H;have LMc3:=mA c3;clear c3;obtain ⟨y358,hy358⟩:∃ y_:List Int,y_=(y352 ++ t355):=⟨_,rfl⟩
  replace H:((some (([a0_16,a0_17,a0_18,a0_19,a0_20,a0_21,a0_22,a0_23]:List Int):List Int)).bind fun y361=>(if y358.length+y361.length<17592186044416 then ((some (y358 ++ y361:List Int)).bind fun y364=>((impl_piecesNumbers.f k l0_24).bind fun t367=>(if y364.length+t367.length<17592186044416 then ((some (y364 ++ t367:List Int)).bind fun y370=>((impl_lastNumbers.f k l0_25).bind fun t373=>(if y370.length+t373.length<17592186044416 then (some (y370 ++ t373)) else (none)))) else (none)))) else (none)))=some r:=qH hy358 H
  have Ny358:=mA hy358;clear hy358;obtain ⟨y361,hy361⟩:∃ y_:List Int,y_=(([a0_16,a0_17,a0_18,a0_19,a0_20,a0_21,a0_22,a0_23]:List Int)):=⟨_,rfl⟩
  replace H:(if y358.length+y361.length<17592186044416 then ((some (y358 ++ y361:List Int)).bind fun y364=>((impl_piecesNumbers.f k l0_24).bind fun t367=>(if y364.length+t367.length<17592186044416 then ((some (y364 ++ t367:List Int)).bind fun y370=>((impl_lastNumbers.f k l0_25).bind fun t373=>(if y370.length+t373.length<17592186044416 then (some (y370 ++ t373)) else (none)))) else (none)))) else (none))=some r:=qH hy361 H
  have Ny361:=mA hy361;clear hy361
  by_cases c4:y358.length+y361.length<17592186044416
  ·rw [if_pos c4] at H;have LMc4:=mA c4;clear c4;obtain ⟨y364,hy364⟩:∃ y_:List Int,y_=(y358 ++ y361):=⟨_,rfl⟩
   replace H:((impl_piecesNumbers.f k l0_24).bind fun t367=>(if y364.length+t367.length<17592186044416 then ((some (y364 ++ t367:List Int)).bind fun y370=>((impl_lastNumbers.f k l0_25).bind fun t373=>(if y370.length+t373.length<17592186044416 then (some (y370 ++ t373)) else (none)))) else (none)))=some r:=qH hy364 H
   have Ny364:=mA hy364;clear hy364;obtain ⟨t367,A5,H⟩:=bI H;(try dsimp only at H)
   by_cases c6:y364.length+t367.length<17592186044416
   ·rw [if_pos c6] at H;have LMc6:=mA c6;clear c6;obtain ⟨y370,hy370⟩:∃ y_:List Int,y_=(y364 ++ t367):=⟨_,rfl⟩
    replace H:((impl_lastNumbers.f k l0_25).bind fun t373=>(if y370.length+t373.length<17592186044416 then (some (y370 ++ t373)) else (none)))=some r:=qH hy370 H
    have Ny370:=mA hy370;clear hy370;obtain ⟨t373,A7,H⟩:=bI H;(try dsimp only at H)
    by_cases c8:y370.length+t373.length<17592186044416
    ·rw [if_pos c8] at H;have LMc8:=mA c8;clear c8;obtain ⟨y376,hy376⟩:∃ y_:List Int,y_=(y370 ++ t373):=⟨_,rfl⟩
     replace H:(some y376)=some r:=qH hy376 H
     have Ny376:=mA hy376;clear hy376;obtain rfl:=Option.some.inj H
     go_enter Try.func62,Try.ntmps62
     go_wp2_with (first|((with_reducible refine gLg rfl (by assumption) ?_);refine ldV ?_)|((with_reducible refine gSt rfl (by assumption) ?_);refine stV ?_)|((with_reducible refine gT 1 rfl ?_);refine bX 1 ?_;intro gb351 hg w9 hbox hb;have BK351:=mA hbox;have GW351:=gbpB HB hg;have GE351:=gbpB HB hg;replace HB:=spB HB hb;clear hb hbox hg;have hcz10_0:=fun i_=>blk_cell BK351.out i_;have hfz10_0:=fun i_=>blk_frozen BK351.out i_)|((with_reducible refine gT 16 rfl ?_);refine Kd.R_lit (Kd.int .i64) _ 3 ?hg (N:=16) ?hd (xs:=([a0_0,a0_1,a0_2,a0_3,a0_4,a0_5]:List Int)) (inner:=[.int .i64 a0_0,.int .i64 a0_1,.int .i64 a0_2,.int .i64 a0_3,.int .i64 a0_4,.int .i64 a0_5]) (ok:=fun _=>True) (okp:=fun _=>True) ?hr ?hp (fun _ hk=>hk) trivial (Below.refl _ _) (Nat.le_refl _) (by simp) ?_;(case hd=>rfl);(case hg=>rfl);(case hr=>first|(go_simp;done)|(go_simp;rfl));(case hp=>repeat (first|exact Reps.none _ _|refine Reps.one (show Kd.M (Kd.int .i64) _ _ _ _ [_] from rfl) ?_));intro v353 w11 ho12 hb hg_ hnew_;clear hg_ hnew_;(first|rw [← Ny352.out] at ho12|(simp only [Int.reduceToNat] at ho12;rw [← Ny352.out] at ho12));have HO354:=mA (Kd.R_lower ho12 (bpS HB));replace BK351:=bK BK351 hb;replace HB:=spS HB hb;clear hb ho12;have hcz13_0:=fun i_=>blk_cell BK351.out i_;have hfz13_0:=fun i_=>blk_frozen BK351.out i_)|((with_reducible refine gT 20 rfl ?_);refine gC (some 20) Try.func126 (impl_cmdNumbers.calls A2.out) ?_;rintro e w14 ⟨v356,rfl,ho0,hb⟩;refine ⟨_,rfl,?_⟩;have HO357:=mA (Kd.R_lower (Kd.R_new' ho0 (rL HO354)) (bpS HB));replace HO354:=rE HO354 ho0 hb;replace BK351:=bK BK351 hb;replace HB:=spS HB hb;(try clear hb);(try clear ho0);obtain ⟨Ao16,co16,rfl⟩:=Kd.R_slice HO357.out)|((with_reducible refine gate_builtin (b:=.append) (xs:=#[.tmp 17,.tmp 20]) rfl ?_);at_builtin;refine Kd.R_append_rows (Kd.int .i64) (w0:=w) w.heap.size rfl (.tmp 17) (.tmp 20) 58 3 (.int .i64 0) 8 rfl Try.underlying58 info3 rfl aD (by omega) v353 y352 t355 _ _ _ (fun k_=>some k_≠(.slice Ao16 t355.length co16:Value).ownBlock) (fun _=>False) rfl rfl ?aO ?aR (fun _ _ h=>h) (fun _ h=>h.elim) ?aF ?aB ?aS ?aL ?_;(case aR=>exact cR HO357);(case aB=>exact (pS HB.out));(case aF=>exact (fun k_ hk=>Kd.fresh' (rL HO357) k_ hk));(case aO=>exact (pR (Kd.R_mono HO354.out (fun _ hk=>hk.2))));(case aS=>exact (bpS HB));(case aL=>have:=LMc3.out;omega);intro v359 w15 ho hb hg hat;rw [← Ny358.out] at ho;replace HO357:=mA (Kd.R_after (ok:=(fun _=>True)) (pR HO357.out) hg hat);have HO360:=mA ho;replace BK351:=mA (blk_grown (pK BK351.out) hg (rN HO354 BK351));replace HB:=mA hb;clear HO354;clear ho hb hg hat;have hcz17_0:=fun i_=>blk_cell BK351.out i_;have hfz17_0:=fun i_=>blk_frozen BK351.out i_)|((with_reducible refine gT 39 rfl ?_);refine Kd.R_lit (Kd.int .i64) _ 3 ?hg (N:=39) ?hd (xs:=([a0_16,a0_17,a0_18,a0_19,a0_20,a0_21,a0_22,a0_23]:List Int)) (inner:=[.int .i64 a0_16,.int .i64 a0_17,.int .i64 a0_18,.int .i64 a0_19,.int .i64 a0_20,.int .i64 a0_21,.int .i64 a0_22,.int .i64 a0_23]) (ok:=fun _=>True) (okp:=fun _=>True) ?hr ?hp (fun _ hk=>hk) trivial (Below.refl _ _) (Nat.le_refl _) (by simp) ?_;(case hd=>rfl);(case hg=>rfl);(case hr=>first|(go_simp;done)|(go_simp;rfl));(case hp=>repeat (first|exact Reps.none _ _|refine Reps.one (show Kd.M (Kd.int .i64) _ _ _ _ [_] from rfl) ?_));intro v362 w18 ho19 hb hg_ hnew_;clear hg_ hnew_;(first|rw [← Ny361.out] at ho19|(simp only [Int.reduceToNat] at ho19;rw [← Ny361.out] at ho19));have HO363:=mA (Kd.R_lower (Kd.R_new' (Kd.R_new' ho19 (rL HO357)) (rL HO360)) (bpS HB));replace HO357:=rE HO357 ho19 hb;replace HO360:=rE HO360 ho19 hb;replace BK351:=bK BK351 hb;replace HB:=spS HB hb;clear hb ho19;obtain ⟨Ao21,co21,rfl⟩:=Kd.R_slice HO363.out)|((with_reducible refine gate_builtin (b:=.append) (xs:=#[.tmp 22,.tmp 39]) rfl ?_);at_builtin;refine Kd.R_append_rows (Kd.int .i64) (w0:=w) w.heap.size rfl (.tmp 22) (.tmp 39) 58 3 (.int .i64 0) 8 rfl Try.underlying58 info3 rfl aD (by omega) v359 y358 y361 _ _ _ (fun k_=>some k_≠(.slice Ao16 t355.length co16:Value).ownBlock∧some k_≠(.slice Ao21 y361.length co21:Value).ownBlock) (fun _=>False) rfl rfl ?aO ?aR (fun _ _ h=>h) (fun _ h=>h.elim) ?aF ?aB ?aS ?aL ?_;(case aR=>exact cR HO363);(case aB=>exact (pS HB.out));(case aF=>exact (fun k_ hk=>⟨Kd.fresh' (rL HO357) k_ hk,Kd.fresh' (rL HO363) k_ hk⟩));(case aO=>exact (pR HO360.out));(case aS=>exact (bpS HB));(case aL=>have:=LMc4.out;omega);intro v365 w20 ho hb hg hat;rw [← Ny364.out] at ho;replace HO357:=mA (Kd.R_after (ok:=(fun k_=>some k_≠(.slice Ao21 y361.length co21:Value).ownBlock)) (pR (Kd.R_mono HO357.out (fun _ hk=>⟨hk.2,hk.1.2⟩))) hg hat);replace HO363:=mA (Kd.R_after (ok:=(fun k_=>some k_≠(.slice Ao16 t355.length co16:Value).ownBlock)) (pR (Kd.R_mono HO363.out (fun _ hk=>⟨hk.1.2,hk.2⟩))) hg hat);have HO366:=mA ho;replace BK351:=mA (blk_grown (pK BK351.out) hg (rN HO360 BK351));replace HB:=mA hb;clear HO360;clear ho hb hg hat;have hcz22_0:=fun i_=>blk_cell BK351.out i_;have hfz22_0:=fun i_=>blk_frozen BK351.out i_)|((with_reducible refine gT 44 rfl ?_);refine gC (some 44) Try.func127 (impl_piecesNumbers.calls (cB HR0_24 HB) HC0_24.out A5.out) ?_;rintro e w23 ⟨v368,rfl,ho0,hb⟩;refine ⟨_,rfl,?_⟩;have HO369:=mA (Kd.R_lower (Kd.R_new' (Kd.R_new' (Kd.R_new' ho0 (rL HO357)) (rL HO363)) (rL HO366)) (bpS HB));replace HO357:=rE HO357 ho0 hb;replace HO363:=rE HO363 ho0 hb;replace HO366:=rE HO366 ho0 hb;replace BK351:=bK BK351 hb;replace HB:=spS HB hb;(try clear hb);(try clear ho0);obtain ⟨Ao25,co25,rfl⟩:=Kd.R_slice HO369.out)|((with_reducible refine gate_builtin (b:=.append) (xs:=#[.tmp 41,.tmp 44]) rfl ?_);at_builtin;refine Kd.R_append_rows (Kd.int .i64) (w0:=w) w.heap.size rfl (.tmp 41) (.tmp 44) 58 3 (.int .i64 0) 8 rfl Try.underlying58 info3 rfl aD (by omega) v365 y364 t367 _ _ _ (fun k_=>some k_≠(.slice Ao16 t355.length co16:Value).ownBlock∧some k_≠(.slice Ao21 y361.length co21:Value).ownBlock∧some k_≠(.slice Ao25 t367.length co25:Value).ownBlock) (fun _=>False) rfl rfl ?aO ?aR (fun _ _ h=>h) (fun _ h=>h.elim) ?aF ?aB ?aS ?aL ?_;(case aR=>exact cR HO369);(case aB=>exact (pS HB.out));(case aF=>exact (fun k_ hk=>⟨Kd.fresh' (rL HO357) k_ hk,Kd.fresh' (rL HO363) k_ hk,Kd.fresh' (rL HO369) k_ hk⟩));(case aO=>exact (pR (Kd.R_mono HO366.out (fun _ hk=>⟨hk.1.1,⟨hk.1.2,hk.2⟩⟩))));(case aS=>exact (bpS HB));(case aL=>have:=LMc6.out;omega);intro v371 w24 ho hb hg hat;rw [← Ny370.out] at ho;replace HO357:=mA (Kd.R_after (ok:=(fun k_=>some k_≠(.slice Ao21 y361.length co21:Value).ownBlock∧some k_≠(.slice Ao25 t367.length co25:Value).ownBlock)) (pR (Kd.R_mono HO357.out (fun _ hk=>⟨⟨hk.1.1,hk.2⟩,hk.1.2⟩))) hg hat);replace HO363:=mA (Kd.R_after (ok:=(fun k_=>some k_≠(.slice Ao16 t355.length co16:Value).ownBlock∧some k_≠(.slice Ao25 t367.length co25:Value).ownBlock)) (pR (Kd.R_mono HO363.out (fun _ hk=>⟨⟨hk.1.1,hk.2⟩,hk.1.2⟩))) hg hat);replace HO369:=mA (Kd.R_after (ok:=(fun k_=>some k_≠(.slice Ao16 t355.length co16:Value).ownBlock∧some k_≠(.slice Ao21 y361.length co21:Value).ownBlock)) (pR (Kd.R_mono HO369.out (fun _ hk=>⟨⟨hk.1.1.2,hk.1.2⟩,hk.2⟩))) hg hat);have HO372:=mA ho;replace BK351:=mA (blk_grown (pK BK351.out) hg (rN HO366 BK351));replace HB:=mA hb;clear HO366;clear ho hb hg hat;have hcz26_0:=fun i_=>blk_cell BK351.out i_;have hfz26_0:=fun i_=>blk_frozen BK351.out i_)|((with_reducible refine gT 49 rfl ?_);refine gC (some 49) Try.func128 (impl_lastNumbers.calls (cB HR0_25 HB) HC0_25.out A7.out) ?_;rintro e w27 ⟨v374,rfl,ho0,hb⟩;refine ⟨_,rfl,?_⟩;have HO375:=mA (Kd.R_lower (Kd.R_new' (Kd.R_new' (Kd.R_new' (Kd.R_new' ho0 (rL HO357)) (rL HO363)) (rL HO369)) (rL HO372)) (bpS HB));replace HO357:=rE HO357 ho0 hb;replace HO363:=rE HO363 ho0 hb;replace HO369:=rE HO369 ho0 hb;replace HO372:=rE HO372 ho0 hb;replace BK351:=bK BK351 hb;replace HB:=spS HB hb;(try clear hb);(try clear ho0);obtain ⟨Ao29,co29,rfl⟩:=Kd.R_slice HO375.out)|((with_reducible refine gate_builtin (b:=.append) (xs:=#[.tmp 46,.tmp 49]) rfl ?_);at_builtin;refine Kd.R_append_rows (Kd.int .i64) (w0:=w) w.heap.size rfl (.tmp 46) (.tmp 49) 58 3 (.int .i64 0) 8 rfl Try.underlying58 info3 rfl aD (by omega) v371 y370 t373 _ _ _ (fun k_=>some k_≠(.slice Ao16 t355.length co16:Value).ownBlock∧some k_≠(.slice Ao21 y361.length co21:Value).ownBlock∧some k_≠(.slice Ao25 t367.length co25:Value).ownBlock∧some k_≠(.slice Ao29 t373.length co29:Value).ownBlock) (fun _=>False) rfl rfl ?aO ?aR (fun _ _ h=>h) (fun _ h=>h.elim) ?aF ?aB ?aS ?aL ?_;(case aR=>exact cR HO375);(case aB=>exact (pS HB.out));(case aF=>exact (fun k_ hk=>⟨Kd.fresh' (rL HO357) k_ hk,Kd.fresh' (rL HO363) k_ hk,Kd.fresh' (rL HO369) k_ hk,Kd.fresh' (rL HO375) k_ hk⟩));(case aO=>exact (pR (Kd.R_mono HO372.out (fun _ hk=>⟨hk.1.1,⟨hk.1.2.1,⟨hk.1.2.2,hk.2⟩⟩⟩))));(case aS=>exact (bpS HB));(case aL=>have:=LMc8.out;omega);intro v377 w28 ho hb hg hat;rw [← Ny376.out] at ho;replace HO357:=mA (Kd.R_after (ok:=(fun k_=>some k_≠(.slice Ao21 y361.length co21:Value).ownBlock∧some k_≠(.slice Ao25 t367.length co25:Value).ownBlock∧some k_≠(.slice Ao29 t373.length co29:Value).ownBlock)) (pR (Kd.R_mono HO357.out (fun _ hk=>⟨⟨hk.1.1.1,⟨hk.1.1.2,hk.2⟩⟩,hk.1.2⟩))) hg hat);replace HO363:=mA (Kd.R_after (ok:=(fun k_=>some k_≠(.slice Ao16 t355.length co16:Value).ownBlock∧some k_≠(.slice Ao25 t367.length co25:Value).ownBlock∧some k_≠(.slice Ao29 t373.length co29:Value).ownBlock)) (pR (Kd.R_mono HO363.out (fun _ hk=>⟨⟨hk.1.1.1,⟨hk.1.1.2,hk.2⟩⟩,hk.1.2⟩))) hg hat);replace HO369:=mA (Kd.R_after (ok:=(fun k_=>some k_≠(.slice Ao16 t355.length co16:Value).ownBlock∧some k_≠(.slice Ao21 y361.length co21:Value).ownBlock∧some k_≠(.slice Ao29 t373.length co29:Value).ownBlock)) (pR (Kd.R_mono HO369.out (fun _ hk=>⟨⟨hk.1.1.1,⟨hk.1.1.2,hk.2⟩⟩,hk.1.2⟩))) hg hat);replace HO375:=mA (Kd.R_after (ok:=(fun k_=>some k_≠(.slice Ao16 t355.length co16:Value).ownBlock∧some k_≠(.slice Ao21 y361.length co21:Value).ownBlock∧some k_≠(.slice Ao25 t367.length co25:Value).ownBlock)) (pR (Kd.R_mono HO375.out (fun _ hk=>⟨⟨hk.1.1.1.2,⟨hk.1.1.2,hk.1.2⟩⟩,hk.2⟩))) hg hat);have HO378:=mA ho;replace BK351:=mA (blk_grown (pK BK351.out) hg (rN HO372 BK351));replace HB:=mA hb;clear HO372;clear ho hb hg hat))
     go_ret
     exact ⟨_,by first|rfl|(simp [errW_none,errW_some]<;>rfl)|(simp [*,errW_none,errW_some]<;>rfl),pR (Kd.R_mono HO378.out (fun _ hk=>trivial)),pS HB.out⟩
    ·rw [if_neg c8] at H
     exact absurd H (by simp)
   ·rw [if_neg c6] at H
    exact absurd H (by simp)
  ·rw [if_neg c4] at H
   exact absurd H (by simp)
 ·rw [if_neg c3] at H
  exact absurd H (by simp)
/-! ### impl_in: function 74 -/
def impl_in.f (a0 a1 a2 : Int) : Option (Bool) := if a0 ≥ a1 then (some (decide (a0 ≤ a2))) else (some false)
set_option maxHeartbeats 8000000 in
set_option maxRecDepth 100000 in
theorem impl_in.calls {a0 a1 a2 : Int} {r : Bool} {w : World} (h : impl_in.f a0 a1 a2 = some r) :
  Calls Try.prog 74 #[.int .i64 a0,.int .i64 a1,.int .i64 a2] w fun e w'=>e=.returned (.bool r)∧Drawn0 w w':=by
 have H:(if a0 ≥ a1 then (some (decide (a0≤a2))) else (some false))=some r:=h;clear h
 by_cases c4:a0 ≥ a1
 ·rw [if_pos c4] at H;have c4b0:decide (a1≤a0)=true:=decide_eq_true c4;clear c4;obtain rfl:=Option.some.inj H
  go_enter Try.func74,Try.ntmps74
  go_wp2
  go_ret
  exact ⟨by first|rfl|(simp;done)|(simp [*];done),by repeat (first|exact Drawn0.refl _|apply Drawn0.step)⟩
 ·rw [if_neg c4] at H;have c4b0:decide (a1≤a0)=false:=decide_eq_false c4;clear c4;obtain rfl:=Option.some.inj H
  go_enter Try.func74,Try.ntmps74
  go_wp2
  go_ret
  exact ⟨by first|rfl|(simp;done)|(simp [*];done),by repeat (first|exact Drawn0.refl _|apply Drawn0.step)⟩
/-! ### impl_isServer: function 98 -/
def impl_isServer.f (a0 : Int) : Option (Bool) := (impl_in.f a0 0 4).bind fun t379 => (some t379)
set_option maxHeartbeats 8000000 in
set_option maxRecDepth 100000 in
theorem impl_isServer.calls {a0 : Int} {r : Bool} {w : World} (h : impl_isServer.f a0 = some r) :
  Calls Try.prog 98 #[.int .i64 a0] w fun e w'=>e=.returned (.bool r)∧Drawn0 w w':=by
 have H:((impl_in.f a0 0 4).bind fun t379=>(some t379))=some r:=h;clear h;obtain ⟨t379,A2,H⟩:=bI H;(try dsimp only at H);obtain rfl:=Option.some.inj H
 go_enter Try.func98,Try.ntmps98
 go_wp2_with (first|((with_reducible refine gT 4 rfl ?_);refine gC (some 4) Try.func74 (impl_in.calls A2.out) ?_;rintro e w' ⟨rfl,⟨nd,rfl⟩⟩;refine ⟨_,rfl,?_⟩))
 go_ret
 exact ⟨by first|rfl|(simp;done)|(simp [*];done),by repeat (first|exact Drawn0.refl _|apply Drawn0.step)⟩
/-! ### impl_isClient: function 132 -/
def impl_isClient.f (a0 : Int) : Option (Bool) := (impl_in.f a0 0 3).bind fun t380 => (some t380)
set_option maxHeartbeats 8000000 in
set_option maxRecDepth 100000 in
theorem impl_isClient.calls {a0 : Int} {r : Bool} {w : World} (h : impl_isClient.f a0 = some r) :
  Calls Try.prog 132 #[.int .i64 a0] w fun e w'=>e=.returned (.bool r)∧Drawn0 w w':=by
 have H:((impl_in.f a0 0 3).bind fun t380=>(some t380))=some r:=h;clear h;obtain ⟨t380,A2,H⟩:=bI H;(try dsimp only at H);obtain rfl:=Option.some.inj H
 go_enter Try.func132,Try.ntmps132
 go_wp2_with (first|((with_reducible refine gT 4 rfl ?_);refine gC (some 4) Try.func74 (impl_in.calls A2.out) ?_;rintro e w' ⟨rfl,⟨nd,rfl⟩⟩;refine ⟨_,rfl,?_⟩))
 go_ret
 exact ⟨by first|rfl|(simp;done)|(simp [*];done),by repeat (first|exact Drawn0.refl _|apply Drawn0.step)⟩
/-! ### impl_isPlace: function 75 -/
def impl_isPlace.f (a0 : Int) : Option (Bool) := (impl_isServer.f a0).bind fun t381 => (if t381 = true then (some true) else ((impl_isClient.f (wrap64 (a0 - 100))).bind fun t382 => (some t382)))
set_option maxHeartbeats 8000000 in
set_option maxRecDepth 100000 in
theorem impl_isPlace.calls {a0 : Int} {r : Bool} {w : World} (h : impl_isPlace.f a0 = some r) :
  Calls Try.prog 75 #[.int .i64 a0] w fun e w'=>e=.returned (.bool r)∧Drawn0 w w':=by
 have H:((impl_isServer.f a0).bind fun t381=>(if t381=true then (some true) else ((impl_isClient.f (wrap64 (a0 - 100))).bind fun t382=>(some t382))))=some r:=h;clear h;obtain ⟨t381,A2,H⟩:=bI H;(try dsimp only at H)
 by_cases c3:t381=true
 ·subst c3;rw [if_pos rfl] at H;obtain rfl:=Option.some.inj H
  go_enter Try.func75,Try.ntmps75
  go_wp2_with (first|((with_reducible refine gT 4 rfl ?_);refine gC (some 4) Try.func98 (impl_isServer.calls A2.out) ?_;rintro e w' ⟨rfl,⟨nd,rfl⟩⟩;refine ⟨_,rfl,?_⟩))
  go_ret
  exact ⟨by first|rfl|(simp;done)|(simp [*];done),by repeat (first|exact Drawn0.refl _|apply Drawn0.step)⟩
 ·replace c3:=Bool.eq_false_iff.mpr c3;subst c3
  rw [if_neg nFT] at H
  obtain ⟨t382,A4,H⟩:=bI H;(try dsimp only at H);obtain rfl:=Option.some.inj H
  go_enter Try.func75,Try.ntmps75
  go_wp2_with (first|((with_reducible refine gT 4 rfl ?_);refine gC (some 4) Try.func98 (impl_isServer.calls A2.out) ?_;rintro e w' ⟨rfl,⟨nd,rfl⟩⟩;refine ⟨_,rfl,?_⟩)|(go_at_call 132;(with_reducible refine (impl_isClient.calls A4.out).mono ?_);rintro e w' ⟨rfl,⟨nd,rfl⟩⟩))
  go_ret
  exact ⟨by first|rfl|(simp;done)|(simp [*];done),by repeat (first|exact Drawn0.refl _|apply Drawn0.step)⟩
/-! ### impl_numbersOk: function 79 -/
def impl_numbersOk.l0 : Nat → List Int → Int → Int → Option (Bool)
 | 0,_,_,_=>none
 | k+1,x5,x6,x7=>if x7<x6 then (if 0≤x7 then (if x7<(x5.length:Int) then ((impl_in.f (rd x5 x7) (-1) 99999).bind fun t384=>(if t384=true then (impl_numbersOk.l0 k x5 x6 (wrap64 (x7+1))) else (some false))) else (none)) else (none)) else (some true)
def impl_numbersOk.f (k : Nat) (l0 : List Int) : Option (Bool) := impl_numbersOk.l0 k l0 (l0.length : Int) 0
set_option maxHeartbeats 8000000 in
set_option maxRecDepth 100000 in
theorem impl_numbersOk.calls {k : Nat} {A0 : Option Addr} {c0 : Nat} {l0 : List Int} {r : Bool} {w : World} (hr0 : Kd.C (Kd.int .i64) w A0 l0.length l0) (hc0 : l0.length ≤ c0) (h : impl_numbersOk.f k l0 = some r) :
  Calls Try.prog 79 #[.slice A0 l0.length c0] w fun e w'=>e=.returned (.bool r)∧Drawn0 w w':=by
 have HR0:=mA hr0;have HC0:=mA hc0;clear hr0 hc0;have H:(impl_numbersOk.l0 k l0 (l0.length:Int) 0)=some r:=h;clear h;have H':=mA H;clear H
 go_enter Try.func79,Try.ntmps79
 go_wp2
 go_loopg [7] k (fun kq v7 w'=>∃ (x7_1:Int),v7=.int .i64 x7_1∧Aside0 (impl_numbersOk.l0 kq l0 (l0.length:Int) x7_1=some r)∧Aside0 (kq≤k)∧Drawn0 w w')
 case atStart=>exact ⟨(0),bZ,H',⟨Nat.le_refl _⟩,by repeat (first|exact Drawn0.refl _|apply Drawn0.step)⟩
 case round =>
  clear H';obtain ⟨x7_1,rfl,HA,HK1,⟨m1,rfl⟩⟩:=hrel
  cases gk with
  | zero=>exact absurd HA.out (by simp [impl_numbersOk.l0])
  | succ k1 =>
   have H:=HA.out;clear HA;simp only [impl_numbersOk.l0] at H
   by_cases c2:x7_1<(l0.length:Int)
   ·rw [if_pos c2] at H;have c2b0:decide (x7_1<(l0.length:Int))=true:=decide_eq_true c2;clear c2
    by_cases c3:0≤x7_1
    ·rw [if_pos c3] at H;have c3b0:decide (0≤x7_1)=true:=decide_eq_true c3;clear c3
     by_cases c4:x7_1<(l0.length:Int)
     ·rw [if_pos c4] at H;have c4b0:decide (x7_1<(l0.length:Int))=true:=decide_eq_true c4;clear c4;obtain ⟨t384,A5,H⟩:=bI H;(try dsimp only at H)
      by_cases c6:t384=true
      ·subst c6;rw [if_pos rfl] at H;have H':=mA H;clear H;have p383:0≤(x7_1:Int):=of_decide_eq_true bA;have q383:x7_1<(l0.length:Int):=of_decide_eq_true bA;obtain ⟨ad383,e383,hx383_0⟩:=Kd.at_int HR0.out x7_1 p383 q383;cases e383;replace p383:=eq_true p383;replace q383:=eq_true q383
       go_wp2_with (first|((with_reducible refine gT 12 rfl ?_);refine gC (some 12) Try.func74 (impl_in.calls A5.out) ?_;rintro e w' ⟨rfl,⟨nd,rfl⟩⟩;refine ⟨_,rfl,?_⟩))
       go_roundg k1
       case measure=>have:=HK1.out;omega
       case rel=>exact ⟨(wrap64 (x7_1+1)),bZ,H',⟨by have:=HK1.out;omega⟩,by repeat (first|exact Drawn0.refl _|apply Drawn0.step)⟩
      ·replace c6:=Bool.eq_false_iff.mpr c6;subst c6
       rw [if_neg nFT] at H
       obtain rfl:=Option.some.inj H;have p383:0≤(x7_1:Int):=of_decide_eq_true bA;have q383:x7_1<(l0.length:Int):=of_decide_eq_true bA;obtain ⟨ad383,e383,hx383_0⟩:=Kd.at_int HR0.out x7_1 p383 q383;cases e383;replace p383:=eq_true p383;replace q383:=eq_true q383
       go_wp2_with (first|((with_reducible refine gT 12 rfl ?_);refine gC (some 12) Try.func74 (impl_in.calls A5.out) ?_;rintro e w' ⟨rfl,⟨nd,rfl⟩⟩;refine ⟨_,rfl,?_⟩))
       go_ret
       exact ⟨by first|rfl|(simp;done)|(simp [*];done),by repeat (first|exact Drawn0.refl _|apply Drawn0.step)⟩
     ·rw [if_neg c4] at H
      exact absurd H (by simp)
    ·rw [if_neg c3] at H
     exact absurd H (by simp)
   ·rw [if_neg c2] at H;have c2b0:decide (x7_1<(l0.length:Int))=false:=decide_eq_false c2;clear c2;obtain rfl:=Option.some.inj H
    go_wp2
    go_ret
    exact ⟨by first|rfl|(simp;done)|(simp [*];done),by repeat (first|exact Drawn0.refl _|apply Drawn0.step)⟩
/-! ### impl_cmdOk: function 76 -/
def impl_cmdOk.f (k : Nat) (a0_0 a0_1 a0_2 a0_3 a0_4 a0_5 a0_6 a0_7 a0_8 a0_9 : Int) : Option (Bool) := (impl_in.f a0_0 0 7).bind fun t386 => (if t386 = true then ((impl_cmdNumbers.f a0_0 a0_1 a0_2 a0_3 a0_4 a0_5 a0_6 a0_7 a0_8 a0_9).bind fun t387 => ((impl_numbersOk.f k t387).bind fun t390 => (some t390))) else (some false))
set_option maxHeartbeats 8000000 in
set_option maxRecDepth 100000 in
theorem impl_cmdOk.calls {k : Nat} {a0_0 a0_1 a0_2 a0_3 a0_4 a0_5 a0_6 a0_7 a0_8 a0_9 : Int} {r : Bool} {w : World} (h : impl_cmdOk.f k a0_0 a0_1 a0_2 a0_3 a0_4 a0_5 a0_6 a0_7 a0_8 a0_9 = some r) :
  Calls Try.prog 76 #[.agg #[.int .i64 a0_0,.int .i64 a0_1,.int .i64 a0_2,.int .i64 a0_3,.int .i64 a0_4,.int .i64 a0_5,.int .i64 a0_6,.int .i64 a0_7,.int .i64 a0_8,.int .i64 a0_9]] w fun e w'=>e=.returned (.bool r)∧Below w.heap.size w w':=by
 have hu24:=Try.underlying24;have HB:=mA (Below.refl w.heap.size w);have H:((impl_in.f a0_0 0 7).bind fun t386=>(if t386=true then ((impl_cmdNumbers.f a0_0 a0_1 a0_2 a0_3 a0_4 a0_5 a0_6 a0_7 a0_8 a0_9).bind fun t387=>((impl_numbersOk.f k t387).bind fun t390=>(some t390))) else (some false)))=some r:=h;clear h;obtain ⟨t386,A2,H⟩:=bI H;(try dsimp only at H)
 by_cases c3:t386=true
 ·subst c3;rw [if_pos rfl] at H;obtain ⟨t387,A4,H⟩:=bI H;(try dsimp only at H);obtain ⟨t390,A5,H⟩:=bI H;(try dsimp only at H);obtain rfl:=Option.some.inj H
  go_enter Try.func76,Try.ntmps76
  go_wp2_with (first|((with_reducible refine gLg rfl (by assumption) ?_);refine ldV ?_)|((with_reducible refine gSt rfl (by assumption) ?_);refine stV ?_)|((with_reducible refine gT 1 rfl ?_);refine bX 1 ?_;intro gb385 hg w6 hbox hb;have BK385:=mA hbox;have GW385:=gbpB HB hg;have GE385:=gbpB HB hg;replace HB:=spB HB hb;clear hb hbox hg;have hcz7_0:=fun i_=>blk_cell BK385.out i_;have hfz7_0:=fun i_=>blk_frozen BK385.out i_)|((with_reducible refine gT 5 rfl ?_);refine gC (some 5) Try.func74 (impl_in.calls A2.out) ?_;rintro e w' ⟨rfl,⟨nd,rfl⟩⟩;refine ⟨_,rfl,?_⟩)|(go_at_call 126;(with_reducible refine (impl_cmdNumbers.calls A4.out).mono ?_);rintro e w8 ⟨v388,rfl,ho0,hb⟩;have HO389:=mA (Kd.R_lower ho0 (bpS HB));replace BK385:=bK BK385 hb;replace HB:=spS HB hb;(try clear hb);(try clear ho0);obtain ⟨Ao9,co9,rfl⟩:=Kd.R_slice HO389.out)|(go_at_call 79;(with_reducible refine (impl_numbersOk.calls ?s1 ?s2 A5.out).mono ?_);(case s1=>exact cR HO389);(case s2=>exact cL HO389);rintro e w' ⟨rfl,⟨nd,rfl⟩⟩))
  go_ret
  exact rZ (pS HB.out)
 ·replace c3:=Bool.eq_false_iff.mpr c3;subst c3
  rw [if_neg nFT] at H
  obtain rfl:=Option.some.inj H
  go_enter Try.func76,Try.ntmps76
  go_wp2_with (first|((with_reducible refine gLg rfl (by assumption) ?_);refine ldV ?_)|((with_reducible refine gSt rfl (by assumption) ?_);refine stV ?_)|((with_reducible refine gT 1 rfl ?_);refine bX 1 ?_;intro gb385 hg w10 hbox hb;have BK385:=mA hbox;have GW385:=gbpB HB hg;have GE385:=gbpB HB hg;replace HB:=spB HB hb;clear hb hbox hg;have hcz11_0:=fun i_=>blk_cell BK385.out i_;have hfz11_0:=fun i_=>blk_frozen BK385.out i_)|((with_reducible refine gT 5 rfl ?_);refine gC (some 5) Try.func74 (impl_in.calls A2.out) ?_;rintro e w' ⟨rfl,⟨nd,rfl⟩⟩;refine ⟨_,rfl,?_⟩))
  go_ret
  exact rZ (pS HB.out)
/-! ### impl_pieceWay: function 133 -/
def impl_pieceWay.l0 : Nat → List (S155) → Int → Int → Option (Int)
 | 0,_,_,_=>none
 | k+1,x22,x23,x24=>if x24<x23 then (if 0≤x24 then (if x24<(x22.length:Int) then (if ((rd_T155 x22 x24).f0)<((rd_T155 x22 x24).f1) then (some (-1)) else (if ((rd_T155 x22 x24).f0) > ((rd_T155 x22 x24).f1) then (some 1) else (impl_pieceWay.l0 k x22 x23 (wrap64 (x24+1))))) else (none)) else (none)) else (some 0)
def impl_pieceWay.f (k : Nat) (a0_0 a0_1 a0_2 a0_3 a1_0 a1_1 a1_2 a1_3 : Int) : Option (Int) := (some (([(⟨a0_0, a1_0⟩ : S155), (⟨a0_1, a1_1⟩ : S155), (⟨a0_2, a1_2⟩ : S155)] : List (S155)) : List (S155))).bind fun y393 => (impl_pieceWay.l0 k y393 (y393.length : Int) 0)
set_option maxHeartbeats 8000000 in
set_option maxRecDepth 100000 in
theorem impl_pieceWay.calls {k : Nat} {a0_0 a0_1 a0_2 a0_3 a1_0 a1_1 a1_2 a1_3 r : Int} {w : World} (h : impl_pieceWay.f k a0_0 a0_1 a0_2 a0_3 a1_0 a1_1 a1_2 a1_3 = some r) :
  Calls Try.prog 133 #[.agg #[.int .i64 a0_0,.int .i64 a0_1,.int .i64 a0_2,.int .i64 a0_3],.agg #[.int .i64 a1_0,.int .i64 a1_1,.int .i64 a1_2,.int .i64 a1_3]] w fun e w'=>e=.returned (.int .i64 r)∧Below w.heap.size w w':=by
 have hu138:=Try.underlying138;have hu155:=Try.underlying155;have HB:=mA (Below.refl w.heap.size w);have H:((some (([(⟨a0_0,a1_0⟩:S155),(⟨a0_1,a1_1⟩:S155),(⟨a0_2,a1_2⟩:S155)]:List (S155)):List (S155))).bind fun y393=>(impl_pieceWay.l0 k y393 (y393.length:Int) 0))=some r:=h;clear h;obtain ⟨y393,hy393⟩:∃ y_:List (S155),y_=(([(⟨a0_0,a1_0⟩:S155),(⟨a0_1,a1_1⟩:S155),(⟨a0_2,a1_2⟩:S155)]:List (S155))):=⟨_,rfl⟩
 replace H:(impl_pieceWay.l0 k y393 (y393.length:Int) 0)=some r:=qH hy393 H
 have Ny393:=mA hy393;clear hy393;have H':=mA H;clear H
 go_enter Try.func133,Try.ntmps133
 go_wp2_with (first|((with_reducible refine gT 2 rfl ?_);refine bX 2 ?_;intro gb391 hg w3 hbox hb;have BK391:=mA hbox;have GW391:=gbpB HB hg;have GE391:=gbpB HB hg;replace HB:=spB HB hb;clear hb hbox hg)|((with_reducible refine gT 3 rfl ?_);refine bX 3 ?_;intro gb392 hg w4 hbox hb;have BK392:=mA hbox;have GW392:=gbpS HB hg;have GE392:=gbpS HB hg;replace HB:=spS HB hb;have NB391_392:=mA (lN (blk_lt (pK BK391.out)) hg);have hN391_392:=NB391_392.out;have NB392_391:=nS NB391_392;have hN392_391:=NB392_391.out;replace BK391:=bK BK391 hb;clear hb hbox hg;obtain ⟨hcz6_0,hcz6_1,hcz6_2,hcz6_3,hfz6_0,hfz6_1,hfz6_2,hfz6_3⟩:=box4 BK391.out;obtain ⟨hcz7_0,hcz7_1,hcz7_2,hcz7_3,hfz7_0,hfz7_1,hfz7_2,hfz7_3⟩:=box4 BK392.out)|((with_reducible refine gT 22 rfl ?_);refine Kd.R_lit k155 _ 155 ?hg (N:=22) ?hd (xs:=([(⟨a0_0,a1_0⟩:S155),(⟨a0_1,a1_1⟩:S155),(⟨a0_2,a1_2⟩:S155)]:List (S155))) (inner:=[.int .i64 a0_0,.int .i64 a1_0,.int .i64 a0_1,.int .i64 a1_1,.int .i64 a0_2,.int .i64 a1_2]) (ok:=fun _=>True) (okp:=fun _=>True) ?hr ?hp (fun _ hk=>hk) trivial (Below.refl _ _) (Nat.le_refl _) (by simp) ?_;(case hd=>rfl);(case hg=>rfl);(case hr=>first|(go_simp;done)|(go_simp;rfl));(case hp=>exact (Reps.c2 (show Kd.M k155 _ _ _ (⟨a0_0,a1_0⟩:S155) [.int .i64 a0_0,.int .i64 a1_0] from (k155_mkM _ _ _ (⟨a0_0,a1_0⟩:S155) )) (Reps.c2 (show Kd.M k155 _ _ _ (⟨a0_1,a1_1⟩:S155) [.int .i64 a0_1,.int .i64 a1_1] from (k155_mkM _ _ _ (⟨a0_1,a1_1⟩:S155) )) (Reps.c2 (show Kd.M k155 _ _ _ (⟨a0_2,a1_2⟩:S155) [.int .i64 a0_2,.int .i64 a1_2] from (k155_mkM _ _ _ (⟨a0_2,a1_2⟩:S155) )) (Reps.none _ _)))));intro v394 w8 ho9 hb hg_ hnew_;clear hg_ hnew_;(first|rw [← Ny393.out] at ho9|(simp only [Int.reduceToNat] at ho9;rw [← Ny393.out] at ho9));have HO395:=mA (Kd.R_lower ho9 (bpS HB));replace BK391:=bK BK391 hb;replace BK392:=bK BK392 hb;replace HB:=spS HB hb;clear hb ho9;obtain ⟨Ao10,co10,rfl⟩:=Kd.R_slice HO395.out))
 go_loopg [24] k (fun kq v24 w'=>∃ (x24_1:Int),v24=.int .i64 x24_1∧Aside0 (impl_pieceWay.l0 kq y393 (y393.length:Int) x24_1=some r)∧Aside0 (kq≤k)∧Aside0 (Kd.R k155 155 w' w.heap.size (fun _=>True) (.slice Ao10 y393.length co10) y393)∧Aside0 (w'.heap[gb391]?=some (.cells #[.int .i64 a0_0,.int .i64 a0_1,.int .i64 a0_2,.int .i64 a0_3] 138 (0,0)))∧Aside0 (w'.heap[gb392]?=some (.cells #[.int .i64 a1_0,.int .i64 a1_1,.int .i64 a1_2,.int .i64 a1_3] 138 (0,0)))∧Aside0 (Below w.heap.size w w'))
 case atStart=>exact ⟨(0),bZ,H',⟨Nat.le_refl _⟩,⟨pR HO395.out⟩,⟨pK BK391.out⟩,⟨pK BK392.out⟩,⟨pS HB.out⟩⟩
 case round =>
  clear H'
  (try clear hcz6_0);(try clear hcz6_1);(try clear hcz6_2);(try clear hcz6_3);(try clear hcz7_0);(try clear hcz7_1);(try clear hcz7_2);(try clear hcz7_3);(try clear hfz6_0);(try clear hfz6_1);(try clear hfz6_2);(try clear hfz6_3);(try clear hfz7_0);(try clear hfz7_1);(try clear hfz7_2);(try clear hfz7_3)
  obtain ⟨x24_1,rfl,HA,HK1,HO_22,BK391,BK392,HB⟩:=hrel
  cases gk with
  | zero=>exact absurd HA.out (by simp [impl_pieceWay.l0])
  | succ k1 =>
   have H:=HA.out;clear HA;simp only [impl_pieceWay.l0] at H
   by_cases c11:x24_1<(y393.length:Int)
   ·rw [if_pos c11] at H;have c11b0:decide (x24_1<(y393.length:Int))=true:=decide_eq_true c11;clear c11
    by_cases c12:0≤x24_1
    ·rw [if_pos c12] at H;have c12b0:decide (0≤x24_1)=true:=decide_eq_true c12;clear c12
     by_cases c13:x24_1<(y393.length:Int)
     ·rw [if_pos c13] at H;have c13b0:decide (x24_1<(y393.length:Int))=true:=decide_eq_true c13;clear c13
      by_cases c14:((rd_T155 y393 x24_1).f0)<((rd_T155 y393 x24_1).f1)
      ·rw [if_pos c14] at H;have c14b0:decide (((rd_T155 y393 x24_1).f0)<((rd_T155 y393 x24_1).f1))=true:=decide_eq_true c14;clear c14;obtain rfl:=Option.some.inj H;have p396:0≤(x24_1:Int):=of_decide_eq_true bA;have q396:x24_1<(y393.length:Int):=of_decide_eq_true bA;obtain ⟨ad396,e396,hx396_0,hx396_1⟩:=at_T155 (Kd.R_reads' HO_22.out).2.2 x24_1 p396 q396;cases e396;replace p396:=eq_true p396;replace q396:=eq_true q396
       go_wp2_with (first|((with_reducible refine gT 6 rfl ?_);refine bE 6 #[.int .i64 0,.int .i64 0] 155 ?_;intro gb397 hg w15 hbox hb;replace HO_22:=mA (Kd.R_below (Kd.R_elderB (pR HO_22.out) gb397 (Nat.le_of_eq hg.symm)) hb);have BK397:=mA hbox;have GW397:=gbpS HB hg;have GE397:=gbpS HB hg;replace HB:=spS HB hb;have NB391_397:=mA (lN (blk_lt (pK BK391.out)) hg);have hN391_397:=NB391_397.out;have NB397_391:=nS NB391_397;have hN397_391:=NB397_391.out;replace BK391:=bK BK391 hb;have NB392_397:=mA (lN (blk_lt (pK BK392.out)) hg);have hN392_397:=NB392_397.out;have NB397_392:=nS NB392_397;have hN397_392:=NB397_392.out;replace BK392:=bK BK392 hb;clear hb hbox hg;obtain ⟨hcz18_0,hcz18_1,hfz18_0,hfz18_1⟩:=box2 BK397.out))
       go_ret
       exact rZ (pS HB.out)
      ·rw [if_neg c14] at H;have c14b0:decide (((rd_T155 y393 x24_1).f0)<((rd_T155 y393 x24_1).f1))=false:=decide_eq_false c14;clear c14
       by_cases c19:((rd_T155 y393 x24_1).f0) > ((rd_T155 y393 x24_1).f1)
       ·rw [if_pos c19] at H;have c19b0:decide (((rd_T155 y393 x24_1).f1)<((rd_T155 y393 x24_1).f0))=true:=decide_eq_true c19;clear c19;obtain rfl:=Option.some.inj H;have p396:0≤(x24_1:Int):=of_decide_eq_true bA;have q396:x24_1<(y393.length:Int):=of_decide_eq_true bA;obtain ⟨ad396,e396,hx396_0,hx396_1⟩:=at_T155 (Kd.R_reads' HO_22.out).2.2 x24_1 p396 q396;cases e396;replace p396:=eq_true p396;replace q396:=eq_true q396
        go_wp2_with (first|((with_reducible refine gT 6 rfl ?_);refine bE 6 #[.int .i64 0,.int .i64 0] 155 ?_;intro gb397 hg w20 hbox hb;replace HO_22:=mA (Kd.R_below (Kd.R_elderB (pR HO_22.out) gb397 (Nat.le_of_eq hg.symm)) hb);have BK397:=mA hbox;have GW397:=gbpS HB hg;have GE397:=gbpS HB hg;replace HB:=spS HB hb;have NB391_397:=mA (lN (blk_lt (pK BK391.out)) hg);have hN391_397:=NB391_397.out;have NB397_391:=nS NB391_397;have hN397_391:=NB397_391.out;replace BK391:=bK BK391 hb;have NB392_397:=mA (lN (blk_lt (pK BK392.out)) hg);have hN392_397:=NB392_397.out;have NB397_392:=nS NB392_397;have hN397_392:=NB397_392.out;replace BK392:=bK BK392 hb;clear hb hbox hg;obtain ⟨hcz23_0,hcz23_1,hfz23_0,hfz23_1⟩:=box2 BK397.out))
        go_ret
        exact rZ (pS HB.out)
       ·rw [if_neg c19] at H;have c19b0:decide (((rd_T155 y393 x24_1).f1)<((rd_T155 y393 x24_1).f0))=false:=decide_eq_false c19;clear c19;have H':=mA H;clear H;have p396:0≤(x24_1:Int):=of_decide_eq_true bA;have q396:x24_1<(y393.length:Int):=of_decide_eq_true bA;obtain ⟨ad396,e396,hx396_0,hx396_1⟩:=at_T155 (Kd.R_reads' HO_22.out).2.2 x24_1 p396 q396;cases e396;replace p396:=eq_true p396;replace q396:=eq_true q396
        go_wp2_with (first|((with_reducible refine gT 6 rfl ?_);refine bE 6 #[.int .i64 0,.int .i64 0] 155 ?_;intro gb397 hg w24 hbox hb;replace HO_22:=mA (Kd.R_below (Kd.R_elderB (pR HO_22.out) gb397 (Nat.le_of_eq hg.symm)) hb);have BK397:=mA hbox;have GW397:=gbpS HB hg;have GE397:=gbpS HB hg;replace HB:=spS HB hb;have NB391_397:=mA (lN (blk_lt (pK BK391.out)) hg);have hN391_397:=NB391_397.out;have NB397_391:=nS NB391_397;have hN397_391:=NB397_391.out;replace BK391:=bK BK391 hb;have NB392_397:=mA (lN (blk_lt (pK BK392.out)) hg);have hN392_397:=NB392_397.out;have NB397_392:=nS NB392_397;have hN397_392:=NB397_392.out;replace BK392:=bK BK392 hb;clear hb hbox hg;obtain ⟨hcz27_0,hcz27_1,hfz27_0,hfz27_1⟩:=box2 BK397.out))
        go_roundg k1
        case measure=>have:=HK1.out;omega
        case rel=>exact ⟨(wrap64 (x24_1+1)),bZ,H',⟨by have:=HK1.out;omega⟩,⟨pR (Kd.R_mono (Kd.R_far (p:=⟨gb397,1,none⟩) (Kd.R_far (p:=⟨gb397,0,none⟩) (Kd.R_mono HO_22.out (fun k_ hk=>(⟨hk,hk.2⟩:_∧k_≠gb397))) (fun _ hk=>hk.2) (.int .i64 ((rd_T155 y393 x24_1).f0))) (fun _ hk=>hk.2) (.int .i64 ((rd_T155 y393 x24_1).f1))) (fun _ hk=>trivial))⟩,⟨pF BK391.out⟩,⟨pF BK392.out⟩,⟨pS HB.out⟩⟩
     ·rw [if_neg c13] at H
      exact absurd H (by simp)
    ·rw [if_neg c12] at H
     exact absurd H (by simp)
   ·rw [if_neg c11] at H;have c11b0:decide (x24_1<(y393.length:Int))=false:=decide_eq_false c11;clear c11;obtain rfl:=Option.some.inj H
    go_wp2
    go_ret
    exact rZ (pS HB.out)
/-! ### impl_BlkOk: function 77 -/
mutual
def impl_BlkOk.l0 : Nat → List (S138) → List (S138) → Int → Int → Option (Bool)
 | 0,_,_,_,_=>none
 | k+1,x0,x5,x6,x7=>if x7<x6 then (impl_BlkOk.j1 k x0 x5 x6 x7) else (some (decide ((x0.length:Int)≤60)))
def impl_BlkOk.j1 : Nat → List (S138) → List (S138) → Int → Int → Option (Bool)
 | 0,_,_,_,_=>none
 | k+1,x0,x5,x6,x7=>if 0≤x7 then (if x7<(x5.length:Int) then ((impl_in.f ((rd_T138 x5 x7).f0) 1 99999).bind fun t400=>(if t400=true then ((impl_in.f ((rd_T138 x5 x7).f2) 1 99999).bind fun t401=>(if t401=true then ((impl_in.f ((rd_T138 x5 x7).f1) 0 99999).bind fun t402=>(if t402=true then ((impl_in.f ((rd_T138 x5 x7).f3) 0 99999).bind fun t403=>(if t403=true then (if x7 > 0 then (if 0≤(wrap64 (x7 - 1)) then (if (wrap64 (x7 - 1))<(x0.length:Int) then ((impl_pieceWay.f k ((rd_T138 x0 (wrap64 (x7 - 1))).f0) ((rd_T138 x0 (wrap64 (x7 - 1))).f1) ((rd_T138 x0 (wrap64 (x7 - 1))).f2) ((rd_T138 x0 (wrap64 (x7 - 1))).f3) ((rd_T138 x5 x7).f0) ((rd_T138 x5 x7).f1) ((rd_T138 x5 x7).f2) ((rd_T138 x5 x7).f3)).bind fun t405=>(impl_BlkOk.j2 k x0 x5 x6 x7 (decide (t405 ≥ 0)))) else (none)) else (none)) else (impl_BlkOk.j2 k x0 x5 x6 x7 false)) else (impl_BlkOk.j2 k x0 x5 x6 x7 true))) else (impl_BlkOk.j2 k x0 x5 x6 x7 true))) else (impl_BlkOk.j2 k x0 x5 x6 x7 true))) else (impl_BlkOk.j2 k x0 x5 x6 x7 true))) else (none)) else (none)
def impl_BlkOk.j2 : Nat → List (S138) → List (S138) → Int → Int → Bool → Option (Bool)
 | 0,_,_,_,_,_=>none
 | k+1,x0,x5,x6,x7,x47=>if x47=true then (some false) else (impl_BlkOk.l0 k x0 x5 x6 (wrap64 (x7+1)))
end
def impl_BlkOk.f (k : Nat) (l0 : List (S138)) : Option (Bool) := impl_BlkOk.l0 k l0 l0 (l0.length : Int) 0
def impl_BlkOk.T4 : Bool × List (List Nat × List Nat) := (true, [([], []), ([0], [0]), ([1], [1]), ([2], [2]), ([3, 2], [3]), ([4], [4]), ([5, 4], [4, 5]), ([6, 4, 4], [4, 6]), ([7, 4], [4, 7]), ([4, 8], [4, 8]), ([9, 7], [9]), ([10], [10]), ([11, 10], [10, 11]), ([12, 10, 10], [10, 12]), ([13, 10], [10, 13]), ([10, 14], [10, 14]), ([15, 13], [15]), ([16], [16]), ([17, 16], [16, 17]), ([18, 16, 16], [16, 18]), ([19, 16], [16, 19]), ([16, 20], [16, 20]), ([21, 19], [21]), ([22], [22]), ([23, 22], [22, 23]), ([24, 22, 22], [22, 24]), ([25], [25]), ([25], [25]), ([27, 25], [25, 27]), ([26, 28, 25], [25, 26, 28]), ([29, 25], [25, 29]), ([25], [25]), ([30, 31, 25, 25], [25, 30, 31]), ([32, 25], [25, 32]), ([25, 33, 22], [22, 25, 33]), ([22, 34], [22, 34])])
def impl_BlkOk.B4 : List Nat := [0, 1, 3, 7, 15, 31, 63, 127, 255, 511, 1023, 2047, 4095, 8191, 16383, 32767, 65535, 131071, 262143, 524287, 1048575, 2097151, 4194303, 8388607, 16777215, 33554431, 67108863, 67108863, 201326591, 536870911, 1073741823, 67108863, 4294967295, 8589934591, 17179869183, 34359738367]
theorem impl_BlkOk.tab4 : rtab .any (opsOf Try.f77 4) = impl_BlkOk.T4 := by kernel_rfl
theorem impl_BlkOk.bits4 : waitsOk impl_BlkOk.T4.2 impl_BlkOk.B4 = true := by kernel_rfl
set_option maxHeartbeats 8000000 in
set_option maxRecDepth 100000 in
theorem impl_BlkOk.calls {k : Nat} {A0 : Option Addr} {c0 : Nat} {l0 : List (S138)} {r : Bool} {w : World} (hr0 : Kd.C k138 w A0 l0.length l0) (hc0 : l0.length ≤ c0) (h : impl_BlkOk.f k l0 = some r) :
  Calls Try.prog 77 #[.slice A0 l0.length c0] w fun e w'=>e=.returned (.bool r)∧Below w.heap.size w w':=by
 have hu138:=Try.underlying138;have HR0:=mA hr0;have HC0:=mA hc0;clear hr0 hc0;have HB:=mA (Below.refl w.heap.size w);have H:(impl_BlkOk.l0 k l0 l0 (l0.length:Int) 0)=some r:=h;clear h;have H':=mA H;clear H
 go_enter Try.func77,Try.ntmps77
 go_wp2
 go_loopg [7] k (fun kq v7 w'=>∃ (x7_1:Int),v7=.int .i64 x7_1∧Aside0 (impl_BlkOk.l0 kq l0 l0 (l0.length:Int) x7_1=some r)∧Aside0 (kq≤k)∧Aside0 (Below w.heap.size w w'))
 case atStart=>exact ⟨(0),bZ,H',⟨Nat.le_refl _⟩,⟨pB HB.out⟩⟩
 case round =>
  clear H';obtain ⟨x7_1,rfl,HA,HK1,HB⟩:=hrel
  cases gk with
  | zero=>exact absurd HA.out (by simp [impl_BlkOk.l0])
  | succ k1 =>
   have H:=HA.out;clear HA;simp only [impl_BlkOk.l0] at H;have HC2:=mA H;clear H
   go_upto_if 8 with (fail)
   go_cut [] (fun wc=>∃ (kq:Nat),Aside0 (impl_BlkOk.j1 kq l0 l0 (l0.length:Int) x7_1=some r)∧Aside0 (kq≤k1)∧Aside0 (Below w.heap.size w wc))
   case first =>
    have H:=HC2.out;clear HC2
    by_cases c3:x7_1<(l0.length:Int)
    ·rw [if_pos c3] at H;have c3b0:decide (x7_1<(l0.length:Int))=true:=decide_eq_true c3;clear c3
     (first|rw [c3b0]|(simp only [i64_w,i32_w];rw [c3b0])|skip)
     have H':=mA H;clear H
     go_wp2
     go_meet
     case rel=>exact ⟨_,H',⟨by have:=HK1.out;first|omega|exact Nat.le_refl _⟩,⟨pB HB.out⟩⟩
    ·rw [if_neg c3] at H;have c3b0:decide (x7_1<(l0.length:Int))=false:=decide_eq_false c3;clear c3
     (first|rw [c3b0]|(simp only [i64_w,i32_w];rw [c3b0])|skip)
     obtain rfl:=Option.some.inj H
     go_wp2
     go_ret
     exact rZ (pB HB.out)
   case rest =>
    clear HC2
    obtain ⟨kq,HA,HJ1,HB⟩:=hcut
    cases kq with
    | zero=>exact absurd HA.out (by simp [impl_BlkOk.j1])
    | succ kj1 =>
     have H:=HA.out;clear HA;simp only [impl_BlkOk.j1] at H
     by_cases c4:0≤x7_1
     ·rw [if_pos c4] at H;have c4b0:decide (0≤x7_1)=true:=decide_eq_true c4;clear c4
      by_cases c5:x7_1<(l0.length:Int)
      ·rw [if_pos c5] at H;have c5b0:decide (x7_1<(l0.length:Int))=true:=decide_eq_true c5;clear c5;have HC6:=mA H;clear H;have p398:0≤(x7_1:Int):=of_decide_eq_true bA;have q398:x7_1<(l0.length:Int):=of_decide_eq_true bA;obtain ⟨ad398,e398,hx398_0,hx398_1,hx398_2,hx398_3⟩:=at_T138 HR0.out x7_1 p398 q398;cases e398;replace hx398_0:=hC HB hx398_0;replace hx398_1:=hC HB hx398_1;replace hx398_2:=hC HB hx398_2;replace hx398_3:=hC HB hx398_3;replace p398:=eq_true p398;replace q398:=eq_true q398
       go_upto_region 4 with (first|((with_reducible refine gT 4 rfl ?_);refine bJ 4 y138 ?_;intro gb399 hg w7 hbox hb;have BK399:=mA hbox;have GW399:=gbpB HB hg;have GE399:=gbpB HB hg;replace HB:=spB HB hb;clear hb hbox hg;obtain ⟨hcz8_0,hcz8_1,hcz8_2,hcz8_3,hfz8_0,hfz8_1,hfz8_2,hfz8_3⟩:=box4 BK399.out))
       (try simp only [Act.put,List.setIfInBounds_toArray,List.set_cons_zero,List.set_cons_succ])
       go_cut [47] (fun v47 wc=>∃ (kq:Nat) (x47_5:Bool),v47=.bool x47_5∧Aside0 (impl_BlkOk.j2 kq l0 l0 (l0.length:Int) x7_1 x47_5=some r)∧Aside0 (kq≤kj1)∧Aside0 (wc.heap[gb399]?=some (.cells #[.int .i64 ((rd_T138 l0 x7_1).f0),.int .i64 ((rd_T138 l0 x7_1).f1),.int .i64 ((rd_T138 l0 x7_1).f2),.int .i64 ((rd_T138 l0 x7_1).f3)] 138 (0,0)))∧Aside0 (Below w.heap.size w wc))
       case first =>
        have H:=HC6.out;clear HC6;obtain ⟨t400,A9,H⟩:=bI H;(try dsimp only at H)
        by_cases c10:t400=true
        ·subst c10;rw [if_pos rfl] at H;obtain ⟨t401,A11,H⟩:=bI H;(try dsimp only at H)
         by_cases c12:t401=true
         ·subst c12;rw [if_pos rfl] at H;obtain ⟨t402,A13,H⟩:=bI H;(try dsimp only at H)
          by_cases c14:t402=true
          ·subst c14;rw [if_pos rfl] at H;obtain ⟨t403,A15,H⟩:=bI H;(try dsimp only at H)
           by_cases c16:t403=true
           ·subst c16;rw [if_pos rfl] at H
            by_cases c17:x7_1 > 0
            ·rw [if_pos c17] at H;have c17b0:decide (0<x7_1)=true:=decide_eq_true c17;clear c17
             (first|rw [c17b0]|(simp only [i64_w,i32_w];rw [c17b0])|skip)
             obtain ⟨ji18,hji18⟩:∃ j_:Int,(wrap64 (x7_1 - 1))=j_:=⟨_,rfl⟩
             replace H:(if 0≤(ji18) then (if (ji18)<(l0.length:Int) then ((impl_pieceWay.f kj1 ((rd_T138 l0 (ji18)).f0) ((rd_T138 l0 (ji18)).f1) ((rd_T138 l0 (ji18)).f2) ((rd_T138 l0 (ji18)).f3) ((rd_T138 l0 x7_1).f0) ((rd_T138 l0 x7_1).f1) ((rd_T138 l0 x7_1).f2) ((rd_T138 l0 x7_1).f3)).bind fun t405=>(impl_BlkOk.j2 kj1 l0 l0 (l0.length:Int) x7_1 (decide (t405 ≥ 0)))) else (none)) else (none))=some r:=by first|(rw [hji18] at H;exact H)|(simp only [hji18] at H ⊢;exact H)
             (try rw [hji18] at A9)
             (try rw [hji18] at A11)
             (try rw [hji18] at A13)
             (try rw [hji18] at A15)
             have hji18w:(IntKind.i64.wrap (x7_1 - 1))=ji18:=(i64_w _).trans hji18
             by_cases c19:0≤(ji18)
             ·rw [if_pos c19] at H;have c19b0:decide (0≤(ji18))=true:=decide_eq_true c19;clear c19
              by_cases c20:(ji18)<(l0.length:Int)
              ·rw [if_pos c20] at H;have c20b0:decide ((ji18)<(l0.length:Int))=true:=decide_eq_true c20;clear c20;obtain ⟨t405,A21,H⟩:=bI H;(try dsimp only at H);have H':=mA H;clear H
               try go_wp2
               generalize hW_:((((w7.setCell ⟨gb399,0,none⟩ (.int .i64 ((rd_T138 l0 x7_1).f0))).setCell ⟨gb399,1,none⟩ (.int .i64 ((rd_T138 l0 x7_1).f1))).setCell ⟨gb399,2,none⟩ (.int .i64 ((rd_T138 l0 x7_1).f2))).setCell ⟨gb399,3,none⟩ (.int .i64 ((rd_T138 l0 x7_1).f3)))=w22
               have n0_:Aside0 (w22.heap[gb399]?=some (.cells #[.int .i64 ((rd_T138 l0 x7_1).f0),.int .i64 ((rd_T138 l0 x7_1).f1),.int .i64 ((rd_T138 l0 x7_1).f2),.int .i64 ((rd_T138 l0 x7_1).f3)] 138 (0,0))):=⟨by rw [← hW_];exact pP BK399⟩;have n1_:Aside0 (Below w.heap.size w w22):=⟨by rw [← hW_];exact pS HB.out⟩
               (try clear BK399);(try clear HB);clear hW_
               have BK399:=n0_;have HB:=n1_;clear n0_ n1_;replace BK399:=mA (blk_drew BK399.out);replace HB:=mA (below_drew1 HB.out);have p404:0≤((ji18):Int):=of_decide_eq_true bA;have q404:(ji18)<(l0.length:Int):=of_decide_eq_true bA;obtain ⟨ad404,e404,hs404⟩:=at_R138 HR0.out (ji18) p404 q404
               obtain rfl:ad398=ad404:=(by injection e404)
               replace p404:=eq_true p404;replace q404:=eq_true q404
               refine start_ (n:=36) (S:=fun w'=>w'.heap[gb399]?=some (.cells #[.int .i64 ((rd_T138 l0 x7_1).f0),.int .i64 ((rd_T138 l0 x7_1).f1),.int .i64 ((rd_T138 l0 x7_1).f2),.int .i64 ((rd_T138 l0 x7_1).f3)] 138 (0,0))∧RS w' (ad398.add (((ji18)).toNat * 4)) (d138 (rd_T138 l0 (ji18)))) (ds:=[]) _ aK rfl rfl ⟨BK399.out,rS HB hs404⟩ (fun hHeld=>?_);refine with_tabW impl_BlkOk.tab4 impl_BlkOk.bits4 (fun HT_ HW_=>?_)
               generalize w22.drew=w23 at BK399 HB hHeld ⊢
               refine qu 0 ?_;refine qt 1 ?_
               refine qo 2 ?_;intro K hK
               refine gD Try.func74 (impl_in.calls A9.out) ?_
               rintro e w' ⟨rfl,⟨nd,rfl⟩⟩;refine ⟨_,rfl,?_⟩;refine hK.out _ _ ⟨BK399.out,rS HB hs404⟩ (fun hHeld=>?_);clear hK K;refine no_ (some 14) ?_;refine qu 3 ?_;refine qu 4 ?_;refine qu 5 ?_;refine qt 6 ?_
               refine qo 7 ?_;intro K hK
               refine gD Try.func74 (impl_in.calls A11.out) ?_
               rintro e w' ⟨rfl,⟨nd,rfl⟩⟩;refine ⟨_,rfl,?_⟩;refine hK.out _ _ ⟨BK399.out,rS HB hs404⟩ (fun hHeld=>?_);clear hK K;refine no_ (some 19) ?_;refine qu 8 ?_;refine qu 9 ?_;refine qu 10 ?_;refine qu 11 ?_;refine qt 12 ?_
               refine qo 13 ?_;intro K hK
               refine gD Try.func74 (impl_in.calls A13.out) ?_
               rintro e w' ⟨rfl,⟨nd,rfl⟩⟩;refine ⟨_,rfl,?_⟩;refine hK.out _ _ ⟨BK399.out,rS HB hs404⟩ (fun hHeld=>?_);clear hK K;refine no_ (some 25) ?_;refine qu 14 ?_;refine qu 15 ?_;refine qu 16 ?_;refine qu 17 ?_;refine qt 18 ?_
               refine qo 19 ?_;intro K hK
               refine gD Try.func74 (impl_in.calls A15.out) ?_
               rintro e w' ⟨rfl,⟨nd,rfl⟩⟩;refine ⟨_,rfl,?_⟩;refine hK.out _ _ ⟨BK399.out,rS HB hs404⟩ (fun hHeld=>?_);clear hK K;refine no_ (some 31) ?_;refine qu 20 ?_;refine qu 21 ?_;refine qu 22 ?_;refine qu 23 ?_;refine qu 24 ?_;refine qu 25 ?_;refine qu 26 ?_;refine qu 27 ?_;refine qu 28 ?_;refine qu 29 ?_;refine qt 30 ?_;refine qt 31 ?_
               refine qo 32 ?_;intro K hK
               refine goes_ Try.func133 aK rfl #[.agg #[.int .i64 ((rd_T138 l0 (ji18)).f0),.int .i64 ((rd_T138 l0 (ji18)).f1),.int .i64 ((rd_T138 l0 (ji18)).f2),.int .i64 ((rd_T138 l0 (ji18)).f3)],.agg #[.int .i64 ((rd_T138 l0 x7_1).f0),.int .i64 ((rd_T138 l0 x7_1).f1),.int .i64 ((rd_T138 l0 x7_1).f2),.int .i64 ((rd_T138 l0 x7_1).f3)]] (by rfl) rfl rfl (by (try simp only [List.map_toArray,List.map_cons,List.map_nil]);first|done|(simp only [hji18];rfl)|rfl|(simp only [List.length_drop,List.length_take];rfl)) ?_
               with_reducible refine (impl_pieceWay.calls A21.out).mono ?_
               rintro e w24 ⟨rfl,hb⟩;refine ⟨_,rfl,?_⟩;replace BK399:=bK BK399 hb;replace HB:=spS HB hb
               (try clear hb)
               refine hK.out _ _ ⟨BK399.out,rS HB hs404⟩ (fun hHeld=>?_);clear hK K;refine no_ (some 44) ?_;refine qu 33 ?_;refine qu 34 ?_;refine qu 35 ?_;refine qe ?_
               try go_wp2
               go_meet
               case rel=>exact ⟨_,(decide (t405 ≥ 0)),bZ,H',⟨by have:=HK1.out;have:=HJ1.out;first|omega|exact Nat.le_refl _⟩,⟨pK BK399.out⟩,⟨pS HB.out⟩⟩
              ·rw [if_neg c20] at H
               exact absurd H (by simp)
             ·rw [if_neg c19] at H
              exact absurd H (by simp)
            ·rw [if_neg c17] at H;have c17b0:decide (0<x7_1)=false:=decide_eq_false c17;clear c17
             (first|rw [c17b0]|(simp only [i64_w,i32_w];rw [c17b0])|skip)
             have H':=mA H;clear H
             try go_wp2
             generalize hW_:((((w7.setCell ⟨gb399,0,none⟩ (.int .i64 ((rd_T138 l0 x7_1).f0))).setCell ⟨gb399,1,none⟩ (.int .i64 ((rd_T138 l0 x7_1).f1))).setCell ⟨gb399,2,none⟩ (.int .i64 ((rd_T138 l0 x7_1).f2))).setCell ⟨gb399,3,none⟩ (.int .i64 ((rd_T138 l0 x7_1).f3)))=w25
             have n0_:Aside0 (w25.heap[gb399]?=some (.cells #[.int .i64 ((rd_T138 l0 x7_1).f0),.int .i64 ((rd_T138 l0 x7_1).f1),.int .i64 ((rd_T138 l0 x7_1).f2),.int .i64 ((rd_T138 l0 x7_1).f3)] 138 (0,0))):=⟨by rw [← hW_];exact pP BK399⟩;have n1_:Aside0 (Below w.heap.size w w25):=⟨by rw [← hW_];exact pS HB.out⟩
             (try clear BK399);(try clear HB);clear hW_
             have BK399:=n0_;have HB:=n1_;clear n0_ n1_;replace BK399:=mA (blk_drew BK399.out);replace HB:=mA (below_drew1 HB.out)
             refine start_ (n:=36) (S:=fun w'=>w'.heap[gb399]?=some (.cells #[.int .i64 ((rd_T138 l0 x7_1).f0),.int .i64 ((rd_T138 l0 x7_1).f1),.int .i64 ((rd_T138 l0 x7_1).f2),.int .i64 ((rd_T138 l0 x7_1).f3)] 138 (0,0))) (ds:=[]) _ aK rfl rfl BK399.out (fun hHeld=>?_);refine with_tabW impl_BlkOk.tab4 impl_BlkOk.bits4 (fun HT_ HW_=>?_)
             generalize w25.drew=w26 at BK399 HB hHeld ⊢
             refine qu 0 ?_;refine qt 1 ?_
             refine qo 2 ?_;intro K hK
             refine gD Try.func74 (impl_in.calls A9.out) ?_
             rintro e w' ⟨rfl,⟨nd,rfl⟩⟩;refine ⟨_,rfl,?_⟩;refine hK.out _ _ BK399.out (fun hHeld=>?_);clear hK K;refine no_ (some 14) ?_;refine qu 3 ?_;refine qu 4 ?_;refine qu 5 ?_;refine qt 6 ?_
             refine qo 7 ?_;intro K hK
             refine gD Try.func74 (impl_in.calls A11.out) ?_
             rintro e w' ⟨rfl,⟨nd,rfl⟩⟩;refine ⟨_,rfl,?_⟩;refine hK.out _ _ BK399.out (fun hHeld=>?_);clear hK K;refine no_ (some 19) ?_;refine qu 8 ?_;refine qu 9 ?_;refine qu 10 ?_;refine qu 11 ?_;refine qt 12 ?_
             refine qo 13 ?_;intro K hK
             refine gD Try.func74 (impl_in.calls A13.out) ?_
             rintro e w' ⟨rfl,⟨nd,rfl⟩⟩;refine ⟨_,rfl,?_⟩;refine hK.out _ _ BK399.out (fun hHeld=>?_);clear hK K;refine no_ (some 25) ?_;refine qu 14 ?_;refine qu 15 ?_;refine qu 16 ?_;refine qu 17 ?_;refine qt 18 ?_
             refine qo 19 ?_;intro K hK
             refine gD Try.func74 (impl_in.calls A15.out) ?_
             rintro e w' ⟨rfl,⟨nd,rfl⟩⟩;refine ⟨_,rfl,?_⟩;refine hK.out _ _ BK399.out (fun hHeld=>?_);clear hK K;refine no_ (some 31) ?_;refine qu 20 ?_;refine qu 21 ?_;refine qu 22 ?_;refine qu 23 ?_;refine qu 24 ?_;refine qu 25 ?_;refine qd 26 ?_;refine qd 27 ?_;refine qd 28 ?_;refine qd 29 ?_;refine qd 30 ?_;refine qd 31 ?_;refine qd 32 ?_;refine qd 33 ?_;refine qu 34 ?_;refine qu 35 ?_;refine qe ?_
             try go_wp2
             go_meet
             case rel=>exact ⟨_,(false),bZ,H',⟨by have:=HK1.out;have:=HJ1.out;first|omega|exact Nat.le_refl _⟩,⟨pK BK399.out⟩,⟨pS HB.out⟩⟩
           ·replace c16:=Bool.eq_false_iff.mpr c16;subst c16
            rw [if_neg nFT] at H
            have H':=mA H;clear H
            try go_wp2
            generalize hW_:((((w7.setCell ⟨gb399,0,none⟩ (.int .i64 ((rd_T138 l0 x7_1).f0))).setCell ⟨gb399,1,none⟩ (.int .i64 ((rd_T138 l0 x7_1).f1))).setCell ⟨gb399,2,none⟩ (.int .i64 ((rd_T138 l0 x7_1).f2))).setCell ⟨gb399,3,none⟩ (.int .i64 ((rd_T138 l0 x7_1).f3)))=w27
            have n0_:Aside0 (w27.heap[gb399]?=some (.cells #[.int .i64 ((rd_T138 l0 x7_1).f0),.int .i64 ((rd_T138 l0 x7_1).f1),.int .i64 ((rd_T138 l0 x7_1).f2),.int .i64 ((rd_T138 l0 x7_1).f3)] 138 (0,0))):=⟨by rw [← hW_];exact pP BK399⟩;have n1_:Aside0 (Below w.heap.size w w27):=⟨by rw [← hW_];exact pS HB.out⟩
            (try clear BK399);(try clear HB);clear hW_
            have BK399:=n0_;have HB:=n1_;clear n0_ n1_;replace BK399:=mA (blk_drew BK399.out);replace HB:=mA (below_drew1 HB.out)
            refine start_ (n:=36) (S:=fun w'=>w'.heap[gb399]?=some (.cells #[.int .i64 ((rd_T138 l0 x7_1).f0),.int .i64 ((rd_T138 l0 x7_1).f1),.int .i64 ((rd_T138 l0 x7_1).f2),.int .i64 ((rd_T138 l0 x7_1).f3)] 138 (0,0))) (ds:=[]) _ aK rfl rfl BK399.out (fun hHeld=>?_);refine with_tabW impl_BlkOk.tab4 impl_BlkOk.bits4 (fun HT_ HW_=>?_)
            generalize w27.drew=w28 at BK399 HB hHeld ⊢
            refine qu 0 ?_;refine qt 1 ?_
            refine qo 2 ?_;intro K hK
            refine gD Try.func74 (impl_in.calls A9.out) ?_
            rintro e w' ⟨rfl,⟨nd,rfl⟩⟩;refine ⟨_,rfl,?_⟩;refine hK.out _ _ BK399.out (fun hHeld=>?_);clear hK K;refine no_ (some 14) ?_;refine qu 3 ?_;refine qu 4 ?_;refine qu 5 ?_;refine qt 6 ?_
            refine qo 7 ?_;intro K hK
            refine gD Try.func74 (impl_in.calls A11.out) ?_
            rintro e w' ⟨rfl,⟨nd,rfl⟩⟩;refine ⟨_,rfl,?_⟩;refine hK.out _ _ BK399.out (fun hHeld=>?_);clear hK K;refine no_ (some 19) ?_;refine qu 8 ?_;refine qu 9 ?_;refine qu 10 ?_;refine qu 11 ?_;refine qt 12 ?_
            refine qo 13 ?_;intro K hK
            refine gD Try.func74 (impl_in.calls A13.out) ?_
            rintro e w' ⟨rfl,⟨nd,rfl⟩⟩;refine ⟨_,rfl,?_⟩;refine hK.out _ _ BK399.out (fun hHeld=>?_);clear hK K;refine no_ (some 25) ?_;refine qu 14 ?_;refine qu 15 ?_;refine qu 16 ?_;refine qu 17 ?_;refine qt 18 ?_
            refine qo 19 ?_;intro K hK
            refine gD Try.func74 (impl_in.calls A15.out) ?_
            rintro e w' ⟨rfl,⟨nd,rfl⟩⟩;refine ⟨_,rfl,?_⟩;refine hK.out _ _ BK399.out (fun hHeld=>?_);clear hK K;refine no_ (some 31) ?_;refine qu 20 ?_;refine qu 21 ?_;refine qu 22 ?_;refine qd 23 ?_;refine qd 24 ?_;refine qd 25 ?_;refine qd 26 ?_;refine qd 27 ?_;refine qd 28 ?_;refine qd 29 ?_;refine qd 30 ?_;refine qd 31 ?_;refine qd 32 ?_;refine qd 33 ?_;refine qd 34 ?_;refine qu 35 ?_;refine qe ?_
            try go_wp2
            go_meet
            case rel=>exact ⟨_,(true),bZ,H',⟨by have:=HK1.out;have:=HJ1.out;first|omega|exact Nat.le_refl _⟩,⟨pK BK399.out⟩,⟨pS HB.out⟩⟩
          ·replace c14:=Bool.eq_false_iff.mpr c14;subst c14
           rw [if_neg nFT] at H
           have H':=mA H;clear H
           try go_wp2
           generalize hW_:((((w7.setCell ⟨gb399,0,none⟩ (.int .i64 ((rd_T138 l0 x7_1).f0))).setCell ⟨gb399,1,none⟩ (.int .i64 ((rd_T138 l0 x7_1).f1))).setCell ⟨gb399,2,none⟩ (.int .i64 ((rd_T138 l0 x7_1).f2))).setCell ⟨gb399,3,none⟩ (.int .i64 ((rd_T138 l0 x7_1).f3)))=w29
           have n0_:Aside0 (w29.heap[gb399]?=some (.cells #[.int .i64 ((rd_T138 l0 x7_1).f0),.int .i64 ((rd_T138 l0 x7_1).f1),.int .i64 ((rd_T138 l0 x7_1).f2),.int .i64 ((rd_T138 l0 x7_1).f3)] 138 (0,0))):=⟨by rw [← hW_];exact pP BK399⟩;have n1_:Aside0 (Below w.heap.size w w29):=⟨by rw [← hW_];exact pS HB.out⟩
           (try clear BK399);(try clear HB);clear hW_
           have BK399:=n0_;have HB:=n1_;clear n0_ n1_;replace BK399:=mA (blk_drew BK399.out);replace HB:=mA (below_drew1 HB.out)
           refine start_ (n:=36) (S:=fun w'=>w'.heap[gb399]?=some (.cells #[.int .i64 ((rd_T138 l0 x7_1).f0),.int .i64 ((rd_T138 l0 x7_1).f1),.int .i64 ((rd_T138 l0 x7_1).f2),.int .i64 ((rd_T138 l0 x7_1).f3)] 138 (0,0))) (ds:=[]) _ aK rfl rfl BK399.out (fun hHeld=>?_);refine with_tabW impl_BlkOk.tab4 impl_BlkOk.bits4 (fun HT_ HW_=>?_)
           generalize w29.drew=w30 at BK399 HB hHeld ⊢
           refine qu 0 ?_;refine qt 1 ?_
           refine qo 2 ?_;intro K hK
           refine gD Try.func74 (impl_in.calls A9.out) ?_
           rintro e w' ⟨rfl,⟨nd,rfl⟩⟩;refine ⟨_,rfl,?_⟩;refine hK.out _ _ BK399.out (fun hHeld=>?_);clear hK K;refine no_ (some 14) ?_;refine qu 3 ?_;refine qu 4 ?_;refine qu 5 ?_;refine qt 6 ?_
           refine qo 7 ?_;intro K hK
           refine gD Try.func74 (impl_in.calls A11.out) ?_
           rintro e w' ⟨rfl,⟨nd,rfl⟩⟩;refine ⟨_,rfl,?_⟩;refine hK.out _ _ BK399.out (fun hHeld=>?_);clear hK K;refine no_ (some 19) ?_;refine qu 8 ?_;refine qu 9 ?_;refine qu 10 ?_;refine qu 11 ?_;refine qt 12 ?_
           refine qo 13 ?_;intro K hK
           refine gD Try.func74 (impl_in.calls A13.out) ?_
           rintro e w' ⟨rfl,⟨nd,rfl⟩⟩;refine ⟨_,rfl,?_⟩;refine hK.out _ _ BK399.out (fun hHeld=>?_);clear hK K;refine no_ (some 25) ?_;refine qu 14 ?_;refine qu 15 ?_;refine qu 16 ?_;refine qd 17 ?_;refine qd 18 ?_;refine qd 19 ?_;refine qd 20 ?_;refine qu 21 ?_;refine qu 22 ?_;refine qd 23 ?_;refine qd 24 ?_;refine qd 25 ?_;refine qd 26 ?_;refine qd 27 ?_;refine qd 28 ?_;refine qd 29 ?_;refine qd 30 ?_;refine qd 31 ?_;refine qd 32 ?_;refine qd 33 ?_;refine qd 34 ?_;refine qu 35 ?_;refine qe ?_
           try go_wp2
           go_meet
           case rel=>exact ⟨_,(true),bZ,H',⟨by have:=HK1.out;have:=HJ1.out;first|omega|exact Nat.le_refl _⟩,⟨pK BK399.out⟩,⟨pS HB.out⟩⟩
         ·replace c12:=Bool.eq_false_iff.mpr c12;subst c12
          rw [if_neg nFT] at H
          have H':=mA H;clear H
          try go_wp2
          generalize hW_:((((w7.setCell ⟨gb399,0,none⟩ (.int .i64 ((rd_T138 l0 x7_1).f0))).setCell ⟨gb399,1,none⟩ (.int .i64 ((rd_T138 l0 x7_1).f1))).setCell ⟨gb399,2,none⟩ (.int .i64 ((rd_T138 l0 x7_1).f2))).setCell ⟨gb399,3,none⟩ (.int .i64 ((rd_T138 l0 x7_1).f3)))=w31
          have n0_:Aside0 (w31.heap[gb399]?=some (.cells #[.int .i64 ((rd_T138 l0 x7_1).f0),.int .i64 ((rd_T138 l0 x7_1).f1),.int .i64 ((rd_T138 l0 x7_1).f2),.int .i64 ((rd_T138 l0 x7_1).f3)] 138 (0,0))):=⟨by rw [← hW_];exact pP BK399⟩;have n1_:Aside0 (Below w.heap.size w w31):=⟨by rw [← hW_];exact pS HB.out⟩
          (try clear BK399);(try clear HB);clear hW_
          have BK399:=n0_;have HB:=n1_;clear n0_ n1_;replace BK399:=mA (blk_drew BK399.out);replace HB:=mA (below_drew1 HB.out)
          refine start_ (n:=36) (S:=fun w'=>w'.heap[gb399]?=some (.cells #[.int .i64 ((rd_T138 l0 x7_1).f0),.int .i64 ((rd_T138 l0 x7_1).f1),.int .i64 ((rd_T138 l0 x7_1).f2),.int .i64 ((rd_T138 l0 x7_1).f3)] 138 (0,0))) (ds:=[]) _ aK rfl rfl BK399.out (fun hHeld=>?_);refine with_tabW impl_BlkOk.tab4 impl_BlkOk.bits4 (fun HT_ HW_=>?_)
          generalize w31.drew=w32 at BK399 HB hHeld ⊢
          refine qu 0 ?_;refine qt 1 ?_
          refine qo 2 ?_;intro K hK
          refine gD Try.func74 (impl_in.calls A9.out) ?_
          rintro e w' ⟨rfl,⟨nd,rfl⟩⟩;refine ⟨_,rfl,?_⟩;refine hK.out _ _ BK399.out (fun hHeld=>?_);clear hK K;refine no_ (some 14) ?_;refine qu 3 ?_;refine qu 4 ?_;refine qu 5 ?_;refine qt 6 ?_
          refine qo 7 ?_;intro K hK
          refine gD Try.func74 (impl_in.calls A11.out) ?_
          rintro e w' ⟨rfl,⟨nd,rfl⟩⟩;refine ⟨_,rfl,?_⟩;refine hK.out _ _ BK399.out (fun hHeld=>?_);clear hK K;refine no_ (some 19) ?_;refine qu 8 ?_;refine qu 9 ?_;refine qu 10 ?_;refine qd 11 ?_;refine qd 12 ?_;refine qd 13 ?_;refine qd 14 ?_;refine qu 15 ?_;refine qu 16 ?_;refine qd 17 ?_;refine qd 18 ?_;refine qd 19 ?_;refine qd 20 ?_;refine qu 21 ?_;refine qu 22 ?_;refine qd 23 ?_;refine qd 24 ?_;refine qd 25 ?_;refine qd 26 ?_;refine qd 27 ?_;refine qd 28 ?_;refine qd 29 ?_;refine qd 30 ?_;refine qd 31 ?_;refine qd 32 ?_;refine qd 33 ?_;refine qd 34 ?_;refine qu 35 ?_;refine qe ?_
          try go_wp2
          go_meet
          case rel=>exact ⟨_,(true),bZ,H',⟨by have:=HK1.out;have:=HJ1.out;first|omega|exact Nat.le_refl _⟩,⟨pK BK399.out⟩,⟨pS HB.out⟩⟩
        ·replace c10:=Bool.eq_false_iff.mpr c10;subst c10
         rw [if_neg nFT] at H
         have H':=mA H;clear H
         try go_wp2
         generalize hW_:((((w7.setCell ⟨gb399,0,none⟩ (.int .i64 ((rd_T138 l0 x7_1).f0))).setCell ⟨gb399,1,none⟩ (.int .i64 ((rd_T138 l0 x7_1).f1))).setCell ⟨gb399,2,none⟩ (.int .i64 ((rd_T138 l0 x7_1).f2))).setCell ⟨gb399,3,none⟩ (.int .i64 ((rd_T138 l0 x7_1).f3)))=w33
         have n0_:Aside0 (w33.heap[gb399]?=some (.cells #[.int .i64 ((rd_T138 l0 x7_1).f0),.int .i64 ((rd_T138 l0 x7_1).f1),.int .i64 ((rd_T138 l0 x7_1).f2),.int .i64 ((rd_T138 l0 x7_1).f3)] 138 (0,0))):=⟨by rw [← hW_];exact pP BK399⟩;have n1_:Aside0 (Below w.heap.size w w33):=⟨by rw [← hW_];exact pS HB.out⟩
         (try clear BK399);(try clear HB);clear hW_
         have BK399:=n0_;have HB:=n1_;clear n0_ n1_;replace BK399:=mA (blk_drew BK399.out);replace HB:=mA (below_drew1 HB.out)
         refine start_ (n:=36) (S:=fun w'=>w'.heap[gb399]?=some (.cells #[.int .i64 ((rd_T138 l0 x7_1).f0),.int .i64 ((rd_T138 l0 x7_1).f1),.int .i64 ((rd_T138 l0 x7_1).f2),.int .i64 ((rd_T138 l0 x7_1).f3)] 138 (0,0))) (ds:=[]) _ aK rfl rfl BK399.out (fun hHeld=>?_);refine with_tabW impl_BlkOk.tab4 impl_BlkOk.bits4 (fun HT_ HW_=>?_)
         generalize w33.drew=w34 at BK399 HB hHeld ⊢
         refine qu 0 ?_;refine qt 1 ?_
         refine qo 2 ?_;intro K hK
         refine gD Try.func74 (impl_in.calls A9.out) ?_
         rintro e w' ⟨rfl,⟨nd,rfl⟩⟩;refine ⟨_,rfl,?_⟩;refine hK.out _ _ BK399.out (fun hHeld=>?_);clear hK K;refine no_ (some 14) ?_;refine qu 3 ?_;refine qu 4 ?_;refine qd 5 ?_;refine qd 6 ?_;refine qd 7 ?_;refine qd 8 ?_;refine qu 9 ?_;refine qu 10 ?_;refine qd 11 ?_;refine qd 12 ?_;refine qd 13 ?_;refine qd 14 ?_;refine qu 15 ?_;refine qu 16 ?_;refine qd 17 ?_;refine qd 18 ?_;refine qd 19 ?_;refine qd 20 ?_;refine qu 21 ?_;refine qu 22 ?_;refine qd 23 ?_;refine qd 24 ?_;refine qd 25 ?_;refine qd 26 ?_;refine qd 27 ?_;refine qd 28 ?_;refine qd 29 ?_;refine qd 30 ?_;refine qd 31 ?_;refine qd 32 ?_;refine qd 33 ?_;refine qd 34 ?_;refine qu 35 ?_;refine qe ?_
         try go_wp2
         go_meet
         case rel=>exact ⟨_,(true),bZ,H',⟨by have:=HK1.out;have:=HJ1.out;first|omega|exact Nat.le_refl _⟩,⟨pK BK399.out⟩,⟨pS HB.out⟩⟩
       case rest =>
        clear HC6
        obtain ⟨kq,x47_5,rfl,HA,HJ5,BK399,HB⟩:=hcut
        cases kq with
        | zero=>exact absurd HA.out (by simp [impl_BlkOk.j2])
        | succ kj5 =>
         have H:=HA.out;clear HA;simp only [impl_BlkOk.j2] at H
         by_cases c35:x47_5=true
         ·subst c35;rw [if_pos rfl] at H;obtain rfl:=Option.some.inj H
          go_wp2
          go_ret
          exact rZ (pS HB.out)
         ·replace c35:=Bool.eq_false_iff.mpr c35;subst c35
          rw [if_neg nFT] at H
          have H':=mA H;clear H
          go_wp2
          go_roundg kj5
          case measure=>have:=HK1.out;have:=HJ1.out;have:=HJ5.out;omega
          case rel=>exact ⟨(wrap64 (x7_1+1)),bZ,H',⟨by have:=HK1.out;have:=HJ1.out;have:=HJ5.out;omega⟩,⟨pS HB.out⟩⟩
      ·rw [if_neg c5] at H
       exact absurd H (by simp)
     ·rw [if_neg c4] at H
      exact absurd H (by simp)
/-! ### impl_lastOk: function 78 -/
def impl_lastOk.l0 : Nat → List (S140) → List (S140) → Int → Int → Option (Bool)
 | 0,_,_,_,_=>none
 | k+1,x0,x5,x6,x7=>if x7<x6 then (if 0≤x7 then (if x7<(x5.length:Int) then ((impl_in.f ((rd_T140 x5 x7).f0) 0 3).bind fun t408=>(if t408=true then ((impl_in.f ((rd_T140 x5 x7).f1) 1 99999).bind fun t409=>(if t409=true then (if x7 > 0 then (if 0≤(wrap64 (x7 - 1)) then (if (wrap64 (x7 - 1))<(x0.length:Int) then (if ((rd_T140 x0 (wrap64 (x7 - 1))).f0) ≥ ((rd_T140 x5 x7).f0) then (some false) else (impl_lastOk.l0 k x0 x5 x6 (wrap64 (x7+1)))) else (none)) else (none)) else (impl_lastOk.l0 k x0 x5 x6 (wrap64 (x7+1)))) else (some false))) else (some false))) else (none)) else (none)) else (some (decide ((x0.length:Int)≤4)))
def impl_lastOk.f (k : Nat) (l0 : List (S140)) : Option (Bool) := impl_lastOk.l0 k l0 l0 (l0.length : Int) 0
set_option maxHeartbeats 8000000 in
set_option maxRecDepth 100000 in
theorem impl_lastOk.calls {k : Nat} {A0 : Option Addr} {c0 : Nat} {l0 : List (S140)} {r : Bool} {w : World} (hr0 : Kd.C k140 w A0 l0.length l0) (hc0 : l0.length ≤ c0) (h : impl_lastOk.f k l0 = some r) :
  Calls Try.prog 78 #[.slice A0 l0.length c0] w fun e w'=>e=.returned (.bool r)∧Below w.heap.size w w':=by
 have hu140:=Try.underlying140;have HR0:=mA hr0;have HC0:=mA hc0;clear hr0 hc0;have HB:=mA (Below.refl w.heap.size w);have H:(impl_lastOk.l0 k l0 l0 (l0.length:Int) 0)=some r:=h;clear h;have H':=mA H;clear H
 go_enter Try.func78,Try.ntmps78
 go_wp2
 repeat (go_quiet (fail);try go_wp2)
 go_loopg [7] k (fun kq v7 w'=>∃ (x7_1:Int),v7=.int .i64 x7_1∧Aside0 (impl_lastOk.l0 kq l0 l0 (l0.length:Int) x7_1=some r)∧Aside0 (kq≤k)∧Aside0 (Below w.heap.size w w'))
 case atStart=>exact ⟨(0),bZ,H',⟨Nat.le_refl _⟩,⟨pB HB.out⟩⟩
 case round =>
  clear H';obtain ⟨x7_1,rfl,HA,HK1,HB⟩:=hrel
  cases gk with
  | zero=>exact absurd HA.out (by simp [impl_lastOk.l0])
  | succ k1 =>
   have H:=HA.out;clear HA;simp only [impl_lastOk.l0] at H
   by_cases c2:x7_1<(l0.length:Int)
   ·rw [if_pos c2] at H;have c2b0:decide (x7_1<(l0.length:Int))=true:=decide_eq_true c2;clear c2
    by_cases c3:0≤x7_1
    ·rw [if_pos c3] at H;have c3b0:decide (0≤x7_1)=true:=decide_eq_true c3;clear c3
     by_cases c4:x7_1<(l0.length:Int)
     ·rw [if_pos c4] at H;have c4b0:decide (x7_1<(l0.length:Int))=true:=decide_eq_true c4;clear c4;obtain ⟨t408,A5,H⟩:=bI H;(try dsimp only at H)
      by_cases c6:t408=true
      ·subst c6;rw [if_pos rfl] at H;obtain ⟨t409,A7,H⟩:=bI H;(try dsimp only at H)
       by_cases c8:t409=true
       ·subst c8;rw [if_pos rfl] at H
        by_cases c9:x7_1 > 0
        ·rw [if_pos c9] at H;have c9b0:decide (0<x7_1)=true:=decide_eq_true c9;clear c9;obtain ⟨ji10,hji10⟩:∃ j_:Int,(wrap64 (x7_1 - 1))=j_:=⟨_,rfl⟩
         replace H:(if 0≤(ji10) then (if (ji10)<(l0.length:Int) then (if ((rd_T140 l0 (ji10)).f0) ≥ ((rd_T140 l0 x7_1).f0) then (some false) else (impl_lastOk.l0 k1 l0 l0 (l0.length:Int) (wrap64 (x7_1+1)))) else (none)) else (none))=some r:=by first|(rw [hji10] at H;exact H)|(simp only [hji10] at H ⊢;exact H)
         (try rw [hji10] at A5)
         (try rw [hji10] at A7)
         have hji10w:(IntKind.i64.wrap (x7_1 - 1))=ji10:=(i64_w _).trans hji10
         by_cases c11:0≤(ji10)
         ·rw [if_pos c11] at H;have c11b0:decide (0≤(ji10))=true:=decide_eq_true c11;clear c11
          by_cases c12:(ji10)<(l0.length:Int)
          ·rw [if_pos c12] at H;have c12b0:decide ((ji10)<(l0.length:Int))=true:=decide_eq_true c12;clear c12
           by_cases c13:((rd_T140 l0 (ji10)).f0) ≥ ((rd_T140 l0 x7_1).f0)
           ·rw [if_pos c13] at H;have c13b0:decide (((rd_T140 l0 x7_1).f0)≤((rd_T140 l0 (ji10)).f0))=true:=decide_eq_true c13;clear c13;obtain rfl:=Option.some.inj H;have p406:0≤(x7_1:Int):=of_decide_eq_true bA;have q406:x7_1<(l0.length:Int):=of_decide_eq_true bA;obtain ⟨ad406,e406,hx406_0,hx406_1⟩:=at_T140 HR0.out x7_1 p406 q406;cases e406;replace hx406_0:=hC HB hx406_0;replace hx406_1:=hC HB hx406_1;replace p406:=eq_true p406;replace q406:=eq_true q406
            go_wp2_with (first|((with_reducible refine gT 4 rfl ?_);refine bE 4 #[.int .i64 0,.int .i64 0] 140 ?_;intro gb407 hg w14 hbox hb;have BK407:=mA hbox;have GW407:=gbpB HB hg;have GE407:=gbpB HB hg;replace HB:=spB HB hb;clear hb hbox hg;obtain ⟨hcz15_0,hcz15_1,hfz15_0,hfz15_1⟩:=box2 BK407.out)|(go_at_call 74;(with_reducible refine (impl_in.calls A5.out).mono ?_);rintro e w' ⟨rfl,⟨nd,rfl⟩⟩;(try first|exact ⟨rfl,_,World.drewN_drewN _ _ _⟩|exact ⟨rfl,_,Eq.trans (World.drewN_drewN _ _ _) (congrArg (World.drewN _) (Nat.add_assoc _ _ _))⟩))|(go_at_call 74;(with_reducible refine (impl_in.calls A7.out).mono ?_);rintro e w' ⟨rfl,⟨nd,rfl⟩⟩;(try first|exact ⟨rfl,_,World.drewN_drewN _ _ _⟩|exact ⟨rfl,_,Eq.trans (World.drewN_drewN _ _ _) (congrArg (World.drewN _) (Nat.add_assoc _ _ _))⟩);have p410:0≤((ji10):Int):=of_decide_eq_true bA;have q410:(ji10)<(l0.length:Int):=of_decide_eq_true bA;obtain ⟨ad410,e410,hx410_0,hx410_1⟩:=at_T140 HR0.out (ji10) p410 q410;obtain rfl:ad406=ad410:=(by injection e410);have hn410_0:ad406.block≠gb407:=Nat.ne_of_lt (Nat.lt_of_lt_of_le (by have:=World.block_lt_of_cell? _ _ hx410_0;first|rwa [add_block] at this|exact this) GW407.out);have hn410_1:ad406.block≠gb407:=Nat.ne_of_lt (Nat.lt_of_lt_of_le (by have:=World.block_lt_of_cell? _ _ hx410_0;first|rwa [add_block] at this|exact this) GW407.out);replace hx410_0:=hC HB hx410_0;replace hx410_1:=hC HB hx410_1;replace hx410_0:=(cell_far (p:=⟨gb407,0,none⟩) (by first|(rw [add_block];exact hn410_0)|(show (Addr.add _ _).block≠_;rw [add_block];exact hn410_0)|exact hn410_0) (.int .i64 ((rd_T140 l0 x7_1).f0))).trans hx410_0;replace hx410_1:=(cell_far (p:=⟨gb407,0,none⟩) (by first|(rw [add_block];exact hn410_0)|(show (Addr.add _ _).block≠_;rw [add_block];exact hn410_0)|exact hn410_0) (.int .i64 ((rd_T140 l0 x7_1).f0))).trans hx410_1;replace hx410_0:=(cell_far (p:=⟨gb407,1,none⟩) (by first|(rw [add_block];exact hn410_1)|(show (Addr.add _ _).block≠_;rw [add_block];exact hn410_1)|exact hn410_1) (.int .i64 ((rd_T140 l0 x7_1).f1))).trans hx410_0;replace hx410_1:=(cell_far (p:=⟨gb407,1,none⟩) (by first|(rw [add_block];exact hn410_1)|(show (Addr.add _ _).block≠_;rw [add_block];exact hn410_1)|exact hn410_1) (.int .i64 ((rd_T140 l0 x7_1).f1))).trans hx410_1;(try have hy410_0:=fun (n_:Nat)=>(show ((((w14.drewN n_).setCell ⟨gb407,0,none⟩ (.int .i64 ((rd_T140 l0 x7_1).f0))).setCell ⟨gb407,1,none⟩ (.int .i64 ((rd_T140 l0 x7_1).f1)))).cell? _=some _ from hx410_0));(try have hy410_1:=fun (n_:Nat)=>(show ((((w14.drewN n_).setCell ⟨gb407,0,none⟩ (.int .i64 ((rd_T140 l0 x7_1).f0))).setCell ⟨gb407,1,none⟩ (.int .i64 ((rd_T140 l0 x7_1).f1)))).cell? _=some _ from hx410_1));clear hn410_0;clear hn410_1;replace p410:=eq_true p410;replace q410:=eq_true q410))
            repeat (go_quiet (first|((with_reducible refine gT 4 rfl ?_);refine bE 4 #[.int .i64 0,.int .i64 0] 140 ?_;intro gb407 hg w14 hbox hb;have BK407:=mA hbox;have GW407:=gbpB HB hg;have GE407:=gbpB HB hg;replace HB:=spB HB hb;clear hb hbox hg;obtain ⟨hcz15_0,hcz15_1,hfz15_0,hfz15_1⟩:=box2 BK407.out)|(go_at_call 74;(with_reducible refine (impl_in.calls A5.out).mono ?_);rintro e w' ⟨rfl,⟨nd,rfl⟩⟩;(try first|exact ⟨rfl,_,World.drewN_drewN _ _ _⟩|exact ⟨rfl,_,Eq.trans (World.drewN_drewN _ _ _) (congrArg (World.drewN _) (Nat.add_assoc _ _ _))⟩))|(go_at_call 74;(with_reducible refine (impl_in.calls A7.out).mono ?_);rintro e w' ⟨rfl,⟨nd,rfl⟩⟩;(try first|exact ⟨rfl,_,World.drewN_drewN _ _ _⟩|exact ⟨rfl,_,Eq.trans (World.drewN_drewN _ _ _) (congrArg (World.drewN _) (Nat.add_assoc _ _ _))⟩);have p410:0≤((ji10):Int):=of_decide_eq_true bA;have q410:(ji10)<(l0.length:Int):=of_decide_eq_true bA;obtain ⟨ad410,e410,hx410_0,hx410_1⟩:=at_T140 HR0.out (ji10) p410 q410;obtain rfl:ad406=ad410:=(by injection e410);have hn410_0:ad406.block≠gb407:=Nat.ne_of_lt (Nat.lt_of_lt_of_le (by have:=World.block_lt_of_cell? _ _ hx410_0;first|rwa [add_block] at this|exact this) GW407.out);have hn410_1:ad406.block≠gb407:=Nat.ne_of_lt (Nat.lt_of_lt_of_le (by have:=World.block_lt_of_cell? _ _ hx410_0;first|rwa [add_block] at this|exact this) GW407.out);replace hx410_0:=hC HB hx410_0;replace hx410_1:=hC HB hx410_1;replace hx410_0:=(cell_far (p:=⟨gb407,0,none⟩) (by first|(rw [add_block];exact hn410_0)|(show (Addr.add _ _).block≠_;rw [add_block];exact hn410_0)|exact hn410_0) (.int .i64 ((rd_T140 l0 x7_1).f0))).trans hx410_0;replace hx410_1:=(cell_far (p:=⟨gb407,0,none⟩) (by first|(rw [add_block];exact hn410_0)|(show (Addr.add _ _).block≠_;rw [add_block];exact hn410_0)|exact hn410_0) (.int .i64 ((rd_T140 l0 x7_1).f0))).trans hx410_1;replace hx410_0:=(cell_far (p:=⟨gb407,1,none⟩) (by first|(rw [add_block];exact hn410_1)|(show (Addr.add _ _).block≠_;rw [add_block];exact hn410_1)|exact hn410_1) (.int .i64 ((rd_T140 l0 x7_1).f1))).trans hx410_0;replace hx410_1:=(cell_far (p:=⟨gb407,1,none⟩) (by first|(rw [add_block];exact hn410_1)|(show (Addr.add _ _).block≠_;rw [add_block];exact hn410_1)|exact hn410_1) (.int .i64 ((rd_T140 l0 x7_1).f1))).trans hx410_1;(try have hy410_0:=fun (n_:Nat)=>(show ((((w14.drewN n_).setCell ⟨gb407,0,none⟩ (.int .i64 ((rd_T140 l0 x7_1).f0))).setCell ⟨gb407,1,none⟩ (.int .i64 ((rd_T140 l0 x7_1).f1)))).cell? _=some _ from hx410_0));(try have hy410_1:=fun (n_:Nat)=>(show ((((w14.drewN n_).setCell ⟨gb407,0,none⟩ (.int .i64 ((rd_T140 l0 x7_1).f0))).setCell ⟨gb407,1,none⟩ (.int .i64 ((rd_T140 l0 x7_1).f1)))).cell? _=some _ from hx410_1));clear hn410_0;clear hn410_1;replace p410:=eq_true p410;replace q410:=eq_true q410));try go_wp2_with (first|((with_reducible refine gT 4 rfl ?_);refine bE 4 #[.int .i64 0,.int .i64 0] 140 ?_;intro gb407 hg w14 hbox hb;have BK407:=mA hbox;have GW407:=gbpB HB hg;have GE407:=gbpB HB hg;replace HB:=spB HB hb;clear hb hbox hg;obtain ⟨hcz15_0,hcz15_1,hfz15_0,hfz15_1⟩:=box2 BK407.out)|(go_at_call 74;(with_reducible refine (impl_in.calls A5.out).mono ?_);rintro e w' ⟨rfl,⟨nd,rfl⟩⟩;(try first|exact ⟨rfl,_,World.drewN_drewN _ _ _⟩|exact ⟨rfl,_,Eq.trans (World.drewN_drewN _ _ _) (congrArg (World.drewN _) (Nat.add_assoc _ _ _))⟩))|(go_at_call 74;(with_reducible refine (impl_in.calls A7.out).mono ?_);rintro e w' ⟨rfl,⟨nd,rfl⟩⟩;(try first|exact ⟨rfl,_,World.drewN_drewN _ _ _⟩|exact ⟨rfl,_,Eq.trans (World.drewN_drewN _ _ _) (congrArg (World.drewN _) (Nat.add_assoc _ _ _))⟩);have p410:0≤((ji10):Int):=of_decide_eq_true bA;have q410:(ji10)<(l0.length:Int):=of_decide_eq_true bA;obtain ⟨ad410,e410,hx410_0,hx410_1⟩:=at_T140 HR0.out (ji10) p410 q410;obtain rfl:ad406=ad410:=(by injection e410);have hn410_0:ad406.block≠gb407:=Nat.ne_of_lt (Nat.lt_of_lt_of_le (by have:=World.block_lt_of_cell? _ _ hx410_0;first|rwa [add_block] at this|exact this) GW407.out);have hn410_1:ad406.block≠gb407:=Nat.ne_of_lt (Nat.lt_of_lt_of_le (by have:=World.block_lt_of_cell? _ _ hx410_0;first|rwa [add_block] at this|exact this) GW407.out);replace hx410_0:=hC HB hx410_0;replace hx410_1:=hC HB hx410_1;replace hx410_0:=(cell_far (p:=⟨gb407,0,none⟩) (by first|(rw [add_block];exact hn410_0)|(show (Addr.add _ _).block≠_;rw [add_block];exact hn410_0)|exact hn410_0) (.int .i64 ((rd_T140 l0 x7_1).f0))).trans hx410_0;replace hx410_1:=(cell_far (p:=⟨gb407,0,none⟩) (by first|(rw [add_block];exact hn410_0)|(show (Addr.add _ _).block≠_;rw [add_block];exact hn410_0)|exact hn410_0) (.int .i64 ((rd_T140 l0 x7_1).f0))).trans hx410_1;replace hx410_0:=(cell_far (p:=⟨gb407,1,none⟩) (by first|(rw [add_block];exact hn410_1)|(show (Addr.add _ _).block≠_;rw [add_block];exact hn410_1)|exact hn410_1) (.int .i64 ((rd_T140 l0 x7_1).f1))).trans hx410_0;replace hx410_1:=(cell_far (p:=⟨gb407,1,none⟩) (by first|(rw [add_block];exact hn410_1)|(show (Addr.add _ _).block≠_;rw [add_block];exact hn410_1)|exact hn410_1) (.int .i64 ((rd_T140 l0 x7_1).f1))).trans hx410_1;(try have hy410_0:=fun (n_:Nat)=>(show ((((w14.drewN n_).setCell ⟨gb407,0,none⟩ (.int .i64 ((rd_T140 l0 x7_1).f0))).setCell ⟨gb407,1,none⟩ (.int .i64 ((rd_T140 l0 x7_1).f1)))).cell? _=some _ from hx410_0));(try have hy410_1:=fun (n_:Nat)=>(show ((((w14.drewN n_).setCell ⟨gb407,0,none⟩ (.int .i64 ((rd_T140 l0 x7_1).f0))).setCell ⟨gb407,1,none⟩ (.int .i64 ((rd_T140 l0 x7_1).f1)))).cell? _=some _ from hx410_1));clear hn410_0;clear hn410_1;replace p410:=eq_true p410;replace q410:=eq_true q410)))
            go_ret
            exact ⟨by first|rfl|(simp [errW_none,errW_some]<;>rfl)|(simp only [← hji10];first|rfl|(simp [errW_none,errW_some]<;>rfl))|(simp [*,errW_none,errW_some]<;>rfl),pS HB.out⟩
           ·rw [if_neg c13] at H;have c13b0:decide (((rd_T140 l0 x7_1).f0)≤((rd_T140 l0 (ji10)).f0))=false:=decide_eq_false c13;clear c13;have H':=mA H;clear H;have p406:0≤(x7_1:Int):=of_decide_eq_true bA;have q406:x7_1<(l0.length:Int):=of_decide_eq_true bA;obtain ⟨ad406,e406,hx406_0,hx406_1⟩:=at_T140 HR0.out x7_1 p406 q406;cases e406;replace hx406_0:=hC HB hx406_0;replace hx406_1:=hC HB hx406_1;replace p406:=eq_true p406;replace q406:=eq_true q406
            go_wp2_with (first|((with_reducible refine gT 4 rfl ?_);refine bE 4 #[.int .i64 0,.int .i64 0] 140 ?_;intro gb407 hg w16 hbox hb;have BK407:=mA hbox;have GW407:=gbpB HB hg;have GE407:=gbpB HB hg;replace HB:=spB HB hb;clear hb hbox hg;obtain ⟨hcz17_0,hcz17_1,hfz17_0,hfz17_1⟩:=box2 BK407.out)|(go_at_call 74;(with_reducible refine (impl_in.calls A5.out).mono ?_);rintro e w' ⟨rfl,⟨nd,rfl⟩⟩;(try first|exact ⟨rfl,_,World.drewN_drewN _ _ _⟩|exact ⟨rfl,_,Eq.trans (World.drewN_drewN _ _ _) (congrArg (World.drewN _) (Nat.add_assoc _ _ _))⟩))|(go_at_call 74;(with_reducible refine (impl_in.calls A7.out).mono ?_);rintro e w' ⟨rfl,⟨nd,rfl⟩⟩;(try first|exact ⟨rfl,_,World.drewN_drewN _ _ _⟩|exact ⟨rfl,_,Eq.trans (World.drewN_drewN _ _ _) (congrArg (World.drewN _) (Nat.add_assoc _ _ _))⟩);have p410:0≤((ji10):Int):=of_decide_eq_true bA;have q410:(ji10)<(l0.length:Int):=of_decide_eq_true bA;obtain ⟨ad410,e410,hx410_0,hx410_1⟩:=at_T140 HR0.out (ji10) p410 q410;obtain rfl:ad406=ad410:=(by injection e410);have hn410_0:ad406.block≠gb407:=Nat.ne_of_lt (Nat.lt_of_lt_of_le (by have:=World.block_lt_of_cell? _ _ hx410_0;first|rwa [add_block] at this|exact this) GW407.out);have hn410_1:ad406.block≠gb407:=Nat.ne_of_lt (Nat.lt_of_lt_of_le (by have:=World.block_lt_of_cell? _ _ hx410_0;first|rwa [add_block] at this|exact this) GW407.out);replace hx410_0:=hC HB hx410_0;replace hx410_1:=hC HB hx410_1;replace hx410_0:=(cell_far (p:=⟨gb407,0,none⟩) (by first|(rw [add_block];exact hn410_0)|(show (Addr.add _ _).block≠_;rw [add_block];exact hn410_0)|exact hn410_0) (.int .i64 ((rd_T140 l0 x7_1).f0))).trans hx410_0;replace hx410_1:=(cell_far (p:=⟨gb407,0,none⟩) (by first|(rw [add_block];exact hn410_0)|(show (Addr.add _ _).block≠_;rw [add_block];exact hn410_0)|exact hn410_0) (.int .i64 ((rd_T140 l0 x7_1).f0))).trans hx410_1;replace hx410_0:=(cell_far (p:=⟨gb407,1,none⟩) (by first|(rw [add_block];exact hn410_1)|(show (Addr.add _ _).block≠_;rw [add_block];exact hn410_1)|exact hn410_1) (.int .i64 ((rd_T140 l0 x7_1).f1))).trans hx410_0;replace hx410_1:=(cell_far (p:=⟨gb407,1,none⟩) (by first|(rw [add_block];exact hn410_1)|(show (Addr.add _ _).block≠_;rw [add_block];exact hn410_1)|exact hn410_1) (.int .i64 ((rd_T140 l0 x7_1).f1))).trans hx410_1;(try have hy410_0:=fun (n_:Nat)=>(show ((((w16.drewN n_).setCell ⟨gb407,0,none⟩ (.int .i64 ((rd_T140 l0 x7_1).f0))).setCell ⟨gb407,1,none⟩ (.int .i64 ((rd_T140 l0 x7_1).f1)))).cell? _=some _ from hx410_0));(try have hy410_1:=fun (n_:Nat)=>(show ((((w16.drewN n_).setCell ⟨gb407,0,none⟩ (.int .i64 ((rd_T140 l0 x7_1).f0))).setCell ⟨gb407,1,none⟩ (.int .i64 ((rd_T140 l0 x7_1).f1)))).cell? _=some _ from hx410_1));clear hn410_0;clear hn410_1;replace p410:=eq_true p410;replace q410:=eq_true q410))
            repeat (go_quiet (first|((with_reducible refine gT 4 rfl ?_);refine bE 4 #[.int .i64 0,.int .i64 0] 140 ?_;intro gb407 hg w16 hbox hb;have BK407:=mA hbox;have GW407:=gbpB HB hg;have GE407:=gbpB HB hg;replace HB:=spB HB hb;clear hb hbox hg;obtain ⟨hcz17_0,hcz17_1,hfz17_0,hfz17_1⟩:=box2 BK407.out)|(go_at_call 74;(with_reducible refine (impl_in.calls A5.out).mono ?_);rintro e w' ⟨rfl,⟨nd,rfl⟩⟩;(try first|exact ⟨rfl,_,World.drewN_drewN _ _ _⟩|exact ⟨rfl,_,Eq.trans (World.drewN_drewN _ _ _) (congrArg (World.drewN _) (Nat.add_assoc _ _ _))⟩))|(go_at_call 74;(with_reducible refine (impl_in.calls A7.out).mono ?_);rintro e w' ⟨rfl,⟨nd,rfl⟩⟩;(try first|exact ⟨rfl,_,World.drewN_drewN _ _ _⟩|exact ⟨rfl,_,Eq.trans (World.drewN_drewN _ _ _) (congrArg (World.drewN _) (Nat.add_assoc _ _ _))⟩);have p410:0≤((ji10):Int):=of_decide_eq_true bA;have q410:(ji10)<(l0.length:Int):=of_decide_eq_true bA;obtain ⟨ad410,e410,hx410_0,hx410_1⟩:=at_T140 HR0.out (ji10) p410 q410;obtain rfl:ad406=ad410:=(by injection e410);have hn410_0:ad406.block≠gb407:=Nat.ne_of_lt (Nat.lt_of_lt_of_le (by have:=World.block_lt_of_cell? _ _ hx410_0;first|rwa [add_block] at this|exact this) GW407.out);have hn410_1:ad406.block≠gb407:=Nat.ne_of_lt (Nat.lt_of_lt_of_le (by have:=World.block_lt_of_cell? _ _ hx410_0;first|rwa [add_block] at this|exact this) GW407.out);replace hx410_0:=hC HB hx410_0;replace hx410_1:=hC HB hx410_1;replace hx410_0:=(cell_far (p:=⟨gb407,0,none⟩) (by first|(rw [add_block];exact hn410_0)|(show (Addr.add _ _).block≠_;rw [add_block];exact hn410_0)|exact hn410_0) (.int .i64 ((rd_T140 l0 x7_1).f0))).trans hx410_0;replace hx410_1:=(cell_far (p:=⟨gb407,0,none⟩) (by first|(rw [add_block];exact hn410_0)|(show (Addr.add _ _).block≠_;rw [add_block];exact hn410_0)|exact hn410_0) (.int .i64 ((rd_T140 l0 x7_1).f0))).trans hx410_1;replace hx410_0:=(cell_far (p:=⟨gb407,1,none⟩) (by first|(rw [add_block];exact hn410_1)|(show (Addr.add _ _).block≠_;rw [add_block];exact hn410_1)|exact hn410_1) (.int .i64 ((rd_T140 l0 x7_1).f1))).trans hx410_0;replace hx410_1:=(cell_far (p:=⟨gb407,1,none⟩) (by first|(rw [add_block];exact hn410_1)|(show (Addr.add _ _).block≠_;rw [add_block];exact hn410_1)|exact hn410_1) (.int .i64 ((rd_T140 l0 x7_1).f1))).trans hx410_1;(try have hy410_0:=fun (n_:Nat)=>(show ((((w16.drewN n_).setCell ⟨gb407,0,none⟩ (.int .i64 ((rd_T140 l0 x7_1).f0))).setCell ⟨gb407,1,none⟩ (.int .i64 ((rd_T140 l0 x7_1).f1)))).cell? _=some _ from hx410_0));(try have hy410_1:=fun (n_:Nat)=>(show ((((w16.drewN n_).setCell ⟨gb407,0,none⟩ (.int .i64 ((rd_T140 l0 x7_1).f0))).setCell ⟨gb407,1,none⟩ (.int .i64 ((rd_T140 l0 x7_1).f1)))).cell? _=some _ from hx410_1));clear hn410_0;clear hn410_1;replace p410:=eq_true p410;replace q410:=eq_true q410));try go_wp2_with (first|((with_reducible refine gT 4 rfl ?_);refine bE 4 #[.int .i64 0,.int .i64 0] 140 ?_;intro gb407 hg w16 hbox hb;have BK407:=mA hbox;have GW407:=gbpB HB hg;have GE407:=gbpB HB hg;replace HB:=spB HB hb;clear hb hbox hg;obtain ⟨hcz17_0,hcz17_1,hfz17_0,hfz17_1⟩:=box2 BK407.out)|(go_at_call 74;(with_reducible refine (impl_in.calls A5.out).mono ?_);rintro e w' ⟨rfl,⟨nd,rfl⟩⟩;(try first|exact ⟨rfl,_,World.drewN_drewN _ _ _⟩|exact ⟨rfl,_,Eq.trans (World.drewN_drewN _ _ _) (congrArg (World.drewN _) (Nat.add_assoc _ _ _))⟩))|(go_at_call 74;(with_reducible refine (impl_in.calls A7.out).mono ?_);rintro e w' ⟨rfl,⟨nd,rfl⟩⟩;(try first|exact ⟨rfl,_,World.drewN_drewN _ _ _⟩|exact ⟨rfl,_,Eq.trans (World.drewN_drewN _ _ _) (congrArg (World.drewN _) (Nat.add_assoc _ _ _))⟩);have p410:0≤((ji10):Int):=of_decide_eq_true bA;have q410:(ji10)<(l0.length:Int):=of_decide_eq_true bA;obtain ⟨ad410,e410,hx410_0,hx410_1⟩:=at_T140 HR0.out (ji10) p410 q410;obtain rfl:ad406=ad410:=(by injection e410);have hn410_0:ad406.block≠gb407:=Nat.ne_of_lt (Nat.lt_of_lt_of_le (by have:=World.block_lt_of_cell? _ _ hx410_0;first|rwa [add_block] at this|exact this) GW407.out);have hn410_1:ad406.block≠gb407:=Nat.ne_of_lt (Nat.lt_of_lt_of_le (by have:=World.block_lt_of_cell? _ _ hx410_0;first|rwa [add_block] at this|exact this) GW407.out);replace hx410_0:=hC HB hx410_0;replace hx410_1:=hC HB hx410_1;replace hx410_0:=(cell_far (p:=⟨gb407,0,none⟩) (by first|(rw [add_block];exact hn410_0)|(show (Addr.add _ _).block≠_;rw [add_block];exact hn410_0)|exact hn410_0) (.int .i64 ((rd_T140 l0 x7_1).f0))).trans hx410_0;replace hx410_1:=(cell_far (p:=⟨gb407,0,none⟩) (by first|(rw [add_block];exact hn410_0)|(show (Addr.add _ _).block≠_;rw [add_block];exact hn410_0)|exact hn410_0) (.int .i64 ((rd_T140 l0 x7_1).f0))).trans hx410_1;replace hx410_0:=(cell_far (p:=⟨gb407,1,none⟩) (by first|(rw [add_block];exact hn410_1)|(show (Addr.add _ _).block≠_;rw [add_block];exact hn410_1)|exact hn410_1) (.int .i64 ((rd_T140 l0 x7_1).f1))).trans hx410_0;replace hx410_1:=(cell_far (p:=⟨gb407,1,none⟩) (by first|(rw [add_block];exact hn410_1)|(show (Addr.add _ _).block≠_;rw [add_block];exact hn410_1)|exact hn410_1) (.int .i64 ((rd_T140 l0 x7_1).f1))).trans hx410_1;(try have hy410_0:=fun (n_:Nat)=>(show ((((w16.drewN n_).setCell ⟨gb407,0,none⟩ (.int .i64 ((rd_T140 l0 x7_1).f0))).setCell ⟨gb407,1,none⟩ (.int .i64 ((rd_T140 l0 x7_1).f1)))).cell? _=some _ from hx410_0));(try have hy410_1:=fun (n_:Nat)=>(show ((((w16.drewN n_).setCell ⟨gb407,0,none⟩ (.int .i64 ((rd_T140 l0 x7_1).f0))).setCell ⟨gb407,1,none⟩ (.int .i64 ((rd_T140 l0 x7_1).f1)))).cell? _=some _ from hx410_1));clear hn410_0;clear hn410_1;replace p410:=eq_true p410;replace q410:=eq_true q410)))
            go_roundg k1
            case measure=>have:=HK1.out;omega
            case rel=>exact ⟨(wrap64 (x7_1+1)),bZ,H',⟨by have:=HK1.out;omega⟩,⟨pS HB.out⟩⟩
          ·rw [if_neg c12] at H
           exact absurd H (by simp)
         ·rw [if_neg c11] at H
          exact absurd H (by simp)
        ·rw [if_neg c9] at H;have c9b0:decide (0<x7_1)=false:=decide_eq_false c9;clear c9;have H':=mA H;clear H;have p406:0≤(x7_1:Int):=of_decide_eq_true bA;have q406:x7_1<(l0.length:Int):=of_decide_eq_true bA;obtain ⟨ad406,e406,hx406_0,hx406_1⟩:=at_T140 HR0.out x7_1 p406 q406;cases e406;replace hx406_0:=hC HB hx406_0;replace hx406_1:=hC HB hx406_1;replace p406:=eq_true p406;replace q406:=eq_true q406
         go_wp2_with (first|((with_reducible refine gT 4 rfl ?_);refine bE 4 #[.int .i64 0,.int .i64 0] 140 ?_;intro gb407 hg w18 hbox hb;have BK407:=mA hbox;have GW407:=gbpB HB hg;have GE407:=gbpB HB hg;replace HB:=spB HB hb;clear hb hbox hg;obtain ⟨hcz19_0,hcz19_1,hfz19_0,hfz19_1⟩:=box2 BK407.out)|(go_at_call 74;(with_reducible refine (impl_in.calls A5.out).mono ?_);rintro e w' ⟨rfl,⟨nd,rfl⟩⟩;(try first|exact ⟨rfl,_,World.drewN_drewN _ _ _⟩|exact ⟨rfl,_,Eq.trans (World.drewN_drewN _ _ _) (congrArg (World.drewN _) (Nat.add_assoc _ _ _))⟩))|(go_at_call 74;(with_reducible refine (impl_in.calls A7.out).mono ?_);rintro e w' ⟨rfl,⟨nd,rfl⟩⟩;(try first|exact ⟨rfl,_,World.drewN_drewN _ _ _⟩|exact ⟨rfl,_,Eq.trans (World.drewN_drewN _ _ _) (congrArg (World.drewN _) (Nat.add_assoc _ _ _))⟩)))
         repeat (go_quiet (first|((with_reducible refine gT 4 rfl ?_);refine bE 4 #[.int .i64 0,.int .i64 0] 140 ?_;intro gb407 hg w18 hbox hb;have BK407:=mA hbox;have GW407:=gbpB HB hg;have GE407:=gbpB HB hg;replace HB:=spB HB hb;clear hb hbox hg;obtain ⟨hcz19_0,hcz19_1,hfz19_0,hfz19_1⟩:=box2 BK407.out)|(go_at_call 74;(with_reducible refine (impl_in.calls A5.out).mono ?_);rintro e w' ⟨rfl,⟨nd,rfl⟩⟩;(try first|exact ⟨rfl,_,World.drewN_drewN _ _ _⟩|exact ⟨rfl,_,Eq.trans (World.drewN_drewN _ _ _) (congrArg (World.drewN _) (Nat.add_assoc _ _ _))⟩))|(go_at_call 74;(with_reducible refine (impl_in.calls A7.out).mono ?_);rintro e w' ⟨rfl,⟨nd,rfl⟩⟩;(try first|exact ⟨rfl,_,World.drewN_drewN _ _ _⟩|exact ⟨rfl,_,Eq.trans (World.drewN_drewN _ _ _) (congrArg (World.drewN _) (Nat.add_assoc _ _ _))⟩)));try go_wp2_with (first|((with_reducible refine gT 4 rfl ?_);refine bE 4 #[.int .i64 0,.int .i64 0] 140 ?_;intro gb407 hg w18 hbox hb;have BK407:=mA hbox;have GW407:=gbpB HB hg;have GE407:=gbpB HB hg;replace HB:=spB HB hb;clear hb hbox hg;obtain ⟨hcz19_0,hcz19_1,hfz19_0,hfz19_1⟩:=box2 BK407.out)|(go_at_call 74;(with_reducible refine (impl_in.calls A5.out).mono ?_);rintro e w' ⟨rfl,⟨nd,rfl⟩⟩;(try first|exact ⟨rfl,_,World.drewN_drewN _ _ _⟩|exact ⟨rfl,_,Eq.trans (World.drewN_drewN _ _ _) (congrArg (World.drewN _) (Nat.add_assoc _ _ _))⟩))|(go_at_call 74;(with_reducible refine (impl_in.calls A7.out).mono ?_);rintro e w' ⟨rfl,⟨nd,rfl⟩⟩;(try first|exact ⟨rfl,_,World.drewN_drewN _ _ _⟩|exact ⟨rfl,_,Eq.trans (World.drewN_drewN _ _ _) (congrArg (World.drewN _) (Nat.add_assoc _ _ _))⟩))))
         go_roundg k1
         case measure=>have:=HK1.out;omega
         case rel=>exact ⟨(wrap64 (x7_1+1)),bZ,H',⟨by have:=HK1.out;omega⟩,⟨pS HB.out⟩⟩
       ·replace c8:=Bool.eq_false_iff.mpr c8;subst c8
        rw [if_neg nFT] at H
        obtain rfl:=Option.some.inj H;have p406:0≤(x7_1:Int):=of_decide_eq_true bA;have q406:x7_1<(l0.length:Int):=of_decide_eq_true bA;obtain ⟨ad406,e406,hx406_0,hx406_1⟩:=at_T140 HR0.out x7_1 p406 q406;cases e406;replace hx406_0:=hC HB hx406_0;replace hx406_1:=hC HB hx406_1;replace p406:=eq_true p406;replace q406:=eq_true q406
        go_wp2_with (first|((with_reducible refine gT 4 rfl ?_);refine bE 4 #[.int .i64 0,.int .i64 0] 140 ?_;intro gb407 hg w20 hbox hb;have BK407:=mA hbox;have GW407:=gbpB HB hg;have GE407:=gbpB HB hg;replace HB:=spB HB hb;clear hb hbox hg;obtain ⟨hcz21_0,hcz21_1,hfz21_0,hfz21_1⟩:=box2 BK407.out)|(go_at_call 74;(with_reducible refine (impl_in.calls A5.out).mono ?_);rintro e w' ⟨rfl,⟨nd,rfl⟩⟩;(try first|exact ⟨rfl,_,World.drewN_drewN _ _ _⟩|exact ⟨rfl,_,Eq.trans (World.drewN_drewN _ _ _) (congrArg (World.drewN _) (Nat.add_assoc _ _ _))⟩))|(go_at_call 74;(with_reducible refine (impl_in.calls A7.out).mono ?_);rintro e w' ⟨rfl,⟨nd,rfl⟩⟩;(try first|exact ⟨rfl,_,World.drewN_drewN _ _ _⟩|exact ⟨rfl,_,Eq.trans (World.drewN_drewN _ _ _) (congrArg (World.drewN _) (Nat.add_assoc _ _ _))⟩)))
        repeat (go_quiet (first|((with_reducible refine gT 4 rfl ?_);refine bE 4 #[.int .i64 0,.int .i64 0] 140 ?_;intro gb407 hg w20 hbox hb;have BK407:=mA hbox;have GW407:=gbpB HB hg;have GE407:=gbpB HB hg;replace HB:=spB HB hb;clear hb hbox hg;obtain ⟨hcz21_0,hcz21_1,hfz21_0,hfz21_1⟩:=box2 BK407.out)|(go_at_call 74;(with_reducible refine (impl_in.calls A5.out).mono ?_);rintro e w' ⟨rfl,⟨nd,rfl⟩⟩;(try first|exact ⟨rfl,_,World.drewN_drewN _ _ _⟩|exact ⟨rfl,_,Eq.trans (World.drewN_drewN _ _ _) (congrArg (World.drewN _) (Nat.add_assoc _ _ _))⟩))|(go_at_call 74;(with_reducible refine (impl_in.calls A7.out).mono ?_);rintro e w' ⟨rfl,⟨nd,rfl⟩⟩;(try first|exact ⟨rfl,_,World.drewN_drewN _ _ _⟩|exact ⟨rfl,_,Eq.trans (World.drewN_drewN _ _ _) (congrArg (World.drewN _) (Nat.add_assoc _ _ _))⟩)));try go_wp2_with (first|((with_reducible refine gT 4 rfl ?_);refine bE 4 #[.int .i64 0,.int .i64 0] 140 ?_;intro gb407 hg w20 hbox hb;have BK407:=mA hbox;have GW407:=gbpB HB hg;have GE407:=gbpB HB hg;replace HB:=spB HB hb;clear hb hbox hg;obtain ⟨hcz21_0,hcz21_1,hfz21_0,hfz21_1⟩:=box2 BK407.out)|(go_at_call 74;(with_reducible refine (impl_in.calls A5.out).mono ?_);rintro e w' ⟨rfl,⟨nd,rfl⟩⟩;(try first|exact ⟨rfl,_,World.drewN_drewN _ _ _⟩|exact ⟨rfl,_,Eq.trans (World.drewN_drewN _ _ _) (congrArg (World.drewN _) (Nat.add_assoc _ _ _))⟩))|(go_at_call 74;(with_reducible refine (impl_in.calls A7.out).mono ?_);rintro e w' ⟨rfl,⟨nd,rfl⟩⟩;(try first|exact ⟨rfl,_,World.drewN_drewN _ _ _⟩|exact ⟨rfl,_,Eq.trans (World.drewN_drewN _ _ _) (congrArg (World.drewN _) (Nat.add_assoc _ _ _))⟩))))
        go_ret
        exact rZ (pS HB.out)
      ·replace c6:=Bool.eq_false_iff.mpr c6;subst c6
       rw [if_neg nFT] at H
       obtain rfl:=Option.some.inj H;have p406:0≤(x7_1:Int):=of_decide_eq_true bA;have q406:x7_1<(l0.length:Int):=of_decide_eq_true bA;obtain ⟨ad406,e406,hx406_0,hx406_1⟩:=at_T140 HR0.out x7_1 p406 q406;cases e406;replace hx406_0:=hC HB hx406_0;replace hx406_1:=hC HB hx406_1;replace p406:=eq_true p406;replace q406:=eq_true q406
       go_wp2_with (first|((with_reducible refine gT 4 rfl ?_);refine bE 4 #[.int .i64 0,.int .i64 0] 140 ?_;intro gb407 hg w22 hbox hb;have BK407:=mA hbox;have GW407:=gbpB HB hg;have GE407:=gbpB HB hg;replace HB:=spB HB hb;clear hb hbox hg;obtain ⟨hcz23_0,hcz23_1,hfz23_0,hfz23_1⟩:=box2 BK407.out)|(go_at_call 74;(with_reducible refine (impl_in.calls A5.out).mono ?_);rintro e w' ⟨rfl,⟨nd,rfl⟩⟩;(try first|exact ⟨rfl,_,World.drewN_drewN _ _ _⟩|exact ⟨rfl,_,Eq.trans (World.drewN_drewN _ _ _) (congrArg (World.drewN _) (Nat.add_assoc _ _ _))⟩)))
       repeat (go_quiet (first|((with_reducible refine gT 4 rfl ?_);refine bE 4 #[.int .i64 0,.int .i64 0] 140 ?_;intro gb407 hg w22 hbox hb;have BK407:=mA hbox;have GW407:=gbpB HB hg;have GE407:=gbpB HB hg;replace HB:=spB HB hb;clear hb hbox hg;obtain ⟨hcz23_0,hcz23_1,hfz23_0,hfz23_1⟩:=box2 BK407.out)|(go_at_call 74;(with_reducible refine (impl_in.calls A5.out).mono ?_);rintro e w' ⟨rfl,⟨nd,rfl⟩⟩;(try first|exact ⟨rfl,_,World.drewN_drewN _ _ _⟩|exact ⟨rfl,_,Eq.trans (World.drewN_drewN _ _ _) (congrArg (World.drewN _) (Nat.add_assoc _ _ _))⟩)));try go_wp2_with (first|((with_reducible refine gT 4 rfl ?_);refine bE 4 #[.int .i64 0,.int .i64 0] 140 ?_;intro gb407 hg w22 hbox hb;have BK407:=mA hbox;have GW407:=gbpB HB hg;have GE407:=gbpB HB hg;replace HB:=spB HB hb;clear hb hbox hg;obtain ⟨hcz23_0,hcz23_1,hfz23_0,hfz23_1⟩:=box2 BK407.out)|(go_at_call 74;(with_reducible refine (impl_in.calls A5.out).mono ?_);rintro e w' ⟨rfl,⟨nd,rfl⟩⟩;(try first|exact ⟨rfl,_,World.drewN_drewN _ _ _⟩|exact ⟨rfl,_,Eq.trans (World.drewN_drewN _ _ _) (congrArg (World.drewN _) (Nat.add_assoc _ _ _))⟩))))
       go_ret
       exact rZ (pS HB.out)
     ·rw [if_neg c4] at H
      exact absurd H (by simp)
    ·rw [if_neg c3] at H
     exact absurd H (by simp)
   ·rw [if_neg c2] at H;have c2b0:decide (x7_1<(l0.length:Int))=false:=decide_eq_false c2;clear c2;obtain rfl:=Option.some.inj H
    go_wp2
    repeat (go_quiet (fail);try go_wp2)
    go_ret
    exact rZ (pB HB.out)
end Go.Proofs.Ytoieojmfkkidnaa.P
