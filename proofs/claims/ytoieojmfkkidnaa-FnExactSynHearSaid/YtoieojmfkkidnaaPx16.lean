-- printed by pprint.py (this session's program over the kit's printer) out of the translation. Lean checks it.
import Derived.Test.YtoieojmfkkidnaaPx0
namespace Go.Proofs.Ytoieojmfkkidnaa.P
open Go.RowKit Go.Proofs.YtoieojmfkkidnaaX Go.Proofs.YtoieojmfkkidnaaW.PrintWords Go.Proofs.YtoieojmfkkidnaaW.PrintLast Go.Proofs.YtoieojmfkkidnaaW.PrintMore
attribute [local go_sem] max2_int min2_int max_two min_two max_three min_three max_four min_four   -- for this text's walks alone
set_option linter.unusedVariables false
set_option linter.unusedSimpArgs false
/-! ### impl_cmdNumbers: function 126 -/
def impl_cmdNumbers.f (a0_0 a0_1 a0_2 a0_3 a0_4 a0_5 a0_6 a0_7 a0_8 a0_9 : Int) : Option (List Int) := some (([a0_0, a0_1, a0_2, a0_3, a0_4, a0_5, a0_6, a0_7, a0_8, a0_9] : List Int))
set_option maxHeartbeats 8000000 in
set_option maxRecDepth 100000 in
theorem impl_cmdNumbers.calls {a0_0 a0_1 a0_2 a0_3 a0_4 a0_5 a0_6 a0_7 a0_8 a0_9 : Int} {r : List Int} {w : World} (h : impl_cmdNumbers.f a0_0 a0_1 a0_2 a0_3 a0_4 a0_5 a0_6 a0_7 a0_8 a0_9 = some r) :
  Calls Try.prog 126 #[.agg #[.int .i64 a0_0,.int .i64 a0_1,.int .i64 a0_2,.int .i64 a0_3,.int .i64 a0_4,.int .i64 a0_5,.int .i64 a0_6,.int .i64 a0_7,.int .i64 a0_8,.int .i64 a0_9]] w fun e w'=>∃ v0_:Value,e=.returned (v0_)∧Kd.R (Kd.int .i64) 3 w' w.heap.size (fun _=>True) v0_ r∧Below w.heap.size w w':=by
 have hu24:=Try.underlying24;have HB:=mA (Below.refl w.heap.size w);have H:(some (([a0_0,a0_1,a0_2,a0_3,a0_4,a0_5,a0_6,a0_7,a0_8,a0_9]:List Int)))=some r:=h;clear h;obtain ⟨y447,hy447⟩:∃ y_:List Int,y_=(([a0_0,a0_1,a0_2,a0_3,a0_4,a0_5,a0_6,a0_7,a0_8,a0_9]:List Int)):=⟨_,rfl⟩
 replace H:(some y447)=some r:=qH hy447 H
 have Ny447:=mA hy447;clear hy447;obtain rfl:=Option.some.inj H
 go_enter Try.func126,Try.ntmps126
 go_wp2_with (first|((with_reducible refine gLg rfl (by assumption) ?_);refine ldV ?_)|((with_reducible refine gSt rfl (by assumption) ?_);refine stV ?_)|((with_reducible refine gT 1 rfl ?_);refine bX 1 ?_;intro gb446 hg w2 hbox hb;have BK446:=mA hbox;have GW446:=gbpB HB hg;have GE446:=gbpB HB hg;replace HB:=spB HB hb;clear hb hbox hg;have hcz3_0:=fun i_=>blk_cell BK446.out i_;have hfz3_0:=fun i_=>blk_frozen BK446.out i_)|((with_reducible refine gT 23 rfl ?_);refine Kd.R_lit (Kd.int .i64) _ 3 ?hg (N:=23) ?hd (xs:=([a0_0,a0_1,a0_2,a0_3,a0_4,a0_5,a0_6,a0_7,a0_8,a0_9]:List Int)) (inner:=[.int .i64 a0_0,.int .i64 a0_1,.int .i64 a0_2,.int .i64 a0_3,.int .i64 a0_4,.int .i64 a0_5,.int .i64 a0_6,.int .i64 a0_7,.int .i64 a0_8,.int .i64 a0_9]) (ok:=fun _=>True) (okp:=fun _=>True) ?hr ?hp (fun _ hk=>hk) trivial (Below.refl _ _) (Nat.le_refl _) (by simp) ?_;(case hd=>rfl);(case hg=>rfl);(case hr=>first|(go_simp;done)|(go_simp;rfl));(case hp=>repeat (first|exact Reps.none _ _|refine Reps.one (show Kd.M (Kd.int .i64) _ _ _ _ [_] from rfl) ?_));intro v448 w4 ho5 hb hg_ hnew_;clear hg_ hnew_;(first|rw [← Ny447.out] at ho5|(simp only [Int.reduceToNat] at ho5;rw [← Ny447.out] at ho5));have HO449:=mA (Kd.R_lower ho5 (bpS HB));replace BK446:=bK BK446 hb;replace HB:=spS HB hb;clear hb ho5))
 go_ret
 exact ⟨_,by first|rfl|(simp [errW_none,errW_some]<;>rfl)|(simp [*,errW_none,errW_some]<;>rfl),pR HO449.out,pS HB.out⟩
/-! ### impl_piecesNumbers: function 127 -/
def impl_piecesNumbers.l0 : Nat → List Int → List (S138) → Int → Int → Option (List Int)
 | 0,_,_,_,_=>none
 | k+1,x3,x9,x10,x11=>if x11<x10 then (if 0≤x11 then (if x11<(x9.length:Int) then ((some (([(rd_T138 x9 x11).f0,(rd_T138 x9 x11).f1,(rd_T138 x9 x11).f2,(rd_T138 x9 x11).f3]:List Int):List Int)).bind fun y455=>(if x3.length+y455.length<17592186044416 then (impl_piecesNumbers.l0 k (x3 ++ y455) x9 x10 (wrap64 (x11+1))) else (none))) else (none)) else (none)) else (some x3)
def impl_piecesNumbers.f (k : Nat) (l0 : List (S138)) : Option (List Int) := impl_piecesNumbers.l0 k (([(l0.length : Int)] : List Int)) l0 (l0.length : Int) 0
set_option maxHeartbeats 8000000 in
set_option maxRecDepth 100000 in
theorem impl_piecesNumbers.calls {k : Nat} {A0 : Option Addr} {c0 : Nat} {l0 : List (S138)} {r : List Int} {w : World} (hr0 : Kd.C k138 w A0 l0.length l0) (hc0 : l0.length ≤ c0) (h : impl_piecesNumbers.f k l0 = some r) :
  Calls Try.prog 127 #[.slice A0 l0.length c0] w fun e w'=>∃ v0_:Value,e=.returned (v0_)∧Kd.R (Kd.int .i64) 3 w' w.heap.size (fun _=>True) v0_ r∧Below w.heap.size w w':=by
 have hu138:=Try.underlying138;have HR0:=mA hr0;have HC0:=mA hc0;clear hr0 hc0;have HB:=mA (Below.refl w.heap.size w);have H:(impl_piecesNumbers.l0 k (([(l0.length:Int)]:List Int)) l0 (l0.length:Int) 0)=some r:=h;clear h;obtain ⟨y450,hy450⟩:∃ y_:List Int,y_=(([(l0.length:Int)]:List Int)):=⟨_,rfl⟩
 replace H:(impl_piecesNumbers.l0 k y450 l0 (l0.length:Int) 0)=some r:=qH hy450 H
 have Ny450:=mA hy450;clear hy450;have H':=mA H;clear H
 go_enter Try.func127,Try.ntmps127
 go_wp2_with (first|((with_reducible refine gT 8 rfl ?_);refine Kd.R_lit (Kd.int .i64) _ 3 ?hg (N:=8) ?hd (xs:=([(l0.length:Int)]:List Int)) (inner:=[.int .i64 (l0.length:Int)]) (ok:=fun _=>True) (okp:=fun _=>True) ?hr ?hp (fun _ hk=>hk) trivial (Below.refl _ _) (Nat.le_refl _) (by simp) ?_;(case hd=>rfl);(case hg=>rfl);(case hr=>first|(go_simp;done)|(go_simp;rfl));(case hp=>exact (Reps.one (show Kd.M (Kd.int .i64) _ _ _ (l0.length:Int) [.int .i64 (l0.length:Int)] from rfl) (Reps.none _ _)));intro v451 w2 ho3 hb hg_ hnew_;clear hg_ hnew_;(first|rw [← Ny450.out] at ho3|(simp only [Int.reduceToNat] at ho3;rw [← Ny450.out] at ho3));have HO452:=mA (Kd.R_lower ho3 (bpB HB));replace HB:=spB HB hb;clear hb ho3))
 go_loopg [3,11] k (fun kq v3 v11 w'=>∃ (x3_1:List Int) (x11_1:Int),v11=.int .i64 x11_1∧Aside0 (impl_piecesNumbers.l0 kq x3_1 l0 (l0.length:Int) x11_1=some r)∧Aside0 (kq≤k)∧Aside0 (Kd.R (Kd.int .i64) 3 w' w.heap.size (fun _=>True) v3 x3_1)∧Aside0 (Below w.heap.size w w'))
 case atStart=>exact ⟨(y450),(0),bZ,H',⟨Nat.le_refl _⟩,⟨pR HO452.out⟩,⟨pB HB.out⟩⟩
 case round =>
  clear H'
  obtain ⟨x3_1,x11_1,rfl,HA,HK1,HO_3,HB⟩:=hrel
  cases gk with
  | zero=>exact absurd HA.out (by simp [impl_piecesNumbers.l0])
  | succ k1 =>
   have H:=HA.out;clear HA;simp only [impl_piecesNumbers.l0] at H
   by_cases c4:x11_1<(l0.length:Int)
   ·rw [if_pos c4] at H;have c4b0:decide (x11_1<(l0.length:Int))=true:=decide_eq_true c4;clear c4
    by_cases c5:0≤x11_1
    ·rw [if_pos c5] at H;have c5b0:decide (0≤x11_1)=true:=decide_eq_true c5;clear c5
     by_cases c6:x11_1<(l0.length:Int)
     ·rw [if_pos c6] at H;have c6b0:decide (x11_1<(l0.length:Int))=true:=decide_eq_true c6;clear c6;obtain ⟨y455,hy455⟩:∃ y_:List Int,y_=(([(rd_T138 l0 x11_1).f0,(rd_T138 l0 x11_1).f1,(rd_T138 l0 x11_1).f2,(rd_T138 l0 x11_1).f3]:List Int)):=⟨_,rfl⟩
      replace H:(if x3_1.length+y455.length<17592186044416 then (impl_piecesNumbers.l0 k1 (x3_1 ++ y455) l0 (l0.length:Int) (wrap64 (x11_1+1))) else (none))=some r:=qH hy455 H
      have Ny455:=mA hy455;clear hy455
      by_cases c7:x3_1.length+y455.length<17592186044416
      ·rw [if_pos c7] at H;have LMc7:=mA c7;clear c7;obtain ⟨y458,hy458⟩:∃ y_:List Int,y_=(x3_1 ++ y455):=⟨_,rfl⟩
       replace H:(impl_piecesNumbers.l0 k1 y458 l0 (l0.length:Int) (wrap64 (x11_1+1)))=some r:=qH hy458 H
       have Ny458:=mA hy458;clear hy458;have H':=mA H;clear H;have p453:0≤(x11_1:Int):=of_decide_eq_true bA;have q453:x11_1<(l0.length:Int):=of_decide_eq_true bA;obtain ⟨ad453,e453,hx453_0,hx453_1,hx453_2,hx453_3⟩:=at_T138 HR0.out x11_1 p453 q453;cases e453;replace hx453_0:=hC HB hx453_0;replace hx453_1:=hC HB hx453_1;replace hx453_2:=hC HB hx453_2;replace hx453_3:=hC HB hx453_3;replace p453:=eq_true p453;replace q453:=eq_true q453
       go_wp2_with (first|((with_reducible refine gT 5 rfl ?_);refine bJ 5 y138 ?_;intro gb454 hg w8 hbox hb;replace HO_3:=rB HO_3 hb;have BK454:=mA hbox;have GW454:=gbpB HB hg;have GE454:=gbpB HB hg;replace HB:=spB HB hb;clear hb hbox hg;obtain ⟨hcz9_0,hcz9_1,hcz9_2,hcz9_3,hfz9_0,hfz9_1,hfz9_2,hfz9_3⟩:=box4 BK454.out)|((with_reducible refine gT 24 rfl ?_);refine Kd.R_lit (Kd.int .i64) _ 3 ?hg (N:=24) ?hd (xs:=([(rd_T138 l0 x11_1).f0,(rd_T138 l0 x11_1).f1,(rd_T138 l0 x11_1).f2,(rd_T138 l0 x11_1).f3]:List Int)) (inner:=[.int .i64 ((rd_T138 l0 x11_1).f0),.int .i64 ((rd_T138 l0 x11_1).f1),.int .i64 ((rd_T138 l0 x11_1).f2),.int .i64 ((rd_T138 l0 x11_1).f3)]) (ok:=fun _=>True) (okp:=fun _=>True) ?hr ?hp (fun _ hk=>hk) trivial (Below.refl _ _) (Nat.le_refl _) (by simp) ?_;(case hd=>rfl);(case hg=>rfl);(case hr=>first|(go_simp;done)|(go_simp;rfl));(case hp=>repeat (first|exact Reps.none _ _|refine Reps.one (show Kd.M (Kd.int .i64) _ _ _ _ [_] from rfl) ?_));intro v456 w10 ho11 hb hg_ hnew_;clear hg_ hnew_;(first|rw [← Ny455.out] at ho11|(simp only [Int.reduceToNat] at ho11;rw [← Ny455.out] at ho11));have HO457:=mA (Kd.R_lower (Kd.R_new' ho11 (Kd.R_lt (pG HO_3 BK454))) (bpS HB));replace HO_3:=mA (Kd.R_elder' (pG HO_3 BK454) (Kd.R_base ho11) hb);replace BK454:=mA (blk_below (g:=gb454) (o:=.cells #[.int .i64 ((rd_T138 l0 x11_1).f0),.int .i64 ((rd_T138 l0 x11_1).f1),.int .i64 ((rd_T138 l0 x11_1).f2),.int .i64 ((rd_T138 l0 x11_1).f3)] 138 (0,0)) (pP BK454) hb);replace HB:=spS HB hb;clear hb ho11;obtain ⟨Ao13,co13,rfl⟩:=Kd.R_slice HO457.out)|((with_reducible refine gate_builtin (b:=.append) (xs:=#[.tmp 15,.tmp 24]) rfl ?_);at_builtin;refine Kd.R_append_rows (Kd.int .i64) (w0:=w) w.heap.size rfl (.tmp 15) (.tmp 24) 58 3 (.int .i64 0) 8 rfl Try.underlying58 info3 rfl aD (by omega) u3 x3_1 y455 _ _ _ (fun k_=>some k_≠(.slice Ao13 y455.length co13:Value).ownBlock) (fun _=>False) rfl rfl ?aO ?aR (fun _ _ h=>h) (fun _ h=>h.elim) ?aF ?aB ?aS ?aL ?_;(case aR=>exact cR HO457);(case aB=>exact (pS HB.out));(case aF=>exact (fun k_ hk=>Kd.fresh' (rL HO457) k_ hk));(case aO=>exact (pR (Kd.R_mono HO_3.out (fun _ hk=>hk.2))));(case aS=>exact (bpS HB));(case aL=>have:=LMc7.out;omega);intro v459 w12 ho hb hg hat;rw [← Ny458.out] at ho;replace HO457:=mA (Kd.R_after (ok:=(fun _=>True)) (pR HO457.out) hg hat);have HO460:=mA ho;replace BK454:=mA (blk_grown (pK BK454.out) hg (rN HO_3 BK454));replace HB:=mA hb;clear HO_3;clear ho hb hg hat))
       go_roundg k1
       case measure=>have:=HK1.out;omega
       case rel=>exact ⟨(y458),(wrap64 (x11_1+1)),bZ,H',⟨by have:=HK1.out;omega⟩,⟨pR (Kd.R_mono HO460.out (fun _ hk=>trivial))⟩,⟨pS HB.out⟩⟩
      ·rw [if_neg c7] at H
       exact absurd H (by simp)
     ·rw [if_neg c6] at H
      exact absurd H (by simp)
    ·rw [if_neg c5] at H
     exact absurd H (by simp)
   ·rw [if_neg c4] at H;have c4b0:decide (x11_1<(l0.length:Int))=false:=decide_eq_false c4;clear c4;obtain rfl:=Option.some.inj H
    go_wp2
    go_ret
    exact ⟨_,by first|rfl|(simp [errW_none,errW_some]<;>rfl)|(simp [*,errW_none,errW_some]<;>rfl),pR HO_3.out,pB HB.out⟩
/-! ### impl_lastNumbers: function 128 -/
def impl_lastNumbers.l0 : Nat → List Int → List (S140) → Int → Int → Option (List Int)
 | 0,_,_,_,_=>none
 | k+1,x3,x9,x10,x11=>if x11<x10 then (if 0≤x11 then (if x11<(x9.length:Int) then ((some (([(rd_T140 x9 x11).f0,(rd_T140 x9 x11).f1]:List Int):List Int)).bind fun y466=>(if x3.length+y466.length<17592186044416 then (impl_lastNumbers.l0 k (x3 ++ y466) x9 x10 (wrap64 (x11+1))) else (none))) else (none)) else (none)) else (some x3)
def impl_lastNumbers.f (k : Nat) (l0 : List (S140)) : Option (List Int) := impl_lastNumbers.l0 k (([(l0.length : Int)] : List Int)) l0 (l0.length : Int) 0
set_option maxHeartbeats 8000000 in
set_option maxRecDepth 100000 in
theorem impl_lastNumbers.calls {k : Nat} {A0 : Option Addr} {c0 : Nat} {l0 : List (S140)} {r : List Int} {w : World} (hr0 : Kd.C k140 w A0 l0.length l0) (hc0 : l0.length ≤ c0) (h : impl_lastNumbers.f k l0 = some r) :
  Calls Try.prog 128 #[.slice A0 l0.length c0] w fun e w'=>∃ v0_:Value,e=.returned (v0_)∧Kd.R (Kd.int .i64) 3 w' w.heap.size (fun _=>True) v0_ r∧Below w.heap.size w w':=by
 have hu140:=Try.underlying140;have HR0:=mA hr0;have HC0:=mA hc0;clear hr0 hc0;have HB:=mA (Below.refl w.heap.size w);have H:(impl_lastNumbers.l0 k (([(l0.length:Int)]:List Int)) l0 (l0.length:Int) 0)=some r:=h;clear h;obtain ⟨y461,hy461⟩:∃ y_:List Int,y_=(([(l0.length:Int)]:List Int)):=⟨_,rfl⟩
 replace H:(impl_lastNumbers.l0 k y461 l0 (l0.length:Int) 0)=some r:=qH hy461 H
 have Ny461:=mA hy461;clear hy461;have H':=mA H;clear H
 go_enter Try.func128,Try.ntmps128
 go_wp2_with (first|((with_reducible refine gT 8 rfl ?_);refine Kd.R_lit (Kd.int .i64) _ 3 ?hg (N:=8) ?hd (xs:=([(l0.length:Int)]:List Int)) (inner:=[.int .i64 (l0.length:Int)]) (ok:=fun _=>True) (okp:=fun _=>True) ?hr ?hp (fun _ hk=>hk) trivial (Below.refl _ _) (Nat.le_refl _) (by simp) ?_;(case hd=>rfl);(case hg=>rfl);(case hr=>first|(go_simp;done)|(go_simp;rfl));(case hp=>exact (Reps.one (show Kd.M (Kd.int .i64) _ _ _ (l0.length:Int) [.int .i64 (l0.length:Int)] from rfl) (Reps.none _ _)));intro v462 w2 ho3 hb hg_ hnew_;clear hg_ hnew_;(first|rw [← Ny461.out] at ho3|(simp only [Int.reduceToNat] at ho3;rw [← Ny461.out] at ho3));have HO463:=mA (Kd.R_lower ho3 (bpB HB));replace HB:=spB HB hb;clear hb ho3))
 go_loopg [3,11] k (fun kq v3 v11 w'=>∃ (x3_1:List Int) (x11_1:Int),v11=.int .i64 x11_1∧Aside0 (impl_lastNumbers.l0 kq x3_1 l0 (l0.length:Int) x11_1=some r)∧Aside0 (kq≤k)∧Aside0 (Kd.R (Kd.int .i64) 3 w' w.heap.size (fun _=>True) v3 x3_1)∧Aside0 (Below w.heap.size w w'))
 case atStart=>exact ⟨(y461),(0),bZ,H',⟨Nat.le_refl _⟩,⟨pR HO463.out⟩,⟨pB HB.out⟩⟩
 case round =>
  clear H'
  obtain ⟨x3_1,x11_1,rfl,HA,HK1,HO_3,HB⟩:=hrel
  cases gk with
  | zero=>exact absurd HA.out (by simp [impl_lastNumbers.l0])
  | succ k1 =>
   have H:=HA.out;clear HA;simp only [impl_lastNumbers.l0] at H
   by_cases c4:x11_1<(l0.length:Int)
   ·rw [if_pos c4] at H;have c4b0:decide (x11_1<(l0.length:Int))=true:=decide_eq_true c4;clear c4
    by_cases c5:0≤x11_1
    ·rw [if_pos c5] at H;have c5b0:decide (0≤x11_1)=true:=decide_eq_true c5;clear c5
     by_cases c6:x11_1<(l0.length:Int)
     ·rw [if_pos c6] at H;have c6b0:decide (x11_1<(l0.length:Int))=true:=decide_eq_true c6;clear c6;obtain ⟨y466,hy466⟩:∃ y_:List Int,y_=(([(rd_T140 l0 x11_1).f0,(rd_T140 l0 x11_1).f1]:List Int)):=⟨_,rfl⟩
      replace H:(if x3_1.length+y466.length<17592186044416 then (impl_lastNumbers.l0 k1 (x3_1 ++ y466) l0 (l0.length:Int) (wrap64 (x11_1+1))) else (none))=some r:=qH hy466 H
      have Ny466:=mA hy466;clear hy466
      by_cases c7:x3_1.length+y466.length<17592186044416
      ·rw [if_pos c7] at H;have LMc7:=mA c7;clear c7;obtain ⟨y469,hy469⟩:∃ y_:List Int,y_=(x3_1 ++ y466):=⟨_,rfl⟩
       replace H:(impl_lastNumbers.l0 k1 y469 l0 (l0.length:Int) (wrap64 (x11_1+1)))=some r:=qH hy469 H
       have Ny469:=mA hy469;clear hy469;have H':=mA H;clear H;have p464:0≤(x11_1:Int):=of_decide_eq_true bA;have q464:x11_1<(l0.length:Int):=of_decide_eq_true bA;obtain ⟨ad464,e464,hx464_0,hx464_1⟩:=at_T140 HR0.out x11_1 p464 q464;cases e464;replace hx464_0:=hC HB hx464_0;replace hx464_1:=hC HB hx464_1;replace p464:=eq_true p464;replace q464:=eq_true q464
       go_wp2_with (first|((with_reducible refine gT 5 rfl ?_);refine bE 5 #[.int .i64 0,.int .i64 0] 140 ?_;intro gb465 hg w8 hbox hb;replace HO_3:=rB HO_3 hb;have BK465:=mA hbox;have GW465:=gbpB HB hg;have GE465:=gbpB HB hg;replace HB:=spB HB hb;clear hb hbox hg;obtain ⟨hcz9_0,hcz9_1,hfz9_0,hfz9_1⟩:=box2 BK465.out)|((with_reducible refine gT 20 rfl ?_);refine Kd.R_lit (Kd.int .i64) _ 3 ?hg (N:=20) ?hd (xs:=([(rd_T140 l0 x11_1).f0,(rd_T140 l0 x11_1).f1]:List Int)) (inner:=[.int .i64 ((rd_T140 l0 x11_1).f0),.int .i64 ((rd_T140 l0 x11_1).f1)]) (ok:=fun _=>True) (okp:=fun _=>True) ?hr ?hp (fun _ hk=>hk) trivial (Below.refl _ _) (Nat.le_refl _) (by simp) ?_;(case hd=>rfl);(case hg=>rfl);(case hr=>first|(go_simp;done)|(go_simp;rfl));(case hp=>repeat (first|exact Reps.none _ _|refine Reps.one (show Kd.M (Kd.int .i64) _ _ _ _ [_] from rfl) ?_));intro v467 w10 ho11 hb hg_ hnew_;clear hg_ hnew_;(first|rw [← Ny466.out] at ho11|(simp only [Int.reduceToNat] at ho11;rw [← Ny466.out] at ho11));have HO468:=mA (Kd.R_lower (Kd.R_new' ho11 (Kd.R_lt (pG HO_3 BK465))) (bpS HB));replace HO_3:=mA (Kd.R_elder' (pG HO_3 BK465) (Kd.R_base ho11) hb);replace BK465:=mA (blk_below (g:=gb465) (o:=.cells #[.int .i64 ((rd_T140 l0 x11_1).f0),.int .i64 ((rd_T140 l0 x11_1).f1)] 140 (0,0)) (pP BK465) hb);replace HB:=spS HB hb;clear hb ho11;obtain ⟨Ao13,co13,rfl⟩:=Kd.R_slice HO468.out)|((with_reducible refine gate_builtin (b:=.append) (xs:=#[.tmp 15,.tmp 20]) rfl ?_);at_builtin;refine Kd.R_append_rows (Kd.int .i64) (w0:=w) w.heap.size rfl (.tmp 15) (.tmp 20) 58 3 (.int .i64 0) 8 rfl Try.underlying58 info3 rfl aD (by omega) u3 x3_1 y466 _ _ _ (fun k_=>some k_≠(.slice Ao13 y466.length co13:Value).ownBlock) (fun _=>False) rfl rfl ?aO ?aR (fun _ _ h=>h) (fun _ h=>h.elim) ?aF ?aB ?aS ?aL ?_;(case aR=>exact cR HO468);(case aB=>exact (pS HB.out));(case aF=>exact (fun k_ hk=>Kd.fresh' (rL HO468) k_ hk));(case aO=>exact (pR (Kd.R_mono HO_3.out (fun _ hk=>hk.2))));(case aS=>exact (bpS HB));(case aL=>have:=LMc7.out;omega);intro v470 w12 ho hb hg hat;rw [← Ny469.out] at ho;replace HO468:=mA (Kd.R_after (ok:=(fun _=>True)) (pR HO468.out) hg hat);have HO471:=mA ho;replace BK465:=mA (blk_grown (pK BK465.out) hg (rN HO_3 BK465));replace HB:=mA hb;clear HO_3;clear ho hb hg hat))
       go_roundg k1
       case measure=>have:=HK1.out;omega
       case rel=>exact ⟨(y469),(wrap64 (x11_1+1)),bZ,H',⟨by have:=HK1.out;omega⟩,⟨pR (Kd.R_mono HO471.out (fun _ hk=>trivial))⟩,⟨pS HB.out⟩⟩
      ·rw [if_neg c7] at H
       exact absurd H (by simp)
     ·rw [if_neg c6] at H
      exact absurd H (by simp)
    ·rw [if_neg c5] at H
     exact absurd H (by simp)
   ·rw [if_neg c4] at H;have c4b0:decide (x11_1<(l0.length:Int))=false:=decide_eq_false c4;clear c4;obtain rfl:=Option.some.inj H
    go_wp2
    go_ret
    exact ⟨_,by first|rfl|(simp [errW_none,errW_some]<;>rfl)|(simp [*,errW_none,errW_some]<;>rfl),pR HO_3.out,pB HB.out⟩
/-! ### impl_wordNumbers: function 62 -/
def impl_wordNumbers.f (k : Nat) (a0_0 a0_1 a0_2 a0_3 a0_4 a0_5 a0_6 a0_7 a0_8 a0_9 a0_10 a0_11 a0_12 a0_13 a0_14 a0_15 a0_16 a0_17 a0_18 a0_19 a0_20 a0_21 a0_22 a0_23 : Int) (l0_24 : List (S138)) (l0_25 : List (S140)) : Option (List Int) := (some (([a0_0, a0_1, a0_2, a0_3, a0_4, a0_5] : List Int) : List Int)).bind fun y473 => ((impl_cmdNumbers.f a0_6 a0_7 a0_8 a0_9 a0_10 a0_11 a0_12 a0_13 a0_14 a0_15).bind fun t476 => (if y473.length + t476.length < 17592186044416 then ((some (y473 ++ t476 : List Int)).bind fun y479 => ((some (([a0_16, a0_17, a0_18, a0_19, a0_20, a0_21, a0_22, a0_23] : List Int) : List Int)).bind fun y482 => (if y479.length + y482.length < 17592186044416 then ((some (y479 ++ y482 : List Int)).bind fun y485 => ((impl_piecesNumbers.f k l0_24).bind fun t488 => (if y485.length + t488.length < 17592186044416 then ((some (y485 ++ t488 : List Int)).bind fun y491 => ((impl_lastNumbers.f k l0_25).bind fun t494 => (if y491.length + t494.length < 17592186044416 then (some (y491 ++ t494)) else (none)))) else (none)))) else (none)))) else (none)))
set_option maxHeartbeats 8000000 in
set_option maxRecDepth 100000 in
theorem impl_wordNumbers.calls {k : Nat} {a0_0 a0_1 a0_2 a0_3 a0_4 a0_5 a0_6 a0_7 a0_8 a0_9 a0_10 a0_11 a0_12 a0_13 a0_14 a0_15 a0_16 a0_17 a0_18 a0_19 a0_20 a0_21 a0_22 a0_23 : Int} {A0_24 : Option Addr} {c0_24 : Nat} {l0_24 : List (S138)} {A0_25 : Option Addr} {c0_25 : Nat} {l0_25 : List (S140)} {r : List Int} {w : World} (hr0_24 : Kd.C k138 w A0_24 l0_24.length l0_24) (hc0_24 : l0_24.length ≤ c0_24) (hr0_25 : Kd.C k140 w A0_25 l0_25.length l0_25) (hc0_25 : l0_25.length ≤ c0_25) (h : impl_wordNumbers.f k a0_0 a0_1 a0_2 a0_3 a0_4 a0_5 a0_6 a0_7 a0_8 a0_9 a0_10 a0_11 a0_12 a0_13 a0_14 a0_15 a0_16 a0_17 a0_18 a0_19 a0_20 a0_21 a0_22 a0_23 l0_24 l0_25 = some r) :
  Calls Try.prog 62 #[.agg #[.int .i64 a0_0,.int .i64 a0_1,.int .i64 a0_2,.int .i64 a0_3,.int .i64 a0_4,.int .i64 a0_5,.int .i64 a0_6,.int .i64 a0_7,.int .i64 a0_8,.int .i64 a0_9,.int .i64 a0_10,.int .i64 a0_11,.int .i64 a0_12,.int .i64 a0_13,.int .i64 a0_14,.int .i64 a0_15,.int .i64 a0_16,.int .i64 a0_17,.int .i64 a0_18,.int .i64 a0_19,.int .i64 a0_20,.int .i64 a0_21,.int .i64 a0_22,.int .i64 a0_23,.slice A0_24 l0_24.length c0_24,.slice A0_25 l0_25.length c0_25]] w fun e w'=>∃ v0_:Value,e=.returned (v0_)∧Kd.R (Kd.int .i64) 3 w' w.heap.size (fun _=>True) v0_ r∧Below w.heap.size w w':=by
 have hu28:=Try.underlying28;have hu24:=Try.underlying24;have HR0_24:=mA hr0_24;have HC0_24:=mA hc0_24;clear hr0_24 hc0_24;have HR0_25:=mA hr0_25;have HC0_25:=mA hc0_25;clear hr0_25 hc0_25;have HB:=mA (Below.refl w.heap.size w);have H:((some (([a0_0,a0_1,a0_2,a0_3,a0_4,a0_5]:List Int):List Int)).bind fun y473=>((impl_cmdNumbers.f a0_6 a0_7 a0_8 a0_9 a0_10 a0_11 a0_12 a0_13 a0_14 a0_15).bind fun t476=>(if y473.length+t476.length<17592186044416 then ((some (y473 ++ t476:List Int)).bind fun y479=>((some (([a0_16,a0_17,a0_18,a0_19,a0_20,a0_21,a0_22,a0_23]:List Int):List Int)).bind fun y482=>(if y479.length+y482.length<17592186044416 then ((some (y479 ++ y482:List Int)).bind fun y485=>((impl_piecesNumbers.f k l0_24).bind fun t488=>(if y485.length+t488.length<17592186044416 then ((some (y485 ++ t488:List Int)).bind fun y491=>((impl_lastNumbers.f k l0_25).bind fun t494=>(if y491.length+t494.length<17592186044416 then (some (y491 ++ t494)) else (none)))) else (none)))) else (none)))) else (none))))=some r:=h;clear h;obtain ⟨y473,hy473⟩:∃ y_:List Int,y_=(([a0_0,a0_1,a0_2,a0_3,a0_4,a0_5]:List Int)):=⟨_,rfl⟩
 replace H:((impl_cmdNumbers.f a0_6 a0_7 a0_8 a0_9 a0_10 a0_11 a0_12 a0_13 a0_14 a0_15).bind fun t476=>(if y473.length+t476.length<17592186044416 then ((some (y473 ++ t476:List Int)).bind fun y479=>((some (([a0_16,a0_17,a0_18,a0_19,a0_20,a0_21,a0_22,a0_23]:List Int):List Int)).bind fun y482=>(if y479.length+y482.length<17592186044416 then ((some (y479 ++ y482:List Int)).bind fun y485=>((impl_piecesNumbers.f k l0_24).bind fun t488=>(if y485.length+t488.length<17592186044416 then ((some (y485 ++ t488:List Int)).bind fun y491=>((impl_lastNumbers.f k l0_25).bind fun t494=>(if y491.length+t494.length<17592186044416 then (some (y491 ++ t494)) else (none)))) else (none)))) else (none)))) else (none)))=some r:=qH hy473 H
 have Ny473:=mA hy473;clear hy473;obtain ⟨t476,A2,H⟩:=bI H;(try dsimp only at H)
 by_cases c3:y473.length+t476.length<17592186044416
 ·rw [if_pos c3] at H;have LMc3:=mA c3;clear c3;obtain ⟨y479,hy479⟩:∃ y_:List Int,y_=(y473 ++ t476):=⟨_,rfl⟩
  replace H:((some (([a0_16,a0_17,a0_18,a0_19,a0_20,a0_21,a0_22,a0_23]:List Int):List Int)).bind fun y482=>(if y479.length+y482.length<17592186044416 then ((some (y479 ++ y482:List Int)).bind fun y485=>((impl_piecesNumbers.f k l0_24).bind fun t488=>(if y485.length+t488.length<17592186044416 then ((some (y485 ++ t488:List Int)).bind fun y491=>((impl_lastNumbers.f k l0_25).bind fun t494=>(if y491.length+t494.length<17592186044416 then (some (y491 ++ t494)) else (none)))) else (none)))) else (none)))=some r:=qH hy479 H
  have Ny479:=mA hy479;clear hy479;obtain ⟨y482,hy482⟩:∃ y_:List Int,y_=(([a0_16,a0_17,a0_18,a0_19,a0_20,a0_21,a0_22,a0_23]:List Int)):=⟨_,rfl⟩
  replace H:(if y479.length+y482.length<17592186044416 then ((some (y479 ++ y482:List Int)).bind fun y485=>((impl_piecesNumbers.f k l0_24).bind fun t488=>(if y485.length+t488.length<17592186044416 then ((some (y485 ++ t488:List Int)).bind fun y491=>((impl_lastNumbers.f k l0_25).bind fun t494=>(if y491.length+t494.length<17592186044416 then (some (y491 ++ t494)) else (none)))) else (none)))) else (none))=some r:=qH hy482 H
  have Ny482:=mA hy482;clear hy482
  by_cases c4:y479.length+y482.length<17592186044416
  ·rw [if_pos c4] at H;have LMc4:=mA c4;clear c4;obtain ⟨y485,hy485⟩:∃ y_:List Int,y_=(y479 ++ y482):=⟨_,rfl⟩
   replace H:((impl_piecesNumbers.f k l0_24).bind fun t488=>(if y485.length+t488.length<17592186044416 then ((some (y485 ++ t488:List Int)).bind fun y491=>((impl_lastNumbers.f k l0_25).bind fun t494=>(if y491.length+t494.length<17592186044416 then (some (y491 ++ t494)) else (none)))) else (none)))=some r:=qH hy485 H
   have Ny485:=mA hy485;clear hy485;obtain ⟨t488,A5,H⟩:=bI H;(try dsimp only at H)
   by_cases c6:y485.length+t488.length<17592186044416
   ·rw [if_pos c6] at H;have LMc6:=mA c6;clear c6;obtain ⟨y491,hy491⟩:∃ y_:List Int,y_=(y485 ++ t488):=⟨_,rfl⟩
    replace H:((impl_lastNumbers.f k l0_25).bind fun t494=>(if y491.length+t494.length<17592186044416 then (some (y491 ++ t494)) else (none)))=some r:=qH hy491 H
    have Ny491:=mA hy491;clear hy491;obtain ⟨t494,A7,H⟩:=bI H;(try dsimp only at H)
    by_cases c8:y491.length+t494.length<17592186044416
    ·rw [if_pos c8] at H;have LMc8:=mA c8;clear c8;obtain ⟨y497,hy497⟩:∃ y_:List Int,y_=(y491 ++ t494):=⟨_,rfl⟩
     replace H:(some y497)=some r:=qH hy497 H
     have Ny497:=mA hy497;clear hy497;obtain rfl:=Option.some.inj H
     go_enter Try.func62,Try.ntmps62
     go_wp2_with (first|((with_reducible refine gLg rfl (by assumption) ?_);refine ldV ?_)|((with_reducible refine gSt rfl (by assumption) ?_);refine stV ?_)|((with_reducible refine gT 1 rfl ?_);refine bX 1 ?_;intro gb472 hg w9 hbox hb;have BK472:=mA hbox;have GW472:=gbpB HB hg;have GE472:=gbpB HB hg;replace HB:=spB HB hb;clear hb hbox hg;have hcz10_0:=fun i_=>blk_cell BK472.out i_;have hfz10_0:=fun i_=>blk_frozen BK472.out i_)|((with_reducible refine gT 16 rfl ?_);refine Kd.R_lit (Kd.int .i64) _ 3 ?hg (N:=16) ?hd (xs:=([a0_0,a0_1,a0_2,a0_3,a0_4,a0_5]:List Int)) (inner:=[.int .i64 a0_0,.int .i64 a0_1,.int .i64 a0_2,.int .i64 a0_3,.int .i64 a0_4,.int .i64 a0_5]) (ok:=fun _=>True) (okp:=fun _=>True) ?hr ?hp (fun _ hk=>hk) trivial (Below.refl _ _) (Nat.le_refl _) (by simp) ?_;(case hd=>rfl);(case hg=>rfl);(case hr=>first|(go_simp;done)|(go_simp;rfl));(case hp=>repeat (first|exact Reps.none _ _|refine Reps.one (show Kd.M (Kd.int .i64) _ _ _ _ [_] from rfl) ?_));intro v474 w11 ho12 hb hg_ hnew_;clear hg_ hnew_;(first|rw [← Ny473.out] at ho12|(simp only [Int.reduceToNat] at ho12;rw [← Ny473.out] at ho12));have HO475:=mA (Kd.R_lower ho12 (bpS HB));replace BK472:=bK BK472 hb;replace HB:=spS HB hb;clear hb ho12;have hcz13_0:=fun i_=>blk_cell BK472.out i_;have hfz13_0:=fun i_=>blk_frozen BK472.out i_)|((with_reducible refine gT 20 rfl ?_);refine gC (some 20) Try.func126 (impl_cmdNumbers.calls A2.out) ?_;rintro e w14 ⟨v477,rfl,ho0,hb⟩;refine ⟨_,rfl,?_⟩;have HO478:=mA (Kd.R_lower (Kd.R_new' ho0 (rL HO475)) (bpS HB));replace HO475:=rE HO475 ho0 hb;replace BK472:=bK BK472 hb;replace HB:=spS HB hb;(try clear hb);(try clear ho0);obtain ⟨Ao16,co16,rfl⟩:=Kd.R_slice HO478.out)|((with_reducible refine gate_builtin (b:=.append) (xs:=#[.tmp 17,.tmp 20]) rfl ?_);at_builtin;refine Kd.R_append_rows (Kd.int .i64) (w0:=w) w.heap.size rfl (.tmp 17) (.tmp 20) 58 3 (.int .i64 0) 8 rfl Try.underlying58 info3 rfl aD (by omega) v474 y473 t476 _ _ _ (fun k_=>some k_≠(.slice Ao16 t476.length co16:Value).ownBlock) (fun _=>False) rfl rfl ?aO ?aR (fun _ _ h=>h) (fun _ h=>h.elim) ?aF ?aB ?aS ?aL ?_;(case aR=>exact cR HO478);(case aB=>exact (pS HB.out));(case aF=>exact (fun k_ hk=>Kd.fresh' (rL HO478) k_ hk));(case aO=>exact (pR (Kd.R_mono HO475.out (fun _ hk=>hk.2))));(case aS=>exact (bpS HB));(case aL=>have:=LMc3.out;omega);intro v480 w15 ho hb hg hat;rw [← Ny479.out] at ho;replace HO478:=mA (Kd.R_after (ok:=(fun _=>True)) (pR HO478.out) hg hat);have HO481:=mA ho;replace BK472:=mA (blk_grown (pK BK472.out) hg (rN HO475 BK472));replace HB:=mA hb;clear HO475;clear ho hb hg hat;have hcz17_0:=fun i_=>blk_cell BK472.out i_;have hfz17_0:=fun i_=>blk_frozen BK472.out i_)|((with_reducible refine gT 39 rfl ?_);refine Kd.R_lit (Kd.int .i64) _ 3 ?hg (N:=39) ?hd (xs:=([a0_16,a0_17,a0_18,a0_19,a0_20,a0_21,a0_22,a0_23]:List Int)) (inner:=[.int .i64 a0_16,.int .i64 a0_17,.int .i64 a0_18,.int .i64 a0_19,.int .i64 a0_20,.int .i64 a0_21,.int .i64 a0_22,.int .i64 a0_23]) (ok:=fun _=>True) (okp:=fun _=>True) ?hr ?hp (fun _ hk=>hk) trivial (Below.refl _ _) (Nat.le_refl _) (by simp) ?_;(case hd=>rfl);(case hg=>rfl);(case hr=>first|(go_simp;done)|(go_simp;rfl));(case hp=>repeat (first|exact Reps.none _ _|refine Reps.one (show Kd.M (Kd.int .i64) _ _ _ _ [_] from rfl) ?_));intro v483 w18 ho19 hb hg_ hnew_;clear hg_ hnew_;(first|rw [← Ny482.out] at ho19|(simp only [Int.reduceToNat] at ho19;rw [← Ny482.out] at ho19));have HO484:=mA (Kd.R_lower (Kd.R_new' (Kd.R_new' ho19 (rL HO478)) (rL HO481)) (bpS HB));replace HO478:=rE HO478 ho19 hb;replace HO481:=rE HO481 ho19 hb;replace BK472:=bK BK472 hb;replace HB:=spS HB hb;clear hb ho19;obtain ⟨Ao21,co21,rfl⟩:=Kd.R_slice HO484.out)|((with_reducible refine gate_builtin (b:=.append) (xs:=#[.tmp 22,.tmp 39]) rfl ?_);at_builtin;refine Kd.R_append_rows (Kd.int .i64) (w0:=w) w.heap.size rfl (.tmp 22) (.tmp 39) 58 3 (.int .i64 0) 8 rfl Try.underlying58 info3 rfl aD (by omega) v480 y479 y482 _ _ _ (fun k_=>some k_≠(.slice Ao16 t476.length co16:Value).ownBlock∧some k_≠(.slice Ao21 y482.length co21:Value).ownBlock) (fun _=>False) rfl rfl ?aO ?aR (fun _ _ h=>h) (fun _ h=>h.elim) ?aF ?aB ?aS ?aL ?_;(case aR=>exact cR HO484);(case aB=>exact (pS HB.out));(case aF=>exact (fun k_ hk=>⟨Kd.fresh' (rL HO478) k_ hk,Kd.fresh' (rL HO484) k_ hk⟩));(case aO=>exact (pR HO481.out));(case aS=>exact (bpS HB));(case aL=>have:=LMc4.out;omega);intro v486 w20 ho hb hg hat;rw [← Ny485.out] at ho;replace HO478:=mA (Kd.R_after (ok:=(fun k_=>some k_≠(.slice Ao21 y482.length co21:Value).ownBlock)) (pR (Kd.R_mono HO478.out (fun _ hk=>⟨hk.2,hk.1.2⟩))) hg hat);replace HO484:=mA (Kd.R_after (ok:=(fun k_=>some k_≠(.slice Ao16 t476.length co16:Value).ownBlock)) (pR (Kd.R_mono HO484.out (fun _ hk=>⟨hk.1.2,hk.2⟩))) hg hat);have HO487:=mA ho;replace BK472:=mA (blk_grown (pK BK472.out) hg (rN HO481 BK472));replace HB:=mA hb;clear HO481;clear ho hb hg hat;have hcz22_0:=fun i_=>blk_cell BK472.out i_;have hfz22_0:=fun i_=>blk_frozen BK472.out i_)|((with_reducible refine gT 44 rfl ?_);refine gC (some 44) Try.func127 (impl_piecesNumbers.calls (cB HR0_24 HB) HC0_24.out A5.out) ?_;rintro e w23 ⟨v489,rfl,ho0,hb⟩;refine ⟨_,rfl,?_⟩;have HO490:=mA (Kd.R_lower (Kd.R_new' (Kd.R_new' (Kd.R_new' ho0 (rL HO478)) (rL HO484)) (rL HO487)) (bpS HB));replace HO478:=rE HO478 ho0 hb;replace HO484:=rE HO484 ho0 hb;replace HO487:=rE HO487 ho0 hb;replace BK472:=bK BK472 hb;replace HB:=spS HB hb;(try clear hb);(try clear ho0);obtain ⟨Ao25,co25,rfl⟩:=Kd.R_slice HO490.out)|((with_reducible refine gate_builtin (b:=.append) (xs:=#[.tmp 41,.tmp 44]) rfl ?_);at_builtin;refine Kd.R_append_rows (Kd.int .i64) (w0:=w) w.heap.size rfl (.tmp 41) (.tmp 44) 58 3 (.int .i64 0) 8 rfl Try.underlying58 info3 rfl aD (by omega) v486 y485 t488 _ _ _ (fun k_=>some k_≠(.slice Ao16 t476.length co16:Value).ownBlock∧some k_≠(.slice Ao21 y482.length co21:Value).ownBlock∧some k_≠(.slice Ao25 t488.length co25:Value).ownBlock) (fun _=>False) rfl rfl ?aO ?aR (fun _ _ h=>h) (fun _ h=>h.elim) ?aF ?aB ?aS ?aL ?_;(case aR=>exact cR HO490);(case aB=>exact (pS HB.out));(case aF=>exact (fun k_ hk=>⟨Kd.fresh' (rL HO478) k_ hk,Kd.fresh' (rL HO484) k_ hk,Kd.fresh' (rL HO490) k_ hk⟩));(case aO=>exact (pR (Kd.R_mono HO487.out (fun _ hk=>⟨hk.1.1,⟨hk.1.2,hk.2⟩⟩))));(case aS=>exact (bpS HB));(case aL=>have:=LMc6.out;omega);intro v492 w24 ho hb hg hat;rw [← Ny491.out] at ho;replace HO478:=mA (Kd.R_after (ok:=(fun k_=>some k_≠(.slice Ao21 y482.length co21:Value).ownBlock∧some k_≠(.slice Ao25 t488.length co25:Value).ownBlock)) (pR (Kd.R_mono HO478.out (fun _ hk=>⟨⟨hk.1.1,hk.2⟩,hk.1.2⟩))) hg hat);replace HO484:=mA (Kd.R_after (ok:=(fun k_=>some k_≠(.slice Ao16 t476.length co16:Value).ownBlock∧some k_≠(.slice Ao25 t488.length co25:Value).ownBlock)) (pR (Kd.R_mono HO484.out (fun _ hk=>⟨⟨hk.1.1,hk.2⟩,hk.1.2⟩))) hg hat);replace HO490:=mA (Kd.R_after (ok:=(fun k_=>some k_≠(.slice Ao16 t476.length co16:Value).ownBlock∧some k_≠(.slice Ao21 y482.length co21:Value).ownBlock)) (pR (Kd.R_mono HO490.out (fun _ hk=>⟨⟨hk.1.1.2,hk.1.2⟩,hk.2⟩))) hg hat);have HO493:=mA ho;replace BK472:=mA (blk_grown (pK BK472.out) hg (rN HO487 BK472));replace HB:=mA hb;clear HO487;clear ho hb hg hat;have hcz26_0:=fun i_=>blk_cell BK472.out i_;have hfz26_0:=fun i_=>blk_frozen BK472.out i_)|((with_reducible refine gT 49 rfl ?_);refine gC (some 49) Try.func128 (impl_lastNumbers.calls (cB HR0_25 HB) HC0_25.out A7.out) ?_;rintro e w27 ⟨v495,rfl,ho0,hb⟩;refine ⟨_,rfl,?_⟩;have HO496:=mA (Kd.R_lower (Kd.R_new' (Kd.R_new' (Kd.R_new' (Kd.R_new' ho0 (rL HO478)) (rL HO484)) (rL HO490)) (rL HO493)) (bpS HB));replace HO478:=rE HO478 ho0 hb;replace HO484:=rE HO484 ho0 hb;replace HO490:=rE HO490 ho0 hb;replace HO493:=rE HO493 ho0 hb;replace BK472:=bK BK472 hb;replace HB:=spS HB hb;(try clear hb);(try clear ho0);obtain ⟨Ao29,co29,rfl⟩:=Kd.R_slice HO496.out)|((with_reducible refine gate_builtin (b:=.append) (xs:=#[.tmp 46,.tmp 49]) rfl ?_);at_builtin;refine Kd.R_append_rows (Kd.int .i64) (w0:=w) w.heap.size rfl (.tmp 46) (.tmp 49) 58 3 (.int .i64 0) 8 rfl Try.underlying58 info3 rfl aD (by omega) v492 y491 t494 _ _ _ (fun k_=>some k_≠(.slice Ao16 t476.length co16:Value).ownBlock∧some k_≠(.slice Ao21 y482.length co21:Value).ownBlock∧some k_≠(.slice Ao25 t488.length co25:Value).ownBlock∧some k_≠(.slice Ao29 t494.length co29:Value).ownBlock) (fun _=>False) rfl rfl ?aO ?aR (fun _ _ h=>h) (fun _ h=>h.elim) ?aF ?aB ?aS ?aL ?_;(case aR=>exact cR HO496);(case aB=>exact (pS HB.out));(case aF=>exact (fun k_ hk=>⟨Kd.fresh' (rL HO478) k_ hk,Kd.fresh' (rL HO484) k_ hk,Kd.fresh' (rL HO490) k_ hk,Kd.fresh' (rL HO496) k_ hk⟩));(case aO=>exact (pR (Kd.R_mono HO493.out (fun _ hk=>⟨hk.1.1,⟨hk.1.2.1,⟨hk.1.2.2,hk.2⟩⟩⟩))));(case aS=>exact (bpS HB));(case aL=>have:=LMc8.out;omega);intro v498 w28 ho hb hg hat;rw [← Ny497.out] at ho;replace HO478:=mA (Kd.R_after (ok:=(fun k_=>some k_≠(.slice Ao21 y482.length co21:Value).ownBlock∧some k_≠(.slice Ao25 t488.length co25:Value).ownBlock∧some k_≠(.slice Ao29 t494.length co29:Value).ownBlock)) (pR (Kd.R_mono HO478.out (fun _ hk=>⟨⟨hk.1.1.1,⟨hk.1.1.2,hk.2⟩⟩,hk.1.2⟩))) hg hat);replace HO484:=mA (Kd.R_after (ok:=(fun k_=>some k_≠(.slice Ao16 t476.length co16:Value).ownBlock∧some k_≠(.slice Ao25 t488.length co25:Value).ownBlock∧some k_≠(.slice Ao29 t494.length co29:Value).ownBlock)) (pR (Kd.R_mono HO484.out (fun _ hk=>⟨⟨hk.1.1.1,⟨hk.1.1.2,hk.2⟩⟩,hk.1.2⟩))) hg hat);replace HO490:=mA (Kd.R_after (ok:=(fun k_=>some k_≠(.slice Ao16 t476.length co16:Value).ownBlock∧some k_≠(.slice Ao21 y482.length co21:Value).ownBlock∧some k_≠(.slice Ao29 t494.length co29:Value).ownBlock)) (pR (Kd.R_mono HO490.out (fun _ hk=>⟨⟨hk.1.1.1,⟨hk.1.1.2,hk.2⟩⟩,hk.1.2⟩))) hg hat);replace HO496:=mA (Kd.R_after (ok:=(fun k_=>some k_≠(.slice Ao16 t476.length co16:Value).ownBlock∧some k_≠(.slice Ao21 y482.length co21:Value).ownBlock∧some k_≠(.slice Ao25 t488.length co25:Value).ownBlock)) (pR (Kd.R_mono HO496.out (fun _ hk=>⟨⟨hk.1.1.1.2,⟨hk.1.1.2,hk.1.2⟩⟩,hk.2⟩))) hg hat);have HO499:=mA ho;replace BK472:=mA (blk_grown (pK BK472.out) hg (rN HO493 BK472));replace HB:=mA hb;clear HO493;clear ho hb hg hat))
     go_ret
     exact ⟨_,by first|rfl|(simp [errW_none,errW_some]<;>rfl)|(simp [*,errW_none,errW_some]<;>rfl),pR (Kd.R_mono HO499.out (fun _ hk=>trivial)),pS HB.out⟩
    ·rw [if_neg c8] at H
     exact absurd H (by simp)
   ·rw [if_neg c6] at H
    exact absurd H (by simp)
  ·rw [if_neg c4] at H
   exact absurd H (by simp)
 ·rw [if_neg c3] at H
  exact absurd H (by simp)
/-! ### impl_in: function 74 -/
def impl_in.f (a0 a1 a2 : Int) : Option (Bool) := if a0 ≥ a1 then (some (decide (a0 ≤ a2))) else (some false)
set_option maxHeartbeats 8000000 in
set_option maxRecDepth 100000 in
theorem impl_in.calls {a0 a1 a2 : Int} {r : Bool} {w : World} (h : impl_in.f a0 a1 a2 = some r) :
  Calls Try.prog 74 #[.int .i64 a0,.int .i64 a1,.int .i64 a2] w fun e w'=>e=.returned (.bool r)∧Drawn0 w w':=by
 have H:(if a0 ≥ a1 then (some (decide (a0≤a2))) else (some false))=some r:=h;clear h
 by_cases c4:a0 ≥ a1
 ·rw [if_pos c4] at H;have c4b0:decide (a1≤a0)=true:=decide_eq_true c4;clear c4;obtain rfl:=Option.some.inj H
  go_enter Try.func74,Try.ntmps74
  go_wp2
  go_ret
  exact ⟨by first|rfl|(simp;done)|(simp [*];done),by repeat (first|exact Drawn0.refl _|apply Drawn0.step)⟩
 ·rw [if_neg c4] at H;have c4b0:decide (a1≤a0)=false:=decide_eq_false c4;clear c4;obtain rfl:=Option.some.inj H
  go_enter Try.func74,Try.ntmps74
  go_wp2
  go_ret
  exact ⟨by first|rfl|(simp;done)|(simp [*];done),by repeat (first|exact Drawn0.refl _|apply Drawn0.step)⟩
/-! ### impl_isServer: function 98 -/
def impl_isServer.f (a0 : Int) : Option (Bool) := (impl_in.f a0 0 4).bind fun t500 => (some t500)
set_option maxHeartbeats 8000000 in
set_option maxRecDepth 100000 in
theorem impl_isServer.calls {a0 : Int} {r : Bool} {w : World} (h : impl_isServer.f a0 = some r) :
  Calls Try.prog 98 #[.int .i64 a0] w fun e w'=>e=.returned (.bool r)∧Drawn0 w w':=by
 have H:((impl_in.f a0 0 4).bind fun t500=>(some t500))=some r:=h;clear h;obtain ⟨t500,A2,H⟩:=bI H;(try dsimp only at H);obtain rfl:=Option.some.inj H
 go_enter Try.func98,Try.ntmps98
 go_wp2_with (first|((with_reducible refine gT 4 rfl ?_);refine gC (some 4) Try.func74 (impl_in.calls A2.out) ?_;rintro e w' ⟨rfl,⟨nd,rfl⟩⟩;refine ⟨_,rfl,?_⟩))
 go_ret
 exact ⟨by first|rfl|(simp;done)|(simp [*];done),by repeat (first|exact Drawn0.refl _|apply Drawn0.step)⟩
/-! ### impl_isClient: function 132 -/
def impl_isClient.f (a0 : Int) : Option (Bool) := (impl_in.f a0 0 3).bind fun t501 => (some t501)
set_option maxHeartbeats 8000000 in
set_option maxRecDepth 100000 in
theorem impl_isClient.calls {a0 : Int} {r : Bool} {w : World} (h : impl_isClient.f a0 = some r) :
  Calls Try.prog 132 #[.int .i64 a0] w fun e w'=>e=.returned (.bool r)∧Drawn0 w w':=by
 have H:((impl_in.f a0 0 3).bind fun t501=>(some t501))=some r:=h;clear h;obtain ⟨t501,A2,H⟩:=bI H;(try dsimp only at H);obtain rfl:=Option.some.inj H
 go_enter Try.func132,Try.ntmps132
 go_wp2_with (first|((with_reducible refine gT 4 rfl ?_);refine gC (some 4) Try.func74 (impl_in.calls A2.out) ?_;rintro e w' ⟨rfl,⟨nd,rfl⟩⟩;refine ⟨_,rfl,?_⟩))
 go_ret
 exact ⟨by first|rfl|(simp;done)|(simp [*];done),by repeat (first|exact Drawn0.refl _|apply Drawn0.step)⟩
/-! ### impl_isPlace: function 75 -/
def impl_isPlace.f (a0 : Int) : Option (Bool) := (impl_isServer.f a0).bind fun t502 => (if t502 = true then (some true) else ((impl_isClient.f (wrap64 (a0 - 100))).bind fun t503 => (some t503)))
set_option maxHeartbeats 8000000 in
set_option maxRecDepth 100000 in
theorem impl_isPlace.calls {a0 : Int} {r : Bool} {w : World} (h : impl_isPlace.f a0 = some r) :
  Calls Try.prog 75 #[.int .i64 a0] w fun e w'=>e=.returned (.bool r)∧Drawn0 w w':=by
 have H:((impl_isServer.f a0).bind fun t502=>(if t502=true then (some true) else ((impl_isClient.f (wrap64 (a0 - 100))).bind fun t503=>(some t503))))=some r:=h;clear h;obtain ⟨t502,A2,H⟩:=bI H;(try dsimp only at H)
 by_cases c3:t502=true
 ·subst c3;rw [if_pos rfl] at H;obtain rfl:=Option.some.inj H
  go_enter Try.func75,Try.ntmps75
  go_wp2_with (first|((with_reducible refine gT 4 rfl ?_);refine gC (some 4) Try.func98 (impl_isServer.calls A2.out) ?_;rintro e w' ⟨rfl,⟨nd,rfl⟩⟩;refine ⟨_,rfl,?_⟩))
  go_ret
  exact ⟨by first|rfl|(simp;done)|(simp [*];done),by repeat (first|exact Drawn0.refl _|apply Drawn0.step)⟩
 ·replace c3:=Bool.eq_false_iff.mpr c3;subst c3
  rw [if_neg nFT] at H
  obtain ⟨t503,A4,H⟩:=bI H;(try dsimp only at H);obtain rfl:=Option.some.inj H
  go_enter Try.func75,Try.ntmps75
  go_wp2_with (first|((with_reducible refine gT 4 rfl ?_);refine gC (some 4) Try.func98 (impl_isServer.calls A2.out) ?_;rintro e w' ⟨rfl,⟨nd,rfl⟩⟩;refine ⟨_,rfl,?_⟩)|(go_at_call 132;(with_reducible refine (impl_isClient.calls A4.out).mono ?_);rintro e w' ⟨rfl,⟨nd,rfl⟩⟩))
  go_ret
  exact ⟨by first|rfl|(simp;done)|(simp [*];done),by repeat (first|exact Drawn0.refl _|apply Drawn0.step)⟩
/-! ### impl_numbersOk: function 79 -/
def impl_numbersOk.l0 : Nat → List Int → Int → Int → Option (Bool)
 | 0,_,_,_=>none
 | k+1,x5,x6,x7=>if x7<x6 then (if 0≤x7 then (if x7<(x5.length:Int) then ((impl_in.f (rd x5 x7) (-1) 99999).bind fun t505=>(if t505=true then (impl_numbersOk.l0 k x5 x6 (wrap64 (x7+1))) else (some false))) else (none)) else (none)) else (some true)
def impl_numbersOk.f (k : Nat) (l0 : List Int) : Option (Bool) := impl_numbersOk.l0 k l0 (l0.length : Int) 0
set_option maxHeartbeats 8000000 in
set_option maxRecDepth 100000 in
theorem impl_numbersOk.calls {k : Nat} {A0 : Option Addr} {c0 : Nat} {l0 : List Int} {r : Bool} {w : World} (hr0 : Kd.C (Kd.int .i64) w A0 l0.length l0) (hc0 : l0.length ≤ c0) (h : impl_numbersOk.f k l0 = some r) :
  Calls Try.prog 79 #[.slice A0 l0.length c0] w fun e w'=>e=.returned (.bool r)∧Drawn0 w w':=by
 have HR0:=mA hr0;have HC0:=mA hc0;clear hr0 hc0;have H:(impl_numbersOk.l0 k l0 (l0.length:Int) 0)=some r:=h;clear h;have H':=mA H;clear H
 go_enter Try.func79,Try.ntmps79
 go_wp2
 go_loopg [7] k (fun kq v7 w'=>∃ (x7_1:Int),v7=.int .i64 x7_1∧Aside0 (impl_numbersOk.l0 kq l0 (l0.length:Int) x7_1=some r)∧Aside0 (kq≤k)∧Drawn0 w w')
 case atStart=>exact ⟨(0),bZ,H',⟨Nat.le_refl _⟩,by repeat (first|exact Drawn0.refl _|apply Drawn0.step)⟩
 case round =>
  clear H';obtain ⟨x7_1,rfl,HA,HK1,⟨m1,rfl⟩⟩:=hrel
  cases gk with
  | zero=>exact absurd HA.out (by simp [impl_numbersOk.l0])
  | succ k1 =>
   have H:=HA.out;clear HA;simp only [impl_numbersOk.l0] at H
   by_cases c2:x7_1<(l0.length:Int)
   ·rw [if_pos c2] at H;have c2b0:decide (x7_1<(l0.length:Int))=true:=decide_eq_true c2;clear c2
    by_cases c3:0≤x7_1
    ·rw [if_pos c3] at H;have c3b0:decide (0≤x7_1)=true:=decide_eq_true c3;clear c3
     by_cases c4:x7_1<(l0.length:Int)
     ·rw [if_pos c4] at H;have c4b0:decide (x7_1<(l0.length:Int))=true:=decide_eq_true c4;clear c4;obtain ⟨t505,A5,H⟩:=bI H;(try dsimp only at H)
      by_cases c6:t505=true
      ·subst c6;rw [if_pos rfl] at H;have H':=mA H;clear H;have p504:0≤(x7_1:Int):=of_decide_eq_true bA;have q504:x7_1<(l0.length:Int):=of_decide_eq_true bA;obtain ⟨ad504,e504,hx504_0⟩:=Kd.at_int HR0.out x7_1 p504 q504;cases e504;replace p504:=eq_true p504;replace q504:=eq_true q504
       go_wp2_with (first|((with_reducible refine gT 12 rfl ?_);refine gC (some 12) Try.func74 (impl_in.calls A5.out) ?_;rintro e w' ⟨rfl,⟨nd,rfl⟩⟩;refine ⟨_,rfl,?_⟩))
       go_roundg k1
       case measure=>have:=HK1.out;omega
       case rel=>exact ⟨(wrap64 (x7_1+1)),bZ,H',⟨by have:=HK1.out;omega⟩,by repeat (first|exact Drawn0.refl _|apply Drawn0.step)⟩
      ·replace c6:=Bool.eq_false_iff.mpr c6;subst c6
       rw [if_neg nFT] at H
       obtain rfl:=Option.some.inj H;have p504:0≤(x7_1:Int):=of_decide_eq_true bA;have q504:x7_1<(l0.length:Int):=of_decide_eq_true bA;obtain ⟨ad504,e504,hx504_0⟩:=Kd.at_int HR0.out x7_1 p504 q504;cases e504;replace p504:=eq_true p504;replace q504:=eq_true q504
       go_wp2_with (first|((with_reducible refine gT 12 rfl ?_);refine gC (some 12) Try.func74 (impl_in.calls A5.out) ?_;rintro e w' ⟨rfl,⟨nd,rfl⟩⟩;refine ⟨_,rfl,?_⟩))
       go_ret
       exact ⟨by first|rfl|(simp;done)|(simp [*];done),by repeat (first|exact Drawn0.refl _|apply Drawn0.step)⟩
     ·rw [if_neg c4] at H
      exact absurd H (by simp)
    ·rw [if_neg c3] at H
     exact absurd H (by simp)
   ·rw [if_neg c2] at H;have c2b0:decide (x7_1<(l0.length:Int))=false:=decide_eq_false c2;clear c2;obtain rfl:=Option.some.inj H
    go_wp2
    go_ret
    exact ⟨by first|rfl|(simp;done)|(simp [*];done),by repeat (first|exact Drawn0.refl _|apply Drawn0.step)⟩
/-! ### impl_cmdOk: function 76 -/
def impl_cmdOk.f (k : Nat) (a0_0 a0_1 a0_2 a0_3 a0_4 a0_5 a0_6 a0_7 a0_8 a0_9 : Int) : Option (Bool) := (impl_in.f a0_0 0 7).bind fun t507 => (if t507 = true then ((impl_cmdNumbers.f a0_0 a0_1 a0_2 a0_3 a0_4 a0_5 a0_6 a0_7 a0_8 a0_9).bind fun t508 => ((impl_numbersOk.f k t508).bind fun t511 => (some t511))) else (some false))
set_option maxHeartbeats 8000000 in
set_option maxRecDepth 100000 in
theorem impl_cmdOk.calls {k : Nat} {a0_0 a0_1 a0_2 a0_3 a0_4 a0_5 a0_6 a0_7 a0_8 a0_9 : Int} {r : Bool} {w : World} (h : impl_cmdOk.f k a0_0 a0_1 a0_2 a0_3 a0_4 a0_5 a0_6 a0_7 a0_8 a0_9 = some r) :
  Calls Try.prog 76 #[.agg #[.int .i64 a0_0,.int .i64 a0_1,.int .i64 a0_2,.int .i64 a0_3,.int .i64 a0_4,.int .i64 a0_5,.int .i64 a0_6,.int .i64 a0_7,.int .i64 a0_8,.int .i64 a0_9]] w fun e w'=>e=.returned (.bool r)∧Below w.heap.size w w':=by
 have hu24:=Try.underlying24;have HB:=mA (Below.refl w.heap.size w);have H:((impl_in.f a0_0 0 7).bind fun t507=>(if t507=true then ((impl_cmdNumbers.f a0_0 a0_1 a0_2 a0_3 a0_4 a0_5 a0_6 a0_7 a0_8 a0_9).bind fun t508=>((impl_numbersOk.f k t508).bind fun t511=>(some t511))) else (some false)))=some r:=h;clear h;obtain ⟨t507,A2,H⟩:=bI H;(try dsimp only at H)
 by_cases c3:t507=true
 ·subst c3;rw [if_pos rfl] at H;obtain ⟨t508,A4,H⟩:=bI H;(try dsimp only at H);obtain ⟨t511,A5,H⟩:=bI H;(try dsimp only at H);obtain rfl:=Option.some.inj H
  go_enter Try.func76,Try.ntmps76
  go_wp2_with (first|((with_reducible refine gLg rfl (by assumption) ?_);refine ldV ?_)|((with_reducible refine gSt rfl (by assumption) ?_);refine stV ?_)|((with_reducible refine gT 1 rfl ?_);refine bX 1 ?_;intro gb506 hg w6 hbox hb;have BK506:=mA hbox;have GW506:=gbpB HB hg;have GE506:=gbpB HB hg;replace HB:=spB HB hb;clear hb hbox hg;have hcz7_0:=fun i_=>blk_cell BK506.out i_;have hfz7_0:=fun i_=>blk_frozen BK506.out i_)|((with_reducible refine gT 5 rfl ?_);refine gC (some 5) Try.func74 (impl_in.calls A2.out) ?_;rintro e w' ⟨rfl,⟨nd,rfl⟩⟩;refine ⟨_,rfl,?_⟩)|(go_at_call 126;(with_reducible refine (impl_cmdNumbers.calls A4.out).mono ?_);rintro e w8 ⟨v509,rfl,ho0,hb⟩;have HO510:=mA (Kd.R_lower ho0 (bpS HB));replace BK506:=bK BK506 hb;replace HB:=spS HB hb;(try clear hb);(try clear ho0);obtain ⟨Ao9,co9,rfl⟩:=Kd.R_slice HO510.out)|(go_at_call 79;(with_reducible refine (impl_numbersOk.calls ?s1 ?s2 A5.out).mono ?_);(case s1=>exact cR HO510);(case s2=>exact cL HO510);rintro e w' ⟨rfl,⟨nd,rfl⟩⟩))
  go_ret
  exact rZ (pS HB.out)
 ·replace c3:=Bool.eq_false_iff.mpr c3;subst c3
  rw [if_neg nFT] at H
  obtain rfl:=Option.some.inj H
  go_enter Try.func76,Try.ntmps76
  go_wp2_with (first|((with_reducible refine gLg rfl (by assumption) ?_);refine ldV ?_)|((with_reducible refine gSt rfl (by assumption) ?_);refine stV ?_)|((with_reducible refine gT 1 rfl ?_);refine bX 1 ?_;intro gb506 hg w10 hbox hb;have BK506:=mA hbox;have GW506:=gbpB HB hg;have GE506:=gbpB HB hg;replace HB:=spB HB hb;clear hb hbox hg;have hcz11_0:=fun i_=>blk_cell BK506.out i_;have hfz11_0:=fun i_=>blk_frozen BK506.out i_)|((with_reducible refine gT 5 rfl ?_);refine gC (some 5) Try.func74 (impl_in.calls A2.out) ?_;rintro e w' ⟨rfl,⟨nd,rfl⟩⟩;refine ⟨_,rfl,?_⟩))
  go_ret
  exact rZ (pS HB.out)
end Go.Proofs.Ytoieojmfkkidnaa.P
