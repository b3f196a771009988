-- printed by pprint.py (this session's program over the kit's printer) out of the translation. Lean checks it.
import Derived.Test.YtoieojmfkkidnaaPx0
import Derived.Test.YtoieojmfkkidnaaPx5
namespace Go.Proofs.Ytoieojmfkkidnaa.P
open Go.RowKit Go.Proofs.YtoieojmfkkidnaaX Go.Proofs.YtoieojmfkkidnaaW.PrintWords Go.Proofs.YtoieojmfkkidnaaW.PrintLast Go.Proofs.YtoieojmfkkidnaaW.PrintMore
attribute [local go_sem] max2_int min2_int max_two min_two max_three min_three max_four min_four   -- for this text's walks alone
set_option linter.unusedVariables false
set_option linter.unusedSimpArgs false
/-! ### impl_piecesNumbers: function 127 -/
def impl_piecesNumbers.l0 : Nat → List Int → List (S138) → Int → Int → Option (List Int)
 | 0,_,_,_,_=>none
 | k+1,x3,x9,x10,x11=>if x11<x10 then (if 0≤x11 then (if x11<(x9.length:Int) then ((some (([(rd_T138 x9 x11).f0,(rd_T138 x9 x11).f1,(rd_T138 x9 x11).f2,(rd_T138 x9 x11).f3]:List Int):List Int)).bind fun y230=>(if x3.length+y230.length<17592186044416 then (impl_piecesNumbers.l0 k (x3 ++ y230) x9 x10 (wrap64 (x11+1))) else (none))) else (none)) else (none)) else (some x3)
def impl_piecesNumbers.f (k : Nat) (l0 : List (S138)) : Option (List Int) := impl_piecesNumbers.l0 k (([(l0.length : Int)] : List Int)) l0 (l0.length : Int) 0
set_option maxHeartbeats 8000000 in
set_option maxRecDepth 100000 in
theorem impl_piecesNumbers.calls {k : Nat} {A0 : Option Addr} {c0 : Nat} {l0 : List (S138)} {r : List Int} {w : World} (hr0 : Kd.C k138 w A0 l0.length l0) (hc0 : l0.length ≤ c0) (h : impl_piecesNumbers.f k l0 = some r) :
  Calls Try.prog 127 #[.slice A0 l0.length c0] w fun e w'=>∃ v0_:Value,e=.returned (v0_)∧Kd.R (Kd.int .i64) 3 w' w.heap.size (fun _=>True) v0_ r∧Below w.heap.size w w':=by
 have hu138:=Try.underlying138;have HR0:=mA hr0;have HC0:=mA hc0;clear hr0 hc0;have HB:=mA (Below.refl w.heap.size w);have H:(impl_piecesNumbers.l0 k (([(l0.length:Int)]:List Int)) l0 (l0.length:Int) 0)=some r:=h;clear h;obtain ⟨y225,hy225⟩:∃ y_:List Int,y_=(([(l0.length:Int)]:List Int)):=⟨_,rfl⟩
 replace H:(impl_piecesNumbers.l0 k y225 l0 (l0.length:Int) 0)=some r:=qH hy225 H
 have Ny225:=mA hy225;clear hy225;have H':=mA H;clear H
 go_enter Try.func127,Try.ntmps127
 go_wp2_with (first|((with_reducible refine gT 8 rfl ?_);refine Kd.R_lit (Kd.int .i64) _ 3 ?hg (N:=8) ?hd (xs:=([(l0.length:Int)]:List Int)) (inner:=[.int .i64 (l0.length:Int)]) (ok:=fun _=>True) (okp:=fun _=>True) ?hr ?hp (fun _ hk=>hk) trivial (Below.refl _ _) (Nat.le_refl _) (by simp) ?_;(case hd=>rfl);(case hg=>rfl);(case hr=>first|(go_simp;done)|(go_simp;rfl));(case hp=>exact (Reps.one (show Kd.M (Kd.int .i64) _ _ _ (l0.length:Int) [.int .i64 (l0.length:Int)] from rfl) (Reps.none _ _)));intro v226 w2 ho3 hb hg_ hnew_;clear hg_ hnew_;(first|rw [← Ny225.out] at ho3|(simp only [Int.reduceToNat] at ho3;rw [← Ny225.out] at ho3));have HO227:=mA (Kd.R_lower ho3 (bpB HB));replace HB:=spB HB hb;clear hb ho3))
 go_loopg [3,11] k (fun kq v3 v11 w'=>∃ (x3_1:List Int) (x11_1:Int),v11=.int .i64 x11_1∧Aside0 (impl_piecesNumbers.l0 kq x3_1 l0 (l0.length:Int) x11_1=some r)∧Aside0 (kq≤k)∧Aside0 (Kd.R (Kd.int .i64) 3 w' w.heap.size (fun _=>True) v3 x3_1)∧Aside0 (Below w.heap.size w w'))
 case atStart=>exact ⟨(y225),(0),bZ,H',⟨Nat.le_refl _⟩,⟨pR HO227.out⟩,⟨pB HB.out⟩⟩
 case round =>
  clear H'
  obtain ⟨x3_1,x11_1,rfl,HA,HK1,HO_3,HB⟩:=hrel
  cases gk with
  | zero=>exact absurd HA.out (by simp [impl_piecesNumbers.l0])
  | succ k1 =>
   have H:=HA.out;clear HA;simp only [impl_piecesNumbers.l0] at H
   by_cases c4:x11_1<(l0.length:Int)
   ·rw [if_pos c4] at H;have c4b0:decide (x11_1<(l0.length:Int))=true:=decide_eq_true c4;clear c4
    by_cases c5:0≤x11_1
    ·rw [if_pos c5] at H;have c5b0:decide (0≤x11_1)=true:=decide_eq_true c5;clear c5
     by_cases c6:x11_1<(l0.length:Int)
     ·rw [if_pos c6] at H;have c6b0:decide (x11_1<(l0.length:Int))=true:=decide_eq_true c6;clear c6;obtain ⟨y230,hy230⟩:∃ y_:List Int,y_=(([(rd_T138 l0 x11_1).f0,(rd_T138 l0 x11_1).f1,(rd_T138 l0 x11_1).f2,(rd_T138 l0 x11_1).f3]:List Int)):=⟨_,rfl⟩
      replace H:(if x3_1.length+y230.length<17592186044416 then (impl_piecesNumbers.l0 k1 (x3_1 ++ y230) l0 (l0.length:Int) (wrap64 (x11_1+1))) else (none))=some r:=qH hy230 H
      have Ny230:=mA hy230;clear hy230
      by_cases c7:x3_1.length+y230.length<17592186044416
      ·rw [if_pos c7] at H;have LMc7:=mA c7;clear c7;obtain ⟨y233,hy233⟩:∃ y_:List Int,y_=(x3_1 ++ y230):=⟨_,rfl⟩
       replace H:(impl_piecesNumbers.l0 k1 y233 l0 (l0.length:Int) (wrap64 (x11_1+1)))=some r:=qH hy233 H
       have Ny233:=mA hy233;clear hy233;have H':=mA H;clear H;have p228:0≤(x11_1:Int):=of_decide_eq_true bA;have q228:x11_1<(l0.length:Int):=of_decide_eq_true bA;obtain ⟨ad228,e228,hx228_0,hx228_1,hx228_2,hx228_3⟩:=at_T138 HR0.out x11_1 p228 q228;cases e228;replace hx228_0:=hC HB hx228_0;replace hx228_1:=hC HB hx228_1;replace hx228_2:=hC HB hx228_2;replace hx228_3:=hC HB hx228_3;replace p228:=eq_true p228;replace q228:=eq_true q228
       go_wp2_with (first|((with_reducible refine gT 5 rfl ?_);refine bJ 5 y138 ?_;intro gb229 hg w8 hbox hb;replace HO_3:=rB HO_3 hb;have BK229:=mA hbox;have GW229:=gbpB HB hg;have GE229:=gbpB HB hg;replace HB:=spB HB hb;clear hb hbox hg;obtain ⟨hcz9_0,hcz9_1,hcz9_2,hcz9_3,hfz9_0,hfz9_1,hfz9_2,hfz9_3⟩:=box4 BK229.out)|((with_reducible refine gT 24 rfl ?_);refine Kd.R_lit (Kd.int .i64) _ 3 ?hg (N:=24) ?hd (xs:=([(rd_T138 l0 x11_1).f0,(rd_T138 l0 x11_1).f1,(rd_T138 l0 x11_1).f2,(rd_T138 l0 x11_1).f3]:List Int)) (inner:=[.int .i64 ((rd_T138 l0 x11_1).f0),.int .i64 ((rd_T138 l0 x11_1).f1),.int .i64 ((rd_T138 l0 x11_1).f2),.int .i64 ((rd_T138 l0 x11_1).f3)]) (ok:=fun _=>True) (okp:=fun _=>True) ?hr ?hp (fun _ hk=>hk) trivial (Below.refl _ _) (Nat.le_refl _) (by simp) ?_;(case hd=>rfl);(case hg=>rfl);(case hr=>first|(go_simp;done)|(go_simp;rfl));(case hp=>repeat (first|exact Reps.none _ _|refine Reps.one (show Kd.M (Kd.int .i64) _ _ _ _ [_] from rfl) ?_));intro v231 w10 ho11 hb hg_ hnew_;clear hg_ hnew_;(first|rw [← Ny230.out] at ho11|(simp only [Int.reduceToNat] at ho11;rw [← Ny230.out] at ho11));have HO232:=mA (Kd.R_lower (Kd.R_new' ho11 (Kd.R_lt (pG HO_3 BK229))) (bpS HB));replace HO_3:=mA (Kd.R_elder' (pG HO_3 BK229) (Kd.R_base ho11) hb);replace BK229:=mA (blk_below (g:=gb229) (o:=.cells #[.int .i64 ((rd_T138 l0 x11_1).f0),.int .i64 ((rd_T138 l0 x11_1).f1),.int .i64 ((rd_T138 l0 x11_1).f2),.int .i64 ((rd_T138 l0 x11_1).f3)] 138 (0,0)) (pP BK229) hb);replace HB:=spS HB hb;clear hb ho11;obtain ⟨Ao13,co13,rfl⟩:=Kd.R_slice HO232.out)|((with_reducible refine gate_builtin (b:=.append) (xs:=#[.tmp 15,.tmp 24]) rfl ?_);at_builtin;refine Kd.R_append_rows (Kd.int .i64) (w0:=w) w.heap.size rfl (.tmp 15) (.tmp 24) 58 3 (.int .i64 0) 8 rfl Try.underlying58 info3 rfl aD (by omega) u3 x3_1 y230 _ _ _ (fun k_=>some k_≠(.slice Ao13 y230.length co13:Value).ownBlock) (fun _=>False) rfl rfl ?aO ?aR (fun _ _ h=>h) (fun _ h=>h.elim) ?aF ?aB ?aS ?aL ?_;(case aR=>exact cR HO232);(case aB=>exact (pS HB.out));(case aF=>exact (fun k_ hk=>Kd.fresh' (rL HO232) k_ hk));(case aO=>exact (pR (Kd.R_mono HO_3.out (fun _ hk=>hk.2))));(case aS=>exact (bpS HB));(case aL=>have:=LMc7.out;omega);intro v234 w12 ho hb hg hat;rw [← Ny233.out] at ho;replace HO232:=mA (Kd.R_after (ok:=(fun _=>True)) (pR HO232.out) hg hat);have HO235:=mA ho;replace BK229:=mA (blk_grown (pK BK229.out) hg (rN HO_3 BK229));replace HB:=mA hb;clear HO_3;clear ho hb hg hat))
       go_roundg k1
       case measure=>have:=HK1.out;omega
       case rel=>exact ⟨(y233),(wrap64 (x11_1+1)),bZ,H',⟨by have:=HK1.out;omega⟩,⟨pR (Kd.R_mono HO235.out (fun _ hk=>trivial))⟩,⟨pS HB.out⟩⟩
      ·rw [if_neg c7] at H
       exact absurd H (by simp)
     ·rw [if_neg c6] at H
      exact absurd H (by simp)
    ·rw [if_neg c5] at H
     exact absurd H (by simp)
   ·rw [if_neg c4] at H;have c4b0:decide (x11_1<(l0.length:Int))=false:=decide_eq_false c4;clear c4;obtain rfl:=Option.some.inj H
    go_wp2
    go_ret
    exact ⟨_,by first|rfl|(simp [errW_none,errW_some]<;>rfl)|(simp [*,errW_none,errW_some]<;>rfl),pR HO_3.out,pB HB.out⟩
/-! ### impl_lastNumbers: function 128 -/
def impl_lastNumbers.l0 : Nat → List Int → List (S140) → Int → Int → Option (List Int)
 | 0,_,_,_,_=>none
 | k+1,x3,x9,x10,x11=>if x11<x10 then (if 0≤x11 then (if x11<(x9.length:Int) then ((some (([(rd_T140 x9 x11).f0,(rd_T140 x9 x11).f1]:List Int):List Int)).bind fun y241=>(if x3.length+y241.length<17592186044416 then (impl_lastNumbers.l0 k (x3 ++ y241) x9 x10 (wrap64 (x11+1))) else (none))) else (none)) else (none)) else (some x3)
def impl_lastNumbers.f (k : Nat) (l0 : List (S140)) : Option (List Int) := impl_lastNumbers.l0 k (([(l0.length : Int)] : List Int)) l0 (l0.length : Int) 0
set_option maxHeartbeats 8000000 in
set_option maxRecDepth 100000 in
theorem impl_lastNumbers.calls {k : Nat} {A0 : Option Addr} {c0 : Nat} {l0 : List (S140)} {r : List Int} {w : World} (hr0 : Kd.C k140 w A0 l0.length l0) (hc0 : l0.length ≤ c0) (h : impl_lastNumbers.f k l0 = some r) :
  Calls Try.prog 128 #[.slice A0 l0.length c0] w fun e w'=>∃ v0_:Value,e=.returned (v0_)∧Kd.R (Kd.int .i64) 3 w' w.heap.size (fun _=>True) v0_ r∧Below w.heap.size w w':=by
 have hu140:=Try.underlying140;have HR0:=mA hr0;have HC0:=mA hc0;clear hr0 hc0;have HB:=mA (Below.refl w.heap.size w);have H:(impl_lastNumbers.l0 k (([(l0.length:Int)]:List Int)) l0 (l0.length:Int) 0)=some r:=h;clear h;obtain ⟨y236,hy236⟩:∃ y_:List Int,y_=(([(l0.length:Int)]:List Int)):=⟨_,rfl⟩
 replace H:(impl_lastNumbers.l0 k y236 l0 (l0.length:Int) 0)=some r:=qH hy236 H
 have Ny236:=mA hy236;clear hy236;have H':=mA H;clear H
 go_enter Try.func128,Try.ntmps128
 go_wp2_with (first|((with_reducible refine gT 8 rfl ?_);refine Kd.R_lit (Kd.int .i64) _ 3 ?hg (N:=8) ?hd (xs:=([(l0.length:Int)]:List Int)) (inner:=[.int .i64 (l0.length:Int)]) (ok:=fun _=>True) (okp:=fun _=>True) ?hr ?hp (fun _ hk=>hk) trivial (Below.refl _ _) (Nat.le_refl _) (by simp) ?_;(case hd=>rfl);(case hg=>rfl);(case hr=>first|(go_simp;done)|(go_simp;rfl));(case hp=>exact (Reps.one (show Kd.M (Kd.int .i64) _ _ _ (l0.length:Int) [.int .i64 (l0.length:Int)] from rfl) (Reps.none _ _)));intro v237 w2 ho3 hb hg_ hnew_;clear hg_ hnew_;(first|rw [← Ny236.out] at ho3|(simp only [Int.reduceToNat] at ho3;rw [← Ny236.out] at ho3));have HO238:=mA (Kd.R_lower ho3 (bpB HB));replace HB:=spB HB hb;clear hb ho3))
 go_loopg [3,11] k (fun kq v3 v11 w'=>∃ (x3_1:List Int) (x11_1:Int),v11=.int .i64 x11_1∧Aside0 (impl_lastNumbers.l0 kq x3_1 l0 (l0.length:Int) x11_1=some r)∧Aside0 (kq≤k)∧Aside0 (Kd.R (Kd.int .i64) 3 w' w.heap.size (fun _=>True) v3 x3_1)∧Aside0 (Below w.heap.size w w'))
 case atStart=>exact ⟨(y236),(0),bZ,H',⟨Nat.le_refl _⟩,⟨pR HO238.out⟩,⟨pB HB.out⟩⟩
 case round =>
  clear H'
  obtain ⟨x3_1,x11_1,rfl,HA,HK1,HO_3,HB⟩:=hrel
  cases gk with
  | zero=>exact absurd HA.out (by simp [impl_lastNumbers.l0])
  | succ k1 =>
   have H:=HA.out;clear HA;simp only [impl_lastNumbers.l0] at H
   by_cases c4:x11_1<(l0.length:Int)
   ·rw [if_pos c4] at H;have c4b0:decide (x11_1<(l0.length:Int))=true:=decide_eq_true c4;clear c4
    by_cases c5:0≤x11_1
    ·rw [if_pos c5] at H;have c5b0:decide (0≤x11_1)=true:=decide_eq_true c5;clear c5
     by_cases c6:x11_1<(l0.length:Int)
     ·rw [if_pos c6] at H;have c6b0:decide (x11_1<(l0.length:Int))=true:=decide_eq_true c6;clear c6;obtain ⟨y241,hy241⟩:∃ y_:List Int,y_=(([(rd_T140 l0 x11_1).f0,(rd_T140 l0 x11_1).f1]:List Int)):=⟨_,rfl⟩
      replace H:(if x3_1.length+y241.length<17592186044416 then (impl_lastNumbers.l0 k1 (x3_1 ++ y241) l0 (l0.length:Int) (wrap64 (x11_1+1))) else (none))=some r:=qH hy241 H
      have Ny241:=mA hy241;clear hy241
      by_cases c7:x3_1.length+y241.length<17592186044416
      ·rw [if_pos c7] at H;have LMc7:=mA c7;clear c7;obtain ⟨y244,hy244⟩:∃ y_:List Int,y_=(x3_1 ++ y241):=⟨_,rfl⟩
       replace H:(impl_lastNumbers.l0 k1 y244 l0 (l0.length:Int) (wrap64 (x11_1+1)))=some r:=qH hy244 H
       have Ny244:=mA hy244;clear hy244;have H':=mA H;clear H;have p239:0≤(x11_1:Int):=of_decide_eq_true bA;have q239:x11_1<(l0.length:Int):=of_decide_eq_true bA;obtain ⟨ad239,e239,hx239_0,hx239_1⟩:=at_T140 HR0.out x11_1 p239 q239;cases e239;replace hx239_0:=hC HB hx239_0;replace hx239_1:=hC HB hx239_1;replace p239:=eq_true p239;replace q239:=eq_true q239
       go_wp2_with (first|((with_reducible refine gT 5 rfl ?_);refine bE 5 #[.int .i64 0,.int .i64 0] 140 ?_;intro gb240 hg w8 hbox hb;replace HO_3:=rB HO_3 hb;have BK240:=mA hbox;have GW240:=gbpB HB hg;have GE240:=gbpB HB hg;replace HB:=spB HB hb;clear hb hbox hg;obtain ⟨hcz9_0,hcz9_1,hfz9_0,hfz9_1⟩:=box2 BK240.out)|((with_reducible refine gT 20 rfl ?_);refine Kd.R_lit (Kd.int .i64) _ 3 ?hg (N:=20) ?hd (xs:=([(rd_T140 l0 x11_1).f0,(rd_T140 l0 x11_1).f1]:List Int)) (inner:=[.int .i64 ((rd_T140 l0 x11_1).f0),.int .i64 ((rd_T140 l0 x11_1).f1)]) (ok:=fun _=>True) (okp:=fun _=>True) ?hr ?hp (fun _ hk=>hk) trivial (Below.refl _ _) (Nat.le_refl _) (by simp) ?_;(case hd=>rfl);(case hg=>rfl);(case hr=>first|(go_simp;done)|(go_simp;rfl));(case hp=>repeat (first|exact Reps.none _ _|refine Reps.one (show Kd.M (Kd.int .i64) _ _ _ _ [_] from rfl) ?_));intro v242 w10 ho11 hb hg_ hnew_;clear hg_ hnew_;(first|rw [← Ny241.out] at ho11|(simp only [Int.reduceToNat] at ho11;rw [← Ny241.out] at ho11));have HO243:=mA (Kd.R_lower (Kd.R_new' ho11 (Kd.R_lt (pG HO_3 BK240))) (bpS HB));replace HO_3:=mA (Kd.R_elder' (pG HO_3 BK240) (Kd.R_base ho11) hb);replace BK240:=mA (blk_below (g:=gb240) (o:=.cells #[.int .i64 ((rd_T140 l0 x11_1).f0),.int .i64 ((rd_T140 l0 x11_1).f1)] 140 (0,0)) (pP BK240) hb);replace HB:=spS HB hb;clear hb ho11;obtain ⟨Ao13,co13,rfl⟩:=Kd.R_slice HO243.out)|((with_reducible refine gate_builtin (b:=.append) (xs:=#[.tmp 15,.tmp 20]) rfl ?_);at_builtin;refine Kd.R_append_rows (Kd.int .i64) (w0:=w) w.heap.size rfl (.tmp 15) (.tmp 20) 58 3 (.int .i64 0) 8 rfl Try.underlying58 info3 rfl aD (by omega) u3 x3_1 y241 _ _ _ (fun k_=>some k_≠(.slice Ao13 y241.length co13:Value).ownBlock) (fun _=>False) rfl rfl ?aO ?aR (fun _ _ h=>h) (fun _ h=>h.elim) ?aF ?aB ?aS ?aL ?_;(case aR=>exact cR HO243);(case aB=>exact (pS HB.out));(case aF=>exact (fun k_ hk=>Kd.fresh' (rL HO243) k_ hk));(case aO=>exact (pR (Kd.R_mono HO_3.out (fun _ hk=>hk.2))));(case aS=>exact (bpS HB));(case aL=>have:=LMc7.out;omega);intro v245 w12 ho hb hg hat;rw [← Ny244.out] at ho;replace HO243:=mA (Kd.R_after (ok:=(fun _=>True)) (pR HO243.out) hg hat);have HO246:=mA ho;replace BK240:=mA (blk_grown (pK BK240.out) hg (rN HO_3 BK240));replace HB:=mA hb;clear HO_3;clear ho hb hg hat))
       go_roundg k1
       case measure=>have:=HK1.out;omega
       case rel=>exact ⟨(y244),(wrap64 (x11_1+1)),bZ,H',⟨by have:=HK1.out;omega⟩,⟨pR (Kd.R_mono HO246.out (fun _ hk=>trivial))⟩,⟨pS HB.out⟩⟩
      ·rw [if_neg c7] at H
       exact absurd H (by simp)
     ·rw [if_neg c6] at H
      exact absurd H (by simp)
    ·rw [if_neg c5] at H
     exact absurd H (by simp)
   ·rw [if_neg c4] at H;have c4b0:decide (x11_1<(l0.length:Int))=false:=decide_eq_false c4;clear c4;obtain rfl:=Option.some.inj H
    go_wp2
    go_ret
    exact ⟨_,by first|rfl|(simp [errW_none,errW_some]<;>rfl)|(simp [*,errW_none,errW_some]<;>rfl),pR HO_3.out,pB HB.out⟩
/-! ### impl_wordNumbers: function 62 -/
def impl_wordNumbers.f (k : Nat) (a0_0 a0_1 a0_2 a0_3 a0_4 a0_5 a0_6 a0_7 a0_8 a0_9 a0_10 a0_11 a0_12 a0_13 a0_14 a0_15 a0_16 a0_17 a0_18 a0_19 a0_20 a0_21 a0_22 a0_23 : Int) (l0_24 : List (S138)) (l0_25 : List (S140)) : Option (List Int) := (some (([a0_0, a0_1, a0_2, a0_3, a0_4, a0_5] : List Int) : List Int)).bind fun y248 => ((impl_cmdNumbers.f a0_6 a0_7 a0_8 a0_9 a0_10 a0_11 a0_12 a0_13 a0_14 a0_15).bind fun t251 => (if y248.length + t251.length < 17592186044416 then ((some (y248 ++ t251 : List Int)).bind fun y254 => ((some (([a0_16, a0_17, a0_18, a0_19, a0_20, a0_21, a0_22, a0_23] : List Int) : List Int)).bind fun y257 => (if y254.length + y257.length < 17592186044416 then ((some (y254 ++ y257 : List Int)).bind fun y260 => ((impl_piecesNumbers.f k l0_24).bind fun t263 => (if y260.length + t263.length < 17592186044416 then ((some (y260 ++ t263 : List Int)).bind fun y266 => ((impl_lastNumbers.f k l0_25).bind fun t269 => (if y266.length + t269.length < 17592186044416 then (some (y266 ++ t269)) else (none)))) else (none)))) else (none)))) else (none)))
set_option maxHeartbeats 8000000 in
set_option maxRecDepth 100000 in
theorem impl_wordNumbers.calls {k : Nat} {a0_0 a0_1 a0_2 a0_3 a0_4 a0_5 a0_6 a0_7 a0_8 a0_9 a0_10 a0_11 a0_12 a0_13 a0_14 a0_15 a0_16 a0_17 a0_18 a0_19 a0_20 a0_21 a0_22 a0_23 : Int} {A0_24 : Option Addr} {c0_24 : Nat} {l0_24 : List (S138)} {A0_25 : Option Addr} {c0_25 : Nat} {l0_25 : List (S140)} {r : List Int} {w : World} (hr0_24 : Kd.C k138 w A0_24 l0_24.length l0_24) (hc0_24 : l0_24.length ≤ c0_24) (hr0_25 : Kd.C k140 w A0_25 l0_25.length l0_25) (hc0_25 : l0_25.length ≤ c0_25) (h : impl_wordNumbers.f k a0_0 a0_1 a0_2 a0_3 a0_4 a0_5 a0_6 a0_7 a0_8 a0_9 a0_10 a0_11 a0_12 a0_13 a0_14 a0_15 a0_16 a0_17 a0_18 a0_19 a0_20 a0_21 a0_22 a0_23 l0_24 l0_25 = some r) :
  Calls Try.prog 62 #[.agg #[.int .i64 a0_0,.int .i64 a0_1,.int .i64 a0_2,.int .i64 a0_3,.int .i64 a0_4,.int .i64 a0_5,.int .i64 a0_6,.int .i64 a0_7,.int .i64 a0_8,.int .i64 a0_9,.int .i64 a0_10,.int .i64 a0_11,.int .i64 a0_12,.int .i64 a0_13,.int .i64 a0_14,.int .i64 a0_15,.int .i64 a0_16,.int .i64 a0_17,.int .i64 a0_18,.int .i64 a0_19,.int .i64 a0_20,.int .i64 a0_21,.int .i64 a0_22,.int .i64 a0_23,.slice A0_24 l0_24.length c0_24,.slice A0_25 l0_25.length c0_25]] w fun e w'=>∃ v0_:Value,e=.returned (v0_)∧Kd.R (Kd.int .i64) 3 w' w.heap.size (fun _=>True) v0_ r∧Below w.heap.size w w':=by
 have hu28:=Try.underlying28;have hu24:=Try.underlying24;have HR0_24:=mA hr0_24;have HC0_24:=mA hc0_24;clear hr0_24 hc0_24;have HR0_25:=mA hr0_25;have HC0_25:=mA hc0_25;clear hr0_25 hc0_25;have HB:=mA (Below.refl w.heap.size w);have H:((some (([a0_0,a0_1,a0_2,a0_3,a0_4,a0_5]:List Int):List Int)).bind fun y248=>((impl_cmdNumbers.f a0_6 a0_7 a0_8 a0_9 a0_10 a0_11 a0_12 a0_13 a0_14 a0_15).bind fun t251=>(if y248.length+t251.length<17592186044416 then ((some (y248 ++ t251:List Int)).bind fun y254=>((some (([a0_16,a0_17,a0_18,a0_19,a0_20,a0_21,a0_22,a0_23]:List Int):List Int)).bind fun y257=>(if y254.length+y257.length<17592186044416 then ((some (y254 ++ y257:List Int)).bind fun y260=>((impl_piecesNumbers.f k l0_24).bind fun t263=>(if y260.length+t263.length<17592186044416 then ((some (y260 ++ t263:List Int)).bind fun y266=>((impl_lastNumbers.f k l0_25).bind fun t269=>(if y266.length+t269.length<17592186044416 then (some (y266 ++ t269)) else (none)))) else (none)))) else (none)))) else (none))))=some r:=h;clear h;obtain ⟨y248,hy248⟩:∃ y_:List Int,y_=(([a0_0,a0_1,a0_2,a0_3,a0_4,a0_5]:List Int)):=⟨_,rfl⟩
 replace H:((impl_cmdNumbers.f a0_6 a0_7 a0_8 a0_9 a0_10 a0_11 a0_12 a0_13 a0_14 a0_15).bind fun t251=>(if y248.length+t251.length<17592186044416 then ((some (y248 ++ t251:List Int)).bind fun y254=>((some (([a0_16,a0_17,a0_18,a0_19,a0_20,a0_21,a0_22,a0_23]:List Int):List Int)).bind fun y257=>(if y254.length+y257.length<17592186044416 then ((some (y254 ++ y257:List Int)).bind fun y260=>((impl_piecesNumbers.f k l0_24).bind fun t263=>(if y260.length+t263.length<17592186044416 then ((some (y260 ++ t263:List Int)).bind fun y266=>((impl_lastNumbers.f k l0_25).bind fun t269=>(if y266.length+t269.length<17592186044416 then (some (y266 ++ t269)) else (none)))) else (none)))) else (none)))) else (none)))=some r:=qH hy248 H
 have Ny248:=mA hy248;clear hy248;obtain ⟨t251,A2,H⟩:=bI H;(try dsimp only at H)
 by_cases c3:y248.length+t251.length<17592186044416
 ·rw [if_pos c3] at H;have LMc3:=mA c3;clear c3;obtain ⟨y254,hy254⟩:∃ y_:List Int,y_=(y248 ++ t251):=⟨_,rfl⟩
  replace H:((some (([a0_16,a0_17,a0_18,a0_19,a0_20,a0_21,a0_22,a0_23]:List Int):List Int)).bind fun y257=>(if y254.length+y257.length<17592186044416 then ((some (y254 ++ y257:List Int)).bind fun y260=>((impl_piecesNumbers.f k l0_24).bind fun t263=>(if y260.length+t263.length<17592186044416 then ((some (y260 ++ t263:List Int)).bind fun y266=>((impl_lastNumbers.f k l0_25).bind fun t269=>(if y266.length+t269.length<17592186044416 then (some (y266 ++ t269)) else (none)))) else (none)))) else (none)))=some r:=qH hy254 H
  have Ny254:=mA hy254;clear hy254;obtain ⟨y257,hy257⟩:∃ y_:List Int,y_=(([a0_16,a0_17,a0_18,a0_19,a0_20,a0_21,a0_22,a0_23]:List Int)):=⟨_,rfl⟩
  replace H:(if y254.length+y257.length<17592186044416 then ((some (y254 ++ y257:List Int)).bind fun y260=>((impl_piecesNumbers.f k l0_24).bind fun t263=>(if y260.length+t263.length<17592186044416 then ((some (y260 ++ t263:List Int)).bind fun y266=>((impl_lastNumbers.f k l0_25).bind fun t269=>(if y266.length+t269.length<17592186044416 then (some (y266 ++ t269)) else (none)))) else (none)))) else (none))=some r:=qH hy257 H
  have Ny257:=mA hy257;clear hy257
  by_cases c4:y254.length+y257.length<17592186044416
  ·rw [if_pos c4] at H;have LMc4:=mA c4;clear c4;obtain ⟨y260,hy260⟩:∃ y_:List Int,y_=(y254 ++ y257):=⟨_,rfl⟩
   replace H:((impl_piecesNumbers.f k l0_24).bind fun t263=>(if y260.length+t263.length<17592186044416 then ((some (y260 ++ t263:List Int)).bind fun y266=>((impl_lastNumbers.f k l0_25).bind fun t269=>(if y266.length+t269.length<17592186044416 then (some (y266 ++ t269)) else (none)))) else (none)))=some r:=qH hy260 H
   have Ny260:=mA hy260;clear hy260;obtain ⟨t263,A5,H⟩:=bI H;(try dsimp only at H)
   by_cases c6:y260.length+t263.length<17592186044416
   ·rw [if_pos c6] at H;have LMc6:=mA c6;clear c6;obtain ⟨y266,hy266⟩:∃ y_:List Int,y_=(y260 ++ t263):=⟨_,rfl⟩
    replace H:((impl_lastNumbers.f k l0_25).bind fun t269=>(if y266.length+t269.length<17592186044416 then (some (y266 ++ t269)) else (none)))=some r:=qH hy266 H
    have Ny266:=mA hy266;clear hy266;obtain ⟨t269,A7,H⟩:=bI H;(try dsimp only at H)
    by_cases c8:y266.length+t269.length<17592186044416
    ·rw [if_pos c8] at H;have LMc8:=mA c8;clear c8;obtain ⟨y272,hy272⟩:∃ y_:List Int,y_=(y266 ++ t269):=⟨_,rfl⟩
     replace H:(some y272)=some r:=qH hy272 H
     have Ny272:=mA hy272;clear hy272;obtain rfl:=Option.some.inj H
     go_enter Try.func62,Try.ntmps62
     go_wp2_with (first|((with_reducible refine gLg rfl (by assumption) ?_);refine ldV ?_)|((with_reducible refine gSt rfl (by assumption) ?_);refine stV ?_)|((with_reducible refine gT 1 rfl ?_);refine bX 1 ?_;intro gb247 hg w9 hbox hb;have BK247:=mA hbox;have GW247:=gbpB HB hg;have GE247:=gbpB HB hg;replace HB:=spB HB hb;clear hb hbox hg;have hcz10_0:=fun i_=>blk_cell BK247.out i_;have hfz10_0:=fun i_=>blk_frozen BK247.out i_)|((with_reducible refine gT 16 rfl ?_);refine Kd.R_lit (Kd.int .i64) _ 3 ?hg (N:=16) ?hd (xs:=([a0_0,a0_1,a0_2,a0_3,a0_4,a0_5]:List Int)) (inner:=[.int .i64 a0_0,.int .i64 a0_1,.int .i64 a0_2,.int .i64 a0_3,.int .i64 a0_4,.int .i64 a0_5]) (ok:=fun _=>True) (okp:=fun _=>True) ?hr ?hp (fun _ hk=>hk) trivial (Below.refl _ _) (Nat.le_refl _) (by simp) ?_;(case hd=>rfl);(case hg=>rfl);(case hr=>first|(go_simp;done)|(go_simp;rfl));(case hp=>repeat (first|exact Reps.none _ _|refine Reps.one (show Kd.M (Kd.int .i64) _ _ _ _ [_] from rfl) ?_));intro v249 w11 ho12 hb hg_ hnew_;clear hg_ hnew_;(first|rw [← Ny248.out] at ho12|(simp only [Int.reduceToNat] at ho12;rw [← Ny248.out] at ho12));have HO250:=mA (Kd.R_lower ho12 (bpS HB));replace BK247:=bK BK247 hb;replace HB:=spS HB hb;clear hb ho12;have hcz13_0:=fun i_=>blk_cell BK247.out i_;have hfz13_0:=fun i_=>blk_frozen BK247.out i_)|((with_reducible refine gT 20 rfl ?_);refine gC (some 20) Try.func126 (impl_cmdNumbers.calls A2.out) ?_;rintro e w14 ⟨v252,rfl,ho0,hb⟩;refine ⟨_,rfl,?_⟩;have HO253:=mA (Kd.R_lower (Kd.R_new' ho0 (rL HO250)) (bpS HB));replace HO250:=rE HO250 ho0 hb;replace BK247:=bK BK247 hb;replace HB:=spS HB hb;(try clear hb);(try clear ho0);obtain ⟨Ao16,co16,rfl⟩:=Kd.R_slice HO253.out)|((with_reducible refine gate_builtin (b:=.append) (xs:=#[.tmp 17,.tmp 20]) rfl ?_);at_builtin;refine Kd.R_append_rows (Kd.int .i64) (w0:=w) w.heap.size rfl (.tmp 17) (.tmp 20) 58 3 (.int .i64 0) 8 rfl Try.underlying58 info3 rfl aD (by omega) v249 y248 t251 _ _ _ (fun k_=>some k_≠(.slice Ao16 t251.length co16:Value).ownBlock) (fun _=>False) rfl rfl ?aO ?aR (fun _ _ h=>h) (fun _ h=>h.elim) ?aF ?aB ?aS ?aL ?_;(case aR=>exact cR HO253);(case aB=>exact (pS HB.out));(case aF=>exact (fun k_ hk=>Kd.fresh' (rL HO253) k_ hk));(case aO=>exact (pR (Kd.R_mono HO250.out (fun _ hk=>hk.2))));(case aS=>exact (bpS HB));(case aL=>have:=LMc3.out;omega);intro v255 w15 ho hb hg hat;rw [← Ny254.out] at ho;replace HO253:=mA (Kd.R_after (ok:=(fun _=>True)) (pR HO253.out) hg hat);have HO256:=mA ho;replace BK247:=mA (blk_grown (pK BK247.out) hg (rN HO250 BK247));replace HB:=mA hb;clear HO250;clear ho hb hg hat;have hcz17_0:=fun i_=>blk_cell BK247.out i_;have hfz17_0:=fun i_=>blk_frozen BK247.out i_)|((with_reducible refine gT 39 rfl ?_);refine Kd.R_lit (Kd.int .i64) _ 3 ?hg (N:=39) ?hd (xs:=([a0_16,a0_17,a0_18,a0_19,a0_20,a0_21,a0_22,a0_23]:List Int)) (inner:=[.int .i64 a0_16,.int .i64 a0_17,.int .i64 a0_18,.int .i64 a0_19,.int .i64 a0_20,.int .i64 a0_21,.int .i64 a0_22,.int .i64 a0_23]) (ok:=fun _=>True) (okp:=fun _=>True) ?hr ?hp (fun _ hk=>hk) trivial (Below.refl _ _) (Nat.le_refl _) (by simp) ?_;(case hd=>rfl);(case hg=>rfl);(case hr=>first|(go_simp;done)|(go_simp;rfl));(case hp=>repeat (first|exact Reps.none _ _|refine Reps.one (show Kd.M (Kd.int .i64) _ _ _ _ [_] from rfl) ?_));intro v258 w18 ho19 hb hg_ hnew_;clear hg_ hnew_;(first|rw [← Ny257.out] at ho19|(simp only [Int.reduceToNat] at ho19;rw [← Ny257.out] at ho19));have HO259:=mA (Kd.R_lower (Kd.R_new' (Kd.R_new' ho19 (rL HO253)) (rL HO256)) (bpS HB));replace HO253:=rE HO253 ho19 hb;replace HO256:=rE HO256 ho19 hb;replace BK247:=bK BK247 hb;replace HB:=spS HB hb;clear hb ho19;obtain ⟨Ao21,co21,rfl⟩:=Kd.R_slice HO259.out)|((with_reducible refine gate_builtin (b:=.append) (xs:=#[.tmp 22,.tmp 39]) rfl ?_);at_builtin;refine Kd.R_append_rows (Kd.int .i64) (w0:=w) w.heap.size rfl (.tmp 22) (.tmp 39) 58 3 (.int .i64 0) 8 rfl Try.underlying58 info3 rfl aD (by omega) v255 y254 y257 _ _ _ (fun k_=>some k_≠(.slice Ao16 t251.length co16:Value).ownBlock∧some k_≠(.slice Ao21 y257.length co21:Value).ownBlock) (fun _=>False) rfl rfl ?aO ?aR (fun _ _ h=>h) (fun _ h=>h.elim) ?aF ?aB ?aS ?aL ?_;(case aR=>exact cR HO259);(case aB=>exact (pS HB.out));(case aF=>exact (fun k_ hk=>⟨Kd.fresh' (rL HO253) k_ hk,Kd.fresh' (rL HO259) k_ hk⟩));(case aO=>exact (pR HO256.out));(case aS=>exact (bpS HB));(case aL=>have:=LMc4.out;omega);intro v261 w20 ho hb hg hat;rw [← Ny260.out] at ho;replace HO253:=mA (Kd.R_after (ok:=(fun k_=>some k_≠(.slice Ao21 y257.length co21:Value).ownBlock)) (pR (Kd.R_mono HO253.out (fun _ hk=>⟨hk.2,hk.1.2⟩))) hg hat);replace HO259:=mA (Kd.R_after (ok:=(fun k_=>some k_≠(.slice Ao16 t251.length co16:Value).ownBlock)) (pR (Kd.R_mono HO259.out (fun _ hk=>⟨hk.1.2,hk.2⟩))) hg hat);have HO262:=mA ho;replace BK247:=mA (blk_grown (pK BK247.out) hg (rN HO256 BK247));replace HB:=mA hb;clear HO256;clear ho hb hg hat;have hcz22_0:=fun i_=>blk_cell BK247.out i_;have hfz22_0:=fun i_=>blk_frozen BK247.out i_)|((with_reducible refine gT 44 rfl ?_);refine gC (some 44) Try.func127 (impl_piecesNumbers.calls (cB HR0_24 HB) HC0_24.out A5.out) ?_;rintro e w23 ⟨v264,rfl,ho0,hb⟩;refine ⟨_,rfl,?_⟩;have HO265:=mA (Kd.R_lower (Kd.R_new' (Kd.R_new' (Kd.R_new' ho0 (rL HO253)) (rL HO259)) (rL HO262)) (bpS HB));replace HO253:=rE HO253 ho0 hb;replace HO259:=rE HO259 ho0 hb;replace HO262:=rE HO262 ho0 hb;replace BK247:=bK BK247 hb;replace HB:=spS HB hb;(try clear hb);(try clear ho0);obtain ⟨Ao25,co25,rfl⟩:=Kd.R_slice HO265.out)|((with_reducible refine gate_builtin (b:=.append) (xs:=#[.tmp 41,.tmp 44]) rfl ?_);at_builtin;refine Kd.R_append_rows (Kd.int .i64) (w0:=w) w.heap.size rfl (.tmp 41) (.tmp 44) 58 3 (.int .i64 0) 8 rfl Try.underlying58 info3 rfl aD (by omega) v261 y260 t263 _ _ _ (fun k_=>some k_≠(.slice Ao16 t251.length co16:Value).ownBlock∧some k_≠(.slice Ao21 y257.length co21:Value).ownBlock∧some k_≠(.slice Ao25 t263.length co25:Value).ownBlock) (fun _=>False) rfl rfl ?aO ?aR (fun _ _ h=>h) (fun _ h=>h.elim) ?aF ?aB ?aS ?aL ?_;(case aR=>exact cR HO265);(case aB=>exact (pS HB.out));(case aF=>exact (fun k_ hk=>⟨Kd.fresh' (rL HO253) k_ hk,Kd.fresh' (rL HO259) k_ hk,Kd.fresh' (rL HO265) k_ hk⟩));(case aO=>exact (pR (Kd.R_mono HO262.out (fun _ hk=>⟨hk.1.1,⟨hk.1.2,hk.2⟩⟩))));(case aS=>exact (bpS HB));(case aL=>have:=LMc6.out;omega);intro v267 w24 ho hb hg hat;rw [← Ny266.out] at ho;replace HO253:=mA (Kd.R_after (ok:=(fun k_=>some k_≠(.slice Ao21 y257.length co21:Value).ownBlock∧some k_≠(.slice Ao25 t263.length co25:Value).ownBlock)) (pR (Kd.R_mono HO253.out (fun _ hk=>⟨⟨hk.1.1,hk.2⟩,hk.1.2⟩))) hg hat);replace HO259:=mA (Kd.R_after (ok:=(fun k_=>some k_≠(.slice Ao16 t251.length co16:Value).ownBlock∧some k_≠(.slice Ao25 t263.length co25:Value).ownBlock)) (pR (Kd.R_mono HO259.out (fun _ hk=>⟨⟨hk.1.1,hk.2⟩,hk.1.2⟩))) hg hat);replace HO265:=mA (Kd.R_after (ok:=(fun k_=>some k_≠(.slice Ao16 t251.length co16:Value).ownBlock∧some k_≠(.slice Ao21 y257.length co21:Value).ownBlock)) (pR (Kd.R_mono HO265.out (fun _ hk=>⟨⟨hk.1.1.2,hk.1.2⟩,hk.2⟩))) hg hat);have HO268:=mA ho;replace BK247:=mA (blk_grown (pK BK247.out) hg (rN HO262 BK247));replace HB:=mA hb;clear HO262;clear ho hb hg hat;have hcz26_0:=fun i_=>blk_cell BK247.out i_;have hfz26_0:=fun i_=>blk_frozen BK247.out i_)|((with_reducible refine gT 49 rfl ?_);refine gC (some 49) Try.func128 (impl_lastNumbers.calls (cB HR0_25 HB) HC0_25.out A7.out) ?_;rintro e w27 ⟨v270,rfl,ho0,hb⟩;refine ⟨_,rfl,?_⟩;have HO271:=mA (Kd.R_lower (Kd.R_new' (Kd.R_new' (Kd.R_new' (Kd.R_new' ho0 (rL HO253)) (rL HO259)) (rL HO265)) (rL HO268)) (bpS HB));replace HO253:=rE HO253 ho0 hb;replace HO259:=rE HO259 ho0 hb;replace HO265:=rE HO265 ho0 hb;replace HO268:=rE HO268 ho0 hb;replace BK247:=bK BK247 hb;replace HB:=spS HB hb;(try clear hb);(try clear ho0);obtain ⟨Ao29,co29,rfl⟩:=Kd.R_slice HO271.out)|((with_reducible refine gate_builtin (b:=.append) (xs:=#[.tmp 46,.tmp 49]) rfl ?_);at_builtin;refine Kd.R_append_rows (Kd.int .i64) (w0:=w) w.heap.size rfl (.tmp 46) (.tmp 49) 58 3 (.int .i64 0) 8 rfl Try.underlying58 info3 rfl aD (by omega) v267 y266 t269 _ _ _ (fun k_=>some k_≠(.slice Ao16 t251.length co16:Value).ownBlock∧some k_≠(.slice Ao21 y257.length co21:Value).ownBlock∧some k_≠(.slice Ao25 t263.length co25:Value).ownBlock∧some k_≠(.slice Ao29 t269.length co29:Value).ownBlock) (fun _=>False) rfl rfl ?aO ?aR (fun _ _ h=>h) (fun _ h=>h.elim) ?aF ?aB ?aS ?aL ?_;(case aR=>exact cR HO271);(case aB=>exact (pS HB.out));(case aF=>exact (fun k_ hk=>⟨Kd.fresh' (rL HO253) k_ hk,Kd.fresh' (rL HO259) k_ hk,Kd.fresh' (rL HO265) k_ hk,Kd.fresh' (rL HO271) k_ hk⟩));(case aO=>exact (pR (Kd.R_mono HO268.out (fun _ hk=>⟨hk.1.1,⟨hk.1.2.1,⟨hk.1.2.2,hk.2⟩⟩⟩))));(case aS=>exact (bpS HB));(case aL=>have:=LMc8.out;omega);intro v273 w28 ho hb hg hat;rw [← Ny272.out] at ho;replace HO253:=mA (Kd.R_after (ok:=(fun k_=>some k_≠(.slice Ao21 y257.length co21:Value).ownBlock∧some k_≠(.slice Ao25 t263.length co25:Value).ownBlock∧some k_≠(.slice Ao29 t269.length co29:Value).ownBlock)) (pR (Kd.R_mono HO253.out (fun _ hk=>⟨⟨hk.1.1.1,⟨hk.1.1.2,hk.2⟩⟩,hk.1.2⟩))) hg hat);replace HO259:=mA (Kd.R_after (ok:=(fun k_=>some k_≠(.slice Ao16 t251.length co16:Value).ownBlock∧some k_≠(.slice Ao25 t263.length co25:Value).ownBlock∧some k_≠(.slice Ao29 t269.length co29:Value).ownBlock)) (pR (Kd.R_mono HO259.out (fun _ hk=>⟨⟨hk.1.1.1,⟨hk.1.1.2,hk.2⟩⟩,hk.1.2⟩))) hg hat);replace HO265:=mA (Kd.R_after (ok:=(fun k_=>some k_≠(.slice Ao16 t251.length co16:Value).ownBlock∧some k_≠(.slice Ao21 y257.length co21:Value).ownBlock∧some k_≠(.slice Ao29 t269.length co29:Value).ownBlock)) (pR (Kd.R_mono HO265.out (fun _ hk=>⟨⟨hk.1.1.1,⟨hk.1.1.2,hk.2⟩⟩,hk.1.2⟩))) hg hat);replace HO271:=mA (Kd.R_after (ok:=(fun k_=>some k_≠(.slice Ao16 t251.length co16:Value).ownBlock∧some k_≠(.slice Ao21 y257.length co21:Value).ownBlock∧some k_≠(.slice Ao25 t263.length co25:Value).ownBlock)) (pR (Kd.R_mono HO271.out (fun _ hk=>⟨⟨hk.1.1.1.2,⟨hk.1.1.2,hk.1.2⟩⟩,hk.2⟩))) hg hat);have HO274:=mA ho;replace BK247:=mA (blk_grown (pK BK247.out) hg (rN HO268 BK247));replace HB:=mA hb;clear HO268;clear ho hb hg hat))
     go_ret
     exact ⟨_,by first|rfl|(simp [errW_none,errW_some]<;>rfl)|(simp [*,errW_none,errW_some]<;>rfl),pR (Kd.R_mono HO274.out (fun _ hk=>trivial)),pS HB.out⟩
    ·rw [if_neg c8] at H
     exact absurd H (by simp)
   ·rw [if_neg c6] at H
    exact absurd H (by simp)
  ·rw [if_neg c4] at H
   exact absurd H (by simp)
 ·rw [if_neg c3] at H
  exact absurd H (by simp)
/-! ### impl_isServer: function 98 -/
def impl_isServer.f (a0 : Int) : Option (Bool) := (impl_in.f a0 0 4).bind fun t275 => (some t275)
set_option maxHeartbeats 8000000 in
set_option maxRecDepth 100000 in
theorem impl_isServer.calls {a0 : Int} {r : Bool} {w : World} (h : impl_isServer.f a0 = some r) :
  Calls Try.prog 98 #[.int .i64 a0] w fun e w'=>e=.returned (.bool r)∧Drawn0 w w':=by
 have H:((impl_in.f a0 0 4).bind fun t275=>(some t275))=some r:=h;clear h;obtain ⟨t275,A2,H⟩:=bI H;(try dsimp only at H);obtain rfl:=Option.some.inj H
 go_enter Try.func98,Try.ntmps98
 go_wp2_with (first|((with_reducible refine gT 4 rfl ?_);refine gC (some 4) Try.func74 (impl_in.calls A2.out) ?_;rintro e w' ⟨rfl,⟨nd,rfl⟩⟩;refine ⟨_,rfl,?_⟩))
 go_ret
 exact ⟨by first|rfl|(simp;done)|(simp [*];done),by repeat (first|exact Drawn0.refl _|apply Drawn0.step)⟩
/-! ### impl_isClient: function 132 -/
def impl_isClient.f (a0 : Int) : Option (Bool) := (impl_in.f a0 0 3).bind fun t276 => (some t276)
set_option maxHeartbeats 8000000 in
set_option maxRecDepth 100000 in
theorem impl_isClient.calls {a0 : Int} {r : Bool} {w : World} (h : impl_isClient.f a0 = some r) :
  Calls Try.prog 132 #[.int .i64 a0] w fun e w'=>e=.returned (.bool r)∧Drawn0 w w':=by
 have H:((impl_in.f a0 0 3).bind fun t276=>(some t276))=some r:=h;clear h;obtain ⟨t276,A2,H⟩:=bI H;(try dsimp only at H);obtain rfl:=Option.some.inj H
 go_enter Try.func132,Try.ntmps132
 go_wp2_with (first|((with_reducible refine gT 4 rfl ?_);refine gC (some 4) Try.func74 (impl_in.calls A2.out) ?_;rintro e w' ⟨rfl,⟨nd,rfl⟩⟩;refine ⟨_,rfl,?_⟩))
 go_ret
 exact ⟨by first|rfl|(simp;done)|(simp [*];done),by repeat (first|exact Drawn0.refl _|apply Drawn0.step)⟩
/-! ### impl_isPlace: function 75 -/
def impl_isPlace.f (a0 : Int) : Option (Bool) := (impl_isServer.f a0).bind fun t277 => (if t277 = true then (some true) else ((impl_isClient.f (wrap64 (a0 - 100))).bind fun t278 => (some t278)))
set_option maxHeartbeats 8000000 in
set_option maxRecDepth 100000 in
theorem impl_isPlace.calls {a0 : Int} {r : Bool} {w : World} (h : impl_isPlace.f a0 = some r) :
  Calls Try.prog 75 #[.int .i64 a0] w fun e w'=>e=.returned (.bool r)∧Drawn0 w w':=by
 have H:((impl_isServer.f a0).bind fun t277=>(if t277=true then (some true) else ((impl_isClient.f (wrap64 (a0 - 100))).bind fun t278=>(some t278))))=some r:=h;clear h;obtain ⟨t277,A2,H⟩:=bI H;(try dsimp only at H)
 by_cases c3:t277=true
 ·subst c3;rw [if_pos rfl] at H;obtain rfl:=Option.some.inj H
  go_enter Try.func75,Try.ntmps75
  go_wp2_with (first|((with_reducible refine gT 4 rfl ?_);refine gC (some 4) Try.func98 (impl_isServer.calls A2.out) ?_;rintro e w' ⟨rfl,⟨nd,rfl⟩⟩;refine ⟨_,rfl,?_⟩))
  go_ret
  exact ⟨by first|rfl|(simp;done)|(simp [*];done),by repeat (first|exact Drawn0.refl _|apply Drawn0.step)⟩
 ·replace c3:=Bool.eq_false_iff.mpr c3;subst c3
  rw [if_neg nFT] at H
  obtain ⟨t278,A4,H⟩:=bI H;(try dsimp only at H);obtain rfl:=Option.some.inj H
  go_enter Try.func75,Try.ntmps75
  go_wp2_with (first|((with_reducible refine gT 4 rfl ?_);refine gC (some 4) Try.func98 (impl_isServer.calls A2.out) ?_;rintro e w' ⟨rfl,⟨nd,rfl⟩⟩;refine ⟨_,rfl,?_⟩)|(go_at_call 132;(with_reducible refine (impl_isClient.calls A4.out).mono ?_);rintro e w' ⟨rfl,⟨nd,rfl⟩⟩))
  go_ret
  exact ⟨by first|rfl|(simp;done)|(simp [*];done),by repeat (first|exact Drawn0.refl _|apply Drawn0.step)⟩
/-! ### impl_pieceWay: function 133 -/
def impl_pieceWay.l0 : Nat → List (S155) → Int → Int → Option (Int)
 | 0,_,_,_=>none
 | k+1,x22,x23,x24=>if x24<x23 then (if 0≤x24 then (if x24<(x22.length:Int) then (if ((rd_T155 x22 x24).f0)<((rd_T155 x22 x24).f1) then (some (-1)) else (if ((rd_T155 x22 x24).f0) > ((rd_T155 x22 x24).f1) then (some 1) else (impl_pieceWay.l0 k x22 x23 (wrap64 (x24+1))))) else (none)) else (none)) else (some 0)
def impl_pieceWay.f (k : Nat) (a0_0 a0_1 a0_2 a0_3 a1_0 a1_1 a1_2 a1_3 : Int) : Option (Int) := (some (([(⟨a0_0, a1_0⟩ : S155), (⟨a0_1, a1_1⟩ : S155), (⟨a0_2, a1_2⟩ : S155)] : List (S155)) : List (S155))).bind fun y281 => (impl_pieceWay.l0 k y281 (y281.length : Int) 0)
set_option maxHeartbeats 8000000 in
set_option maxRecDepth 100000 in
theorem impl_pieceWay.calls {k : Nat} {a0_0 a0_1 a0_2 a0_3 a1_0 a1_1 a1_2 a1_3 r : Int} {w : World} (h : impl_pieceWay.f k a0_0 a0_1 a0_2 a0_3 a1_0 a1_1 a1_2 a1_3 = some r) :
  Calls Try.prog 133 #[.agg #[.int .i64 a0_0,.int .i64 a0_1,.int .i64 a0_2,.int .i64 a0_3],.agg #[.int .i64 a1_0,.int .i64 a1_1,.int .i64 a1_2,.int .i64 a1_3]] w fun e w'=>e=.returned (.int .i64 r)∧Below w.heap.size w w':=by
 have hu138:=Try.underlying138;have hu155:=Try.underlying155;have HB:=mA (Below.refl w.heap.size w);have H:((some (([(⟨a0_0,a1_0⟩:S155),(⟨a0_1,a1_1⟩:S155),(⟨a0_2,a1_2⟩:S155)]:List (S155)):List (S155))).bind fun y281=>(impl_pieceWay.l0 k y281 (y281.length:Int) 0))=some r:=h;clear h;obtain ⟨y281,hy281⟩:∃ y_:List (S155),y_=(([(⟨a0_0,a1_0⟩:S155),(⟨a0_1,a1_1⟩:S155),(⟨a0_2,a1_2⟩:S155)]:List (S155))):=⟨_,rfl⟩
 replace H:(impl_pieceWay.l0 k y281 (y281.length:Int) 0)=some r:=qH hy281 H
 have Ny281:=mA hy281;clear hy281;have H':=mA H;clear H
 go_enter Try.func133,Try.ntmps133
 go_wp2_with (first|((with_reducible refine gT 2 rfl ?_);refine bX 2 ?_;intro gb279 hg w3 hbox hb;have BK279:=mA hbox;have GW279:=gbpB HB hg;have GE279:=gbpB HB hg;replace HB:=spB HB hb;clear hb hbox hg)|((with_reducible refine gT 3 rfl ?_);refine bX 3 ?_;intro gb280 hg w4 hbox hb;have BK280:=mA hbox;have GW280:=gbpS HB hg;have GE280:=gbpS HB hg;replace HB:=spS HB hb;have NB279_280:=mA (lN (blk_lt (pK BK279.out)) hg);have hN279_280:=NB279_280.out;have NB280_279:=nS NB279_280;have hN280_279:=NB280_279.out;replace BK279:=bK BK279 hb;clear hb hbox hg;obtain ⟨hcz6_0,hcz6_1,hcz6_2,hcz6_3,hfz6_0,hfz6_1,hfz6_2,hfz6_3⟩:=box4 BK279.out;obtain ⟨hcz7_0,hcz7_1,hcz7_2,hcz7_3,hfz7_0,hfz7_1,hfz7_2,hfz7_3⟩:=box4 BK280.out)|((with_reducible refine gT 22 rfl ?_);refine Kd.R_lit k155 _ 155 ?hg (N:=22) ?hd (xs:=([(⟨a0_0,a1_0⟩:S155),(⟨a0_1,a1_1⟩:S155),(⟨a0_2,a1_2⟩:S155)]:List (S155))) (inner:=[.int .i64 a0_0,.int .i64 a1_0,.int .i64 a0_1,.int .i64 a1_1,.int .i64 a0_2,.int .i64 a1_2]) (ok:=fun _=>True) (okp:=fun _=>True) ?hr ?hp (fun _ hk=>hk) trivial (Below.refl _ _) (Nat.le_refl _) (by simp) ?_;(case hd=>rfl);(case hg=>rfl);(case hr=>first|(go_simp;done)|(go_simp;rfl));(case hp=>exact (Reps.c2 (show Kd.M k155 _ _ _ (⟨a0_0,a1_0⟩:S155) [.int .i64 a0_0,.int .i64 a1_0] from (k155_mkM _ _ _ (⟨a0_0,a1_0⟩:S155) )) (Reps.c2 (show Kd.M k155 _ _ _ (⟨a0_1,a1_1⟩:S155) [.int .i64 a0_1,.int .i64 a1_1] from (k155_mkM _ _ _ (⟨a0_1,a1_1⟩:S155) )) (Reps.c2 (show Kd.M k155 _ _ _ (⟨a0_2,a1_2⟩:S155) [.int .i64 a0_2,.int .i64 a1_2] from (k155_mkM _ _ _ (⟨a0_2,a1_2⟩:S155) )) (Reps.none _ _)))));intro v282 w8 ho9 hb hg_ hnew_;clear hg_ hnew_;(first|rw [← Ny281.out] at ho9|(simp only [Int.reduceToNat] at ho9;rw [← Ny281.out] at ho9));have HO283:=mA (Kd.R_lower ho9 (bpS HB));replace BK279:=bK BK279 hb;replace BK280:=bK BK280 hb;replace HB:=spS HB hb;clear hb ho9;obtain ⟨Ao10,co10,rfl⟩:=Kd.R_slice HO283.out))
 go_loopg [24] k (fun kq v24 w'=>∃ (x24_1:Int),v24=.int .i64 x24_1∧Aside0 (impl_pieceWay.l0 kq y281 (y281.length:Int) x24_1=some r)∧Aside0 (kq≤k)∧Aside0 (Kd.R k155 155 w' w.heap.size (fun _=>True) (.slice Ao10 y281.length co10) y281)∧Aside0 (w'.heap[gb279]?=some (.cells #[.int .i64 a0_0,.int .i64 a0_1,.int .i64 a0_2,.int .i64 a0_3] 138 (0,0)))∧Aside0 (w'.heap[gb280]?=some (.cells #[.int .i64 a1_0,.int .i64 a1_1,.int .i64 a1_2,.int .i64 a1_3] 138 (0,0)))∧Aside0 (Below w.heap.size w w'))
 case atStart=>exact ⟨(0),bZ,H',⟨Nat.le_refl _⟩,⟨pR HO283.out⟩,⟨pK BK279.out⟩,⟨pK BK280.out⟩,⟨pS HB.out⟩⟩
 case round =>
  clear H'
  (try clear hcz6_0);(try clear hcz6_1);(try clear hcz6_2);(try clear hcz6_3);(try clear hcz7_0);(try clear hcz7_1);(try clear hcz7_2);(try clear hcz7_3);(try clear hfz6_0);(try clear hfz6_1);(try clear hfz6_2);(try clear hfz6_3);(try clear hfz7_0);(try clear hfz7_1);(try clear hfz7_2);(try clear hfz7_3)
  obtain ⟨x24_1,rfl,HA,HK1,HO_22,BK279,BK280,HB⟩:=hrel
  cases gk with
  | zero=>exact absurd HA.out (by simp [impl_pieceWay.l0])
  | succ k1 =>
   have H:=HA.out;clear HA;simp only [impl_pieceWay.l0] at H
   by_cases c11:x24_1<(y281.length:Int)
   ·rw [if_pos c11] at H;have c11b0:decide (x24_1<(y281.length:Int))=true:=decide_eq_true c11;clear c11
    by_cases c12:0≤x24_1
    ·rw [if_pos c12] at H;have c12b0:decide (0≤x24_1)=true:=decide_eq_true c12;clear c12
     by_cases c13:x24_1<(y281.length:Int)
     ·rw [if_pos c13] at H;have c13b0:decide (x24_1<(y281.length:Int))=true:=decide_eq_true c13;clear c13
      by_cases c14:((rd_T155 y281 x24_1).f0)<((rd_T155 y281 x24_1).f1)
      ·rw [if_pos c14] at H;have c14b0:decide (((rd_T155 y281 x24_1).f0)<((rd_T155 y281 x24_1).f1))=true:=decide_eq_true c14;clear c14;obtain rfl:=Option.some.inj H;have p284:0≤(x24_1:Int):=of_decide_eq_true bA;have q284:x24_1<(y281.length:Int):=of_decide_eq_true bA;obtain ⟨ad284,e284,hx284_0,hx284_1⟩:=at_T155 (Kd.R_reads' HO_22.out).2.2 x24_1 p284 q284;cases e284;replace p284:=eq_true p284;replace q284:=eq_true q284
       go_wp2_with (first|((with_reducible refine gT 6 rfl ?_);refine bE 6 #[.int .i64 0,.int .i64 0] 155 ?_;intro gb285 hg w15 hbox hb;replace HO_22:=mA (Kd.R_below (Kd.R_elderB (pR HO_22.out) gb285 (Nat.le_of_eq hg.symm)) hb);have BK285:=mA hbox;have GW285:=gbpS HB hg;have GE285:=gbpS HB hg;replace HB:=spS HB hb;have NB279_285:=mA (lN (blk_lt (pK BK279.out)) hg);have hN279_285:=NB279_285.out;have NB285_279:=nS NB279_285;have hN285_279:=NB285_279.out;replace BK279:=bK BK279 hb;have NB280_285:=mA (lN (blk_lt (pK BK280.out)) hg);have hN280_285:=NB280_285.out;have NB285_280:=nS NB280_285;have hN285_280:=NB285_280.out;replace BK280:=bK BK280 hb;clear hb hbox hg;obtain ⟨hcz18_0,hcz18_1,hfz18_0,hfz18_1⟩:=box2 BK285.out))
       go_ret
       exact rZ (pS HB.out)
      ·rw [if_neg c14] at H;have c14b0:decide (((rd_T155 y281 x24_1).f0)<((rd_T155 y281 x24_1).f1))=false:=decide_eq_false c14;clear c14
       by_cases c19:((rd_T155 y281 x24_1).f0) > ((rd_T155 y281 x24_1).f1)
       ·rw [if_pos c19] at H;have c19b0:decide (((rd_T155 y281 x24_1).f1)<((rd_T155 y281 x24_1).f0))=true:=decide_eq_true c19;clear c19;obtain rfl:=Option.some.inj H;have p284:0≤(x24_1:Int):=of_decide_eq_true bA;have q284:x24_1<(y281.length:Int):=of_decide_eq_true bA;obtain ⟨ad284,e284,hx284_0,hx284_1⟩:=at_T155 (Kd.R_reads' HO_22.out).2.2 x24_1 p284 q284;cases e284;replace p284:=eq_true p284;replace q284:=eq_true q284
        go_wp2_with (first|((with_reducible refine gT 6 rfl ?_);refine bE 6 #[.int .i64 0,.int .i64 0] 155 ?_;intro gb285 hg w20 hbox hb;replace HO_22:=mA (Kd.R_below (Kd.R_elderB (pR HO_22.out) gb285 (Nat.le_of_eq hg.symm)) hb);have BK285:=mA hbox;have GW285:=gbpS HB hg;have GE285:=gbpS HB hg;replace HB:=spS HB hb;have NB279_285:=mA (lN (blk_lt (pK BK279.out)) hg);have hN279_285:=NB279_285.out;have NB285_279:=nS NB279_285;have hN285_279:=NB285_279.out;replace BK279:=bK BK279 hb;have NB280_285:=mA (lN (blk_lt (pK BK280.out)) hg);have hN280_285:=NB280_285.out;have NB285_280:=nS NB280_285;have hN285_280:=NB285_280.out;replace BK280:=bK BK280 hb;clear hb hbox hg;obtain ⟨hcz23_0,hcz23_1,hfz23_0,hfz23_1⟩:=box2 BK285.out))
        go_ret
        exact rZ (pS HB.out)
       ·rw [if_neg c19] at H;have c19b0:decide (((rd_T155 y281 x24_1).f1)<((rd_T155 y281 x24_1).f0))=false:=decide_eq_false c19;clear c19;have H':=mA H;clear H;have p284:0≤(x24_1:Int):=of_decide_eq_true bA;have q284:x24_1<(y281.length:Int):=of_decide_eq_true bA;obtain ⟨ad284,e284,hx284_0,hx284_1⟩:=at_T155 (Kd.R_reads' HO_22.out).2.2 x24_1 p284 q284;cases e284;replace p284:=eq_true p284;replace q284:=eq_true q284
        go_wp2_with (first|((with_reducible refine gT 6 rfl ?_);refine bE 6 #[.int .i64 0,.int .i64 0] 155 ?_;intro gb285 hg w24 hbox hb;replace HO_22:=mA (Kd.R_below (Kd.R_elderB (pR HO_22.out) gb285 (Nat.le_of_eq hg.symm)) hb);have BK285:=mA hbox;have GW285:=gbpS HB hg;have GE285:=gbpS HB hg;replace HB:=spS HB hb;have NB279_285:=mA (lN (blk_lt (pK BK279.out)) hg);have hN279_285:=NB279_285.out;have NB285_279:=nS NB279_285;have hN285_279:=NB285_279.out;replace BK279:=bK BK279 hb;have NB280_285:=mA (lN (blk_lt (pK BK280.out)) hg);have hN280_285:=NB280_285.out;have NB285_280:=nS NB280_285;have hN285_280:=NB285_280.out;replace BK280:=bK BK280 hb;clear hb hbox hg;obtain ⟨hcz27_0,hcz27_1,hfz27_0,hfz27_1⟩:=box2 BK285.out))
        go_roundg k1
        case measure=>have:=HK1.out;omega
        case rel=>exact ⟨(wrap64 (x24_1+1)),bZ,H',⟨by have:=HK1.out;omega⟩,⟨pR (Kd.R_mono (Kd.R_far (p:=⟨gb285,1,none⟩) (Kd.R_far (p:=⟨gb285,0,none⟩) (Kd.R_mono HO_22.out (fun k_ hk=>(⟨hk,hk.2⟩:_∧k_≠gb285))) (fun _ hk=>hk.2) (.int .i64 ((rd_T155 y281 x24_1).f0))) (fun _ hk=>hk.2) (.int .i64 ((rd_T155 y281 x24_1).f1))) (fun _ hk=>trivial))⟩,⟨pF BK279.out⟩,⟨pF BK280.out⟩,⟨pS HB.out⟩⟩
     ·rw [if_neg c13] at H
      exact absurd H (by simp)
    ·rw [if_neg c12] at H
     exact absurd H (by simp)
   ·rw [if_neg c11] at H;have c11b0:decide (x24_1<(y281.length:Int))=false:=decide_eq_false c11;clear c11;obtain rfl:=Option.some.inj H
    go_wp2
    go_ret
    exact rZ (pS HB.out)
/-! ### impl_BlkOk: function 77 -/
mutual
def impl_BlkOk.l0 : Nat → List (S138) → List (S138) → Int → Int → Option (Bool)
 | 0,_,_,_,_=>none
 | k+1,x0,x5,x6,x7=>if x7<x6 then (impl_BlkOk.j1 k x0 x5 x6 x7) else (some (decide ((x0.length:Int)≤60)))
def impl_BlkOk.j1 : Nat → List (S138) → List (S138) → Int → Int → Option (Bool)
 | 0,_,_,_,_=>none
 | k+1,x0,x5,x6,x7=>if 0≤x7 then (if x7<(x5.length:Int) then ((impl_in.f ((rd_T138 x5 x7).f0) 1 99999).bind fun t288=>(if t288=true then ((impl_in.f ((rd_T138 x5 x7).f2) 1 99999).bind fun t289=>(if t289=true then ((impl_in.f ((rd_T138 x5 x7).f1) 0 99999).bind fun t290=>(if t290=true then ((impl_in.f ((rd_T138 x5 x7).f3) 0 99999).bind fun t291=>(if t291=true then (if x7 > 0 then (if 0≤(wrap64 (x7 - 1)) then (if (wrap64 (x7 - 1))<(x0.length:Int) then ((impl_pieceWay.f k ((rd_T138 x0 (wrap64 (x7 - 1))).f0) ((rd_T138 x0 (wrap64 (x7 - 1))).f1) ((rd_T138 x0 (wrap64 (x7 - 1))).f2) ((rd_T138 x0 (wrap64 (x7 - 1))).f3) ((rd_T138 x5 x7).f0) ((rd_T138 x5 x7).f1) ((rd_T138 x5 x7).f2) ((rd_T138 x5 x7).f3)).bind fun t293=>(impl_BlkOk.j2 k x0 x5 x6 x7 (decide (t293 ≥ 0)))) else (none)) else (none)) else (impl_BlkOk.j2 k x0 x5 x6 x7 false)) else (impl_BlkOk.j2 k x0 x5 x6 x7 true))) else (impl_BlkOk.j2 k x0 x5 x6 x7 true))) else (impl_BlkOk.j2 k x0 x5 x6 x7 true))) else (impl_BlkOk.j2 k x0 x5 x6 x7 true))) else (none)) else (none)
def impl_BlkOk.j2 : Nat → List (S138) → List (S138) → Int → Int → Bool → Option (Bool)
 | 0,_,_,_,_,_=>none
 | k+1,x0,x5,x6,x7,x47=>if x47=true then (some false) else (impl_BlkOk.l0 k x0 x5 x6 (wrap64 (x7+1)))
end
def impl_BlkOk.f (k : Nat) (l0 : List (S138)) : Option (Bool) := impl_BlkOk.l0 k l0 l0 (l0.length : Int) 0
def impl_BlkOk.T4 : Bool × List (List Nat × List Nat) := (true, [([], []), ([0], [0]), ([1], [1]), ([2], [2]), ([3, 2], [3]), ([4], [4]), ([5, 4], [4, 5]), ([6, 4, 4], [4, 6]), ([7, 4], [4, 7]), ([4, 8], [4, 8]), ([9, 7], [9]), ([10], [10]), ([11, 10], [10, 11]), ([12, 10, 10], [10, 12]), ([13, 10], [10, 13]), ([10, 14], [10, 14]), ([15, 13], [15]), ([16], [16]), ([17, 16], [16, 17]), ([18, 16, 16], [16, 18]), ([19, 16], [16, 19]), ([16, 20], [16, 20]), ([21, 19], [21]), ([22], [22]), ([23, 22], [22, 23]), ([24, 22, 22], [22, 24]), ([25], [25]), ([25], [25]), ([27, 25], [25, 27]), ([26, 28, 25], [25, 26, 28]), ([29, 25], [25, 29]), ([25], [25]), ([30, 31, 25, 25], [25, 30, 31]), ([32, 25], [25, 32]), ([25, 33, 22], [22, 25, 33]), ([22, 34], [22, 34])])
def impl_BlkOk.B4 : List Nat := [0, 1, 3, 7, 15, 31, 63, 127, 255, 511, 1023, 2047, 4095, 8191, 16383, 32767, 65535, 131071, 262143, 524287, 1048575, 2097151, 4194303, 8388607, 16777215, 33554431, 67108863, 67108863, 201326591, 536870911, 1073741823, 67108863, 4294967295, 8589934591, 17179869183, 34359738367]
theorem impl_BlkOk.tab4 : rtab .any (opsOf Try.f77 4) = impl_BlkOk.T4 := by kernel_rfl
theorem impl_BlkOk.bits4 : waitsOk impl_BlkOk.T4.2 impl_BlkOk.B4 = true := by kernel_rfl
set_option maxHeartbeats 8000000 in
set_option maxRecDepth 100000 in
theorem impl_BlkOk.calls {k : Nat} {A0 : Option Addr} {c0 : Nat} {l0 : List (S138)} {r : Bool} {w : World} (hr0 : Kd.C k138 w A0 l0.length l0) (hc0 : l0.length ≤ c0) (h : impl_BlkOk.f k l0 = some r) :
  Calls Try.prog 77 #[.slice A0 l0.length c0] w fun e w'=>e=.returned (.bool r)∧Below w.heap.size w w':=by
 have hu138:=Try.underlying138;have HR0:=mA hr0;have HC0:=mA hc0;clear hr0 hc0;have HB:=mA (Below.refl w.heap.size w);have H:(impl_BlkOk.l0 k l0 l0 (l0.length:Int) 0)=some r:=h;clear h;have H':=mA H;clear H
 go_enter Try.func77,Try.ntmps77
 go_wp2
 go_loopg [7] k (fun kq v7 w'=>∃ (x7_1:Int),v7=.int .i64 x7_1∧Aside0 (impl_BlkOk.l0 kq l0 l0 (l0.length:Int) x7_1=some r)∧Aside0 (kq≤k)∧Aside0 (Below w.heap.size w w'))
 case atStart=>exact ⟨(0),bZ,H',⟨Nat.le_refl _⟩,⟨pB HB.out⟩⟩
 case round =>
  clear H';obtain ⟨x7_1,rfl,HA,HK1,HB⟩:=hrel
  cases gk with
  | zero=>exact absurd HA.out (by simp [impl_BlkOk.l0])
  | succ k1 =>
   have H:=HA.out;clear HA;simp only [impl_BlkOk.l0] at H;have HC2:=mA H;clear H
   go_upto_if 8 with (fail)
   go_cut [] (fun wc=>∃ (kq:Nat),Aside0 (impl_BlkOk.j1 kq l0 l0 (l0.length:Int) x7_1=some r)∧Aside0 (kq≤k1)∧Aside0 (Below w.heap.size w wc))
   case first =>
    have H:=HC2.out;clear HC2
    by_cases c3:x7_1<(l0.length:Int)
    ·rw [if_pos c3] at H;have c3b0:decide (x7_1<(l0.length:Int))=true:=decide_eq_true c3;clear c3
     (first|rw [c3b0]|(simp only [i64_w,i32_w];rw [c3b0])|skip)
     have H':=mA H;clear H
     go_wp2
     go_meet
     case rel=>exact ⟨_,H',⟨by have:=HK1.out;first|omega|exact Nat.le_refl _⟩,⟨pB HB.out⟩⟩
    ·rw [if_neg c3] at H;have c3b0:decide (x7_1<(l0.length:Int))=false:=decide_eq_false c3;clear c3
     (first|rw [c3b0]|(simp only [i64_w,i32_w];rw [c3b0])|skip)
     obtain rfl:=Option.some.inj H
     go_wp2
     go_ret
     exact rZ (pB HB.out)
   case rest =>
    clear HC2
    obtain ⟨kq,HA,HJ1,HB⟩:=hcut
    cases kq with
    | zero=>exact absurd HA.out (by simp [impl_BlkOk.j1])
    | succ kj1 =>
     have H:=HA.out;clear HA;simp only [impl_BlkOk.j1] at H
     by_cases c4:0≤x7_1
     ·rw [if_pos c4] at H;have c4b0:decide (0≤x7_1)=true:=decide_eq_true c4;clear c4
      by_cases c5:x7_1<(l0.length:Int)
      ·rw [if_pos c5] at H;have c5b0:decide (x7_1<(l0.length:Int))=true:=decide_eq_true c5;clear c5;have HC6:=mA H;clear H;have p286:0≤(x7_1:Int):=of_decide_eq_true bA;have q286:x7_1<(l0.length:Int):=of_decide_eq_true bA;obtain ⟨ad286,e286,hx286_0,hx286_1,hx286_2,hx286_3⟩:=at_T138 HR0.out x7_1 p286 q286;cases e286;replace hx286_0:=hC HB hx286_0;replace hx286_1:=hC HB hx286_1;replace hx286_2:=hC HB hx286_2;replace hx286_3:=hC HB hx286_3;replace p286:=eq_true p286;replace q286:=eq_true q286
       go_upto_region 4 with (first|((with_reducible refine gT 4 rfl ?_);refine bJ 4 y138 ?_;intro gb287 hg w7 hbox hb;have BK287:=mA hbox;have GW287:=gbpB HB hg;have GE287:=gbpB HB hg;replace HB:=spB HB hb;clear hb hbox hg;obtain ⟨hcz8_0,hcz8_1,hcz8_2,hcz8_3,hfz8_0,hfz8_1,hfz8_2,hfz8_3⟩:=box4 BK287.out))
       (try simp only [Act.put,List.setIfInBounds_toArray,List.set_cons_zero,List.set_cons_succ])
       go_cut [47] (fun v47 wc=>∃ (kq:Nat) (x47_5:Bool),v47=.bool x47_5∧Aside0 (impl_BlkOk.j2 kq l0 l0 (l0.length:Int) x7_1 x47_5=some r)∧Aside0 (kq≤kj1)∧Aside0 (wc.heap[gb287]?=some (.cells #[.int .i64 ((rd_T138 l0 x7_1).f0),.int .i64 ((rd_T138 l0 x7_1).f1),.int .i64 ((rd_T138 l0 x7_1).f2),.int .i64 ((rd_T138 l0 x7_1).f3)] 138 (0,0)))∧Aside0 (Below w.heap.size w wc))
       case first =>
        have H:=HC6.out;clear HC6;obtain ⟨t288,A9,H⟩:=bI H;(try dsimp only at H)
        by_cases c10:t288=true
        ·subst c10;rw [if_pos rfl] at H;obtain ⟨t289,A11,H⟩:=bI H;(try dsimp only at H)
         by_cases c12:t289=true
         ·subst c12;rw [if_pos rfl] at H;obtain ⟨t290,A13,H⟩:=bI H;(try dsimp only at H)
          by_cases c14:t290=true
          ·subst c14;rw [if_pos rfl] at H;obtain ⟨t291,A15,H⟩:=bI H;(try dsimp only at H)
           by_cases c16:t291=true
           ·subst c16;rw [if_pos rfl] at H
            by_cases c17:x7_1 > 0
            ·rw [if_pos c17] at H;have c17b0:decide (0<x7_1)=true:=decide_eq_true c17;clear c17
             (first|rw [c17b0]|(simp only [i64_w,i32_w];rw [c17b0])|skip)
             obtain ⟨ji18,hji18⟩:∃ j_:Int,(wrap64 (x7_1 - 1))=j_:=⟨_,rfl⟩
             replace H:(if 0≤(ji18) then (if (ji18)<(l0.length:Int) then ((impl_pieceWay.f kj1 ((rd_T138 l0 (ji18)).f0) ((rd_T138 l0 (ji18)).f1) ((rd_T138 l0 (ji18)).f2) ((rd_T138 l0 (ji18)).f3) ((rd_T138 l0 x7_1).f0) ((rd_T138 l0 x7_1).f1) ((rd_T138 l0 x7_1).f2) ((rd_T138 l0 x7_1).f3)).bind fun t293=>(impl_BlkOk.j2 kj1 l0 l0 (l0.length:Int) x7_1 (decide (t293 ≥ 0)))) else (none)) else (none))=some r:=by first|(rw [hji18] at H;exact H)|(simp only [hji18] at H ⊢;exact H)
             (try rw [hji18] at A9)
             (try rw [hji18] at A11)
             (try rw [hji18] at A13)
             (try rw [hji18] at A15)
             have hji18w:(IntKind.i64.wrap (x7_1 - 1))=ji18:=(i64_w _).trans hji18
             by_cases c19:0≤(ji18)
             ·rw [if_pos c19] at H;have c19b0:decide (0≤(ji18))=true:=decide_eq_true c19;clear c19
              by_cases c20:(ji18)<(l0.length:Int)
              ·rw [if_pos c20] at H;have c20b0:decide ((ji18)<(l0.length:Int))=true:=decide_eq_true c20;clear c20;obtain ⟨t293,A21,H⟩:=bI H;(try dsimp only at H);have H':=mA H;clear H
               try go_wp2
               generalize hW_:((((w7.setCell ⟨gb287,0,none⟩ (.int .i64 ((rd_T138 l0 x7_1).f0))).setCell ⟨gb287,1,none⟩ (.int .i64 ((rd_T138 l0 x7_1).f1))).setCell ⟨gb287,2,none⟩ (.int .i64 ((rd_T138 l0 x7_1).f2))).setCell ⟨gb287,3,none⟩ (.int .i64 ((rd_T138 l0 x7_1).f3)))=w22
               have n0_:Aside0 (w22.heap[gb287]?=some (.cells #[.int .i64 ((rd_T138 l0 x7_1).f0),.int .i64 ((rd_T138 l0 x7_1).f1),.int .i64 ((rd_T138 l0 x7_1).f2),.int .i64 ((rd_T138 l0 x7_1).f3)] 138 (0,0))):=⟨by rw [← hW_];exact pP BK287⟩;have n1_:Aside0 (Below w.heap.size w w22):=⟨by rw [← hW_];exact pS HB.out⟩
               (try clear BK287);(try clear HB);clear hW_
               have BK287:=n0_;have HB:=n1_;clear n0_ n1_;replace BK287:=mA (blk_drew BK287.out);replace HB:=mA (below_drew1 HB.out);have p292:0≤((ji18):Int):=of_decide_eq_true bA;have q292:(ji18)<(l0.length:Int):=of_decide_eq_true bA;obtain ⟨ad292,e292,hs292⟩:=at_R138 HR0.out (ji18) p292 q292
               obtain rfl:ad286=ad292:=(by injection e292)
               replace p292:=eq_true p292;replace q292:=eq_true q292
               refine start_ (n:=36) (S:=fun w'=>w'.heap[gb287]?=some (.cells #[.int .i64 ((rd_T138 l0 x7_1).f0),.int .i64 ((rd_T138 l0 x7_1).f1),.int .i64 ((rd_T138 l0 x7_1).f2),.int .i64 ((rd_T138 l0 x7_1).f3)] 138 (0,0))∧RS w' (ad286.add (((ji18)).toNat * 4)) (d138 (rd_T138 l0 (ji18)))) (ds:=[]) _ aK rfl rfl ⟨BK287.out,rS HB hs292⟩ (fun hHeld=>?_);refine with_tabW impl_BlkOk.tab4 impl_BlkOk.bits4 (fun HT_ HW_=>?_)
               generalize w22.drew=w23 at BK287 HB hHeld ⊢
               refine qu 0 ?_;refine qt 1 ?_
               refine qo 2 ?_;intro K hK
               refine gD Try.func74 (impl_in.calls A9.out) ?_
               rintro e w' ⟨rfl,⟨nd,rfl⟩⟩;refine ⟨_,rfl,?_⟩;refine hK.out _ _ ⟨BK287.out,rS HB hs292⟩ (fun hHeld=>?_);clear hK K;refine no_ (some 14) ?_;refine qu 3 ?_;refine qu 4 ?_;refine qu 5 ?_;refine qt 6 ?_
               refine qo 7 ?_;intro K hK
               refine gD Try.func74 (impl_in.calls A11.out) ?_
               rintro e w' ⟨rfl,⟨nd,rfl⟩⟩;refine ⟨_,rfl,?_⟩;refine hK.out _ _ ⟨BK287.out,rS HB hs292⟩ (fun hHeld=>?_);clear hK K;refine no_ (some 19) ?_;refine qu 8 ?_;refine qu 9 ?_;refine qu 10 ?_;refine qu 11 ?_;refine qt 12 ?_
               refine qo 13 ?_;intro K hK
               refine gD Try.func74 (impl_in.calls A13.out) ?_
               rintro e w' ⟨rfl,⟨nd,rfl⟩⟩;refine ⟨_,rfl,?_⟩;refine hK.out _ _ ⟨BK287.out,rS HB hs292⟩ (fun hHeld=>?_);clear hK K;refine no_ (some 25) ?_;refine qu 14 ?_;refine qu 15 ?_;refine qu 16 ?_;refine qu 17 ?_;refine qt 18 ?_
               refine qo 19 ?_;intro K hK
               refine gD Try.func74 (impl_in.calls A15.out) ?_
               rintro e w' ⟨rfl,⟨nd,rfl⟩⟩;refine ⟨_,rfl,?_⟩;refine hK.out _ _ ⟨BK287.out,rS HB hs292⟩ (fun hHeld=>?_);clear hK K;refine no_ (some 31) ?_;refine qu 20 ?_;refine qu 21 ?_;refine qu 22 ?_;refine qu 23 ?_;refine qu 24 ?_;refine qu 25 ?_;refine qu 26 ?_;refine qu 27 ?_;refine qu 28 ?_;refine qu 29 ?_;refine qt 30 ?_;refine qt 31 ?_
               refine qo 32 ?_;intro K hK
               refine goes_ Try.func133 aK rfl #[.agg #[.int .i64 ((rd_T138 l0 (ji18)).f0),.int .i64 ((rd_T138 l0 (ji18)).f1),.int .i64 ((rd_T138 l0 (ji18)).f2),.int .i64 ((rd_T138 l0 (ji18)).f3)],.agg #[.int .i64 ((rd_T138 l0 x7_1).f0),.int .i64 ((rd_T138 l0 x7_1).f1),.int .i64 ((rd_T138 l0 x7_1).f2),.int .i64 ((rd_T138 l0 x7_1).f3)]] (by rfl) rfl rfl (by (try simp only [List.map_toArray,List.map_cons,List.map_nil]);first|done|(simp only [hji18];rfl)|rfl|(simp only [List.length_drop,List.length_take];rfl)) ?_
               with_reducible refine (impl_pieceWay.calls A21.out).mono ?_
               rintro e w24 ⟨rfl,hb⟩;refine ⟨_,rfl,?_⟩;replace BK287:=bK BK287 hb;replace HB:=spS HB hb
               (try clear hb)
               refine hK.out _ _ ⟨BK287.out,rS HB hs292⟩ (fun hHeld=>?_);clear hK K;refine no_ (some 44) ?_;refine qu 33 ?_;refine qu 34 ?_;refine qu 35 ?_;refine qe ?_
               try go_wp2
               go_meet
               case rel=>exact ⟨_,(decide (t293 ≥ 0)),bZ,H',⟨by have:=HK1.out;have:=HJ1.out;first|omega|exact Nat.le_refl _⟩,⟨pK BK287.out⟩,⟨pS HB.out⟩⟩
              ·rw [if_neg c20] at H
               exact absurd H (by simp)
             ·rw [if_neg c19] at H
              exact absurd H (by simp)
            ·rw [if_neg c17] at H;have c17b0:decide (0<x7_1)=false:=decide_eq_false c17;clear c17
             (first|rw [c17b0]|(simp only [i64_w,i32_w];rw [c17b0])|skip)
             have H':=mA H;clear H
             try go_wp2
             generalize hW_:((((w7.setCell ⟨gb287,0,none⟩ (.int .i64 ((rd_T138 l0 x7_1).f0))).setCell ⟨gb287,1,none⟩ (.int .i64 ((rd_T138 l0 x7_1).f1))).setCell ⟨gb287,2,none⟩ (.int .i64 ((rd_T138 l0 x7_1).f2))).setCell ⟨gb287,3,none⟩ (.int .i64 ((rd_T138 l0 x7_1).f3)))=w25
             have n0_:Aside0 (w25.heap[gb287]?=some (.cells #[.int .i64 ((rd_T138 l0 x7_1).f0),.int .i64 ((rd_T138 l0 x7_1).f1),.int .i64 ((rd_T138 l0 x7_1).f2),.int .i64 ((rd_T138 l0 x7_1).f3)] 138 (0,0))):=⟨by rw [← hW_];exact pP BK287⟩;have n1_:Aside0 (Below w.heap.size w w25):=⟨by rw [← hW_];exact pS HB.out⟩
             (try clear BK287);(try clear HB);clear hW_
             have BK287:=n0_;have HB:=n1_;clear n0_ n1_;replace BK287:=mA (blk_drew BK287.out);replace HB:=mA (below_drew1 HB.out)
             refine start_ (n:=36) (S:=fun w'=>w'.heap[gb287]?=some (.cells #[.int .i64 ((rd_T138 l0 x7_1).f0),.int .i64 ((rd_T138 l0 x7_1).f1),.int .i64 ((rd_T138 l0 x7_1).f2),.int .i64 ((rd_T138 l0 x7_1).f3)] 138 (0,0))) (ds:=[]) _ aK rfl rfl BK287.out (fun hHeld=>?_);refine with_tabW impl_BlkOk.tab4 impl_BlkOk.bits4 (fun HT_ HW_=>?_)
             generalize w25.drew=w26 at BK287 HB hHeld ⊢
             refine qu 0 ?_;refine qt 1 ?_
             refine qo 2 ?_;intro K hK
             refine gD Try.func74 (impl_in.calls A9.out) ?_
             rintro e w' ⟨rfl,⟨nd,rfl⟩⟩;refine ⟨_,rfl,?_⟩;refine hK.out _ _ BK287.out (fun hHeld=>?_);clear hK K;refine no_ (some 14) ?_;refine qu 3 ?_;refine qu 4 ?_;refine qu 5 ?_;refine qt 6 ?_
             refine qo 7 ?_;intro K hK
             refine gD Try.func74 (impl_in.calls A11.out) ?_
             rintro e w' ⟨rfl,⟨nd,rfl⟩⟩;refine ⟨_,rfl,?_⟩;refine hK.out _ _ BK287.out (fun hHeld=>?_);clear hK K;refine no_ (some 19) ?_;refine qu 8 ?_;refine qu 9 ?_;refine qu 10 ?_;refine qu 11 ?_;refine qt 12 ?_
             refine qo 13 ?_;intro K hK
             refine gD Try.func74 (impl_in.calls A13.out) ?_
             rintro e w' ⟨rfl,⟨nd,rfl⟩⟩;refine ⟨_,rfl,?_⟩;refine hK.out _ _ BK287.out (fun hHeld=>?_);clear hK K;refine no_ (some 25) ?_;refine qu 14 ?_;refine qu 15 ?_;refine qu 16 ?_;refine qu 17 ?_;refine qt 18 ?_
             refine qo 19 ?_;intro K hK
             refine gD Try.func74 (impl_in.calls A15.out) ?_
             rintro e w' ⟨rfl,⟨nd,rfl⟩⟩;refine ⟨_,rfl,?_⟩;refine hK.out _ _ BK287.out (fun hHeld=>?_);clear hK K;refine no_ (some 31) ?_;refine qu 20 ?_;refine qu 21 ?_;refine qu 22 ?_;refine qu 23 ?_;refine qu 24 ?_;refine qu 25 ?_;refine qd 26 ?_;refine qd 27 ?_;refine qd 28 ?_;refine qd 29 ?_;refine qd 30 ?_;refine qd 31 ?_;refine qd 32 ?_;refine qd 33 ?_;refine qu 34 ?_;refine qu 35 ?_;refine qe ?_
             try go_wp2
             go_meet
             case rel=>exact ⟨_,(false),bZ,H',⟨by have:=HK1.out;have:=HJ1.out;first|omega|exact Nat.le_refl _⟩,⟨pK BK287.out⟩,⟨pS HB.out⟩⟩
           ·replace c16:=Bool.eq_false_iff.mpr c16;subst c16
            rw [if_neg nFT] at H
            have H':=mA H;clear H
            try go_wp2
            generalize hW_:((((w7.setCell ⟨gb287,0,none⟩ (.int .i64 ((rd_T138 l0 x7_1).f0))).setCell ⟨gb287,1,none⟩ (.int .i64 ((rd_T138 l0 x7_1).f1))).setCell ⟨gb287,2,none⟩ (.int .i64 ((rd_T138 l0 x7_1).f2))).setCell ⟨gb287,3,none⟩ (.int .i64 ((rd_T138 l0 x7_1).f3)))=w27
            have n0_:Aside0 (w27.heap[gb287]?=some (.cells #[.int .i64 ((rd_T138 l0 x7_1).f0),.int .i64 ((rd_T138 l0 x7_1).f1),.int .i64 ((rd_T138 l0 x7_1).f2),.int .i64 ((rd_T138 l0 x7_1).f3)] 138 (0,0))):=⟨by rw [← hW_];exact pP BK287⟩;have n1_:Aside0 (Below w.heap.size w w27):=⟨by rw [← hW_];exact pS HB.out⟩
            (try clear BK287);(try clear HB);clear hW_
            have BK287:=n0_;have HB:=n1_;clear n0_ n1_;replace BK287:=mA (blk_drew BK287.out);replace HB:=mA (below_drew1 HB.out)
            refine start_ (n:=36) (S:=fun w'=>w'.heap[gb287]?=some (.cells #[.int .i64 ((rd_T138 l0 x7_1).f0),.int .i64 ((rd_T138 l0 x7_1).f1),.int .i64 ((rd_T138 l0 x7_1).f2),.int .i64 ((rd_T138 l0 x7_1).f3)] 138 (0,0))) (ds:=[]) _ aK rfl rfl BK287.out (fun hHeld=>?_);refine with_tabW impl_BlkOk.tab4 impl_BlkOk.bits4 (fun HT_ HW_=>?_)
            generalize w27.drew=w28 at BK287 HB hHeld ⊢
            refine qu 0 ?_;refine qt 1 ?_
            refine qo 2 ?_;intro K hK
            refine gD Try.func74 (impl_in.calls A9.out) ?_
            rintro e w' ⟨rfl,⟨nd,rfl⟩⟩;refine ⟨_,rfl,?_⟩;refine hK.out _ _ BK287.out (fun hHeld=>?_);clear hK K;refine no_ (some 14) ?_;refine qu 3 ?_;refine qu 4 ?_;refine qu 5 ?_;refine qt 6 ?_
            refine qo 7 ?_;intro K hK
            refine gD Try.func74 (impl_in.calls A11.out) ?_
            rintro e w' ⟨rfl,⟨nd,rfl⟩⟩;refine ⟨_,rfl,?_⟩;refine hK.out _ _ BK287.out (fun hHeld=>?_);clear hK K;refine no_ (some 19) ?_;refine qu 8 ?_;refine qu 9 ?_;refine qu 10 ?_;refine qu 11 ?_;refine qt 12 ?_
            refine qo 13 ?_;intro K hK
            refine gD Try.func74 (impl_in.calls A13.out) ?_
            rintro e w' ⟨rfl,⟨nd,rfl⟩⟩;refine ⟨_,rfl,?_⟩;refine hK.out _ _ BK287.out (fun hHeld=>?_);clear hK K;refine no_ (some 25) ?_;refine qu 14 ?_;refine qu 15 ?_;refine qu 16 ?_;refine qu 17 ?_;refine qt 18 ?_
            refine qo 19 ?_;intro K hK
            refine gD Try.func74 (impl_in.calls A15.out) ?_
            rintro e w' ⟨rfl,⟨nd,rfl⟩⟩;refine ⟨_,rfl,?_⟩;refine hK.out _ _ BK287.out (fun hHeld=>?_);clear hK K;refine no_ (some 31) ?_;refine qu 20 ?_;refine qu 21 ?_;refine qu 22 ?_;refine qd 23 ?_;refine qd 24 ?_;refine qd 25 ?_;refine qd 26 ?_;refine qd 27 ?_;refine qd 28 ?_;refine qd 29 ?_;refine qd 30 ?_;refine qd 31 ?_;refine qd 32 ?_;refine qd 33 ?_;refine qd 34 ?_;refine qu 35 ?_;refine qe ?_
            try go_wp2
            go_meet
            case rel=>exact ⟨_,(true),bZ,H',⟨by have:=HK1.out;have:=HJ1.out;first|omega|exact Nat.le_refl _⟩,⟨pK BK287.out⟩,⟨pS HB.out⟩⟩
          ·replace c14:=Bool.eq_false_iff.mpr c14;subst c14
           rw [if_neg nFT] at H
           have H':=mA H;clear H
           try go_wp2
           generalize hW_:((((w7.setCell ⟨gb287,0,none⟩ (.int .i64 ((rd_T138 l0 x7_1).f0))).setCell ⟨gb287,1,none⟩ (.int .i64 ((rd_T138 l0 x7_1).f1))).setCell ⟨gb287,2,none⟩ (.int .i64 ((rd_T138 l0 x7_1).f2))).setCell ⟨gb287,3,none⟩ (.int .i64 ((rd_T138 l0 x7_1).f3)))=w29
           have n0_:Aside0 (w29.heap[gb287]?=some (.cells #[.int .i64 ((rd_T138 l0 x7_1).f0),.int .i64 ((rd_T138 l0 x7_1).f1),.int .i64 ((rd_T138 l0 x7_1).f2),.int .i64 ((rd_T138 l0 x7_1).f3)] 138 (0,0))):=⟨by rw [← hW_];exact pP BK287⟩;have n1_:Aside0 (Below w.heap.size w w29):=⟨by rw [← hW_];exact pS HB.out⟩
           (try clear BK287);(try clear HB);clear hW_
           have BK287:=n0_;have HB:=n1_;clear n0_ n1_;replace BK287:=mA (blk_drew BK287.out);replace HB:=mA (below_drew1 HB.out)
           refine start_ (n:=36) (S:=fun w'=>w'.heap[gb287]?=some (.cells #[.int .i64 ((rd_T138 l0 x7_1).f0),.int .i64 ((rd_T138 l0 x7_1).f1),.int .i64 ((rd_T138 l0 x7_1).f2),.int .i64 ((rd_T138 l0 x7_1).f3)] 138 (0,0))) (ds:=[]) _ aK rfl rfl BK287.out (fun hHeld=>?_);refine with_tabW impl_BlkOk.tab4 impl_BlkOk.bits4 (fun HT_ HW_=>?_)
           generalize w29.drew=w30 at BK287 HB hHeld ⊢
           refine qu 0 ?_;refine qt 1 ?_
           refine qo 2 ?_;intro K hK
           refine gD Try.func74 (impl_in.calls A9.out) ?_
           rintro e w' ⟨rfl,⟨nd,rfl⟩⟩;refine ⟨_,rfl,?_⟩;refine hK.out _ _ BK287.out (fun hHeld=>?_);clear hK K;refine no_ (some 14) ?_;refine qu 3 ?_;refine qu 4 ?_;refine qu 5 ?_;refine qt 6 ?_
           refine qo 7 ?_;intro K hK
           refine gD Try.func74 (impl_in.calls A11.out) ?_
           rintro e w' ⟨rfl,⟨nd,rfl⟩⟩;refine ⟨_,rfl,?_⟩;refine hK.out _ _ BK287.out (fun hHeld=>?_);clear hK K;refine no_ (some 19) ?_;refine qu 8 ?_;refine qu 9 ?_;refine qu 10 ?_;refine qu 11 ?_;refine qt 12 ?_
           refine qo 13 ?_;intro K hK
           refine gD Try.func74 (impl_in.calls A13.out) ?_
           rintro e w' ⟨rfl,⟨nd,rfl⟩⟩;refine ⟨_,rfl,?_⟩;refine hK.out _ _ BK287.out (fun hHeld=>?_);clear hK K;refine no_ (some 25) ?_;refine qu 14 ?_;refine qu 15 ?_;refine qu 16 ?_;refine qd 17 ?_;refine qd 18 ?_;refine qd 19 ?_;refine qd 20 ?_;refine qu 21 ?_;refine qu 22 ?_;refine qd 23 ?_;refine qd 24 ?_;refine qd 25 ?_;refine qd 26 ?_;refine qd 27 ?_;refine qd 28 ?_;refine qd 29 ?_;refine qd 30 ?_;refine qd 31 ?_;refine qd 32 ?_;refine qd 33 ?_;refine qd 34 ?_;refine qu 35 ?_;refine qe ?_
           try go_wp2
           go_meet
           case rel=>exact ⟨_,(true),bZ,H',⟨by have:=HK1.out;have:=HJ1.out;first|omega|exact Nat.le_refl _⟩,⟨pK BK287.out⟩,⟨pS HB.out⟩⟩
         ·replace c12:=Bool.eq_false_iff.mpr c12;subst c12
          rw [if_neg nFT] at H
          have H':=mA H;clear H
          try go_wp2
          generalize hW_:((((w7.setCell ⟨gb287,0,none⟩ (.int .i64 ((rd_T138 l0 x7_1).f0))).setCell ⟨gb287,1,none⟩ (.int .i64 ((rd_T138 l0 x7_1).f1))).setCell ⟨gb287,2,none⟩ (.int .i64 ((rd_T138 l0 x7_1).f2))).setCell ⟨gb287,3,none⟩ (.int .i64 ((rd_T138 l0 x7_1).f3)))=w31
          have n0_:Aside0 (w31.heap[gb287]?=some (.cells #[.int .i64 ((rd_T138 l0 x7_1).f0),.int .i64 ((rd_T138 l0 x7_1).f1),.int .i64 ((rd_T138 l0 x7_1).f2),.int .i64 ((rd_T138 l0 x7_1).f3)] 138 (0,0))):=⟨by rw [← hW_];exact pP BK287⟩;have n1_:Aside0 (Below w.heap.size w w31):=⟨by rw [← hW_];exact pS HB.out⟩
          (try clear BK287);(try clear HB);clear hW_
          have BK287:=n0_;have HB:=n1_;clear n0_ n1_;replace BK287:=mA (blk_drew BK287.out);replace HB:=mA (below_drew1 HB.out)
          refine start_ (n:=36) (S:=fun w'=>w'.heap[gb287]?=some (.cells #[.int .i64 ((rd_T138 l0 x7_1).f0),.int .i64 ((rd_T138 l0 x7_1).f1),.int .i64 ((rd_T138 l0 x7_1).f2),.int .i64 ((rd_T138 l0 x7_1).f3)] 138 (0,0))) (ds:=[]) _ aK rfl rfl BK287.out (fun hHeld=>?_);refine with_tabW impl_BlkOk.tab4 impl_BlkOk.bits4 (fun HT_ HW_=>?_)
          generalize w31.drew=w32 at BK287 HB hHeld ⊢
          refine qu 0 ?_;refine qt 1 ?_
          refine qo 2 ?_;intro K hK
          refine gD Try.func74 (impl_in.calls A9.out) ?_
          rintro e w' ⟨rfl,⟨nd,rfl⟩⟩;refine ⟨_,rfl,?_⟩;refine hK.out _ _ BK287.out (fun hHeld=>?_);clear hK K;refine no_ (some 14) ?_;refine qu 3 ?_;refine qu 4 ?_;refine qu 5 ?_;refine qt 6 ?_
          refine qo 7 ?_;intro K hK
          refine gD Try.func74 (impl_in.calls A11.out) ?_
          rintro e w' ⟨rfl,⟨nd,rfl⟩⟩;refine ⟨_,rfl,?_⟩;refine hK.out _ _ BK287.out (fun hHeld=>?_);clear hK K;refine no_ (some 19) ?_;refine qu 8 ?_;refine qu 9 ?_;refine qu 10 ?_;refine qd 11 ?_;refine qd 12 ?_;refine qd 13 ?_;refine qd 14 ?_;refine qu 15 ?_;refine qu 16 ?_;refine qd 17 ?_;refine qd 18 ?_;refine qd 19 ?_;refine qd 20 ?_;refine qu 21 ?_;refine qu 22 ?_;refine qd 23 ?_;refine qd 24 ?_;refine qd 25 ?_;refine qd 26 ?_;refine qd 27 ?_;refine qd 28 ?_;refine qd 29 ?_;refine qd 30 ?_;refine qd 31 ?_;refine qd 32 ?_;refine qd 33 ?_;refine qd 34 ?_;refine qu 35 ?_;refine qe ?_
          try go_wp2
          go_meet
          case rel=>exact ⟨_,(true),bZ,H',⟨by have:=HK1.out;have:=HJ1.out;first|omega|exact Nat.le_refl _⟩,⟨pK BK287.out⟩,⟨pS HB.out⟩⟩
        ·replace c10:=Bool.eq_false_iff.mpr c10;subst c10
         rw [if_neg nFT] at H
         have H':=mA H;clear H
         try go_wp2
         generalize hW_:((((w7.setCell ⟨gb287,0,none⟩ (.int .i64 ((rd_T138 l0 x7_1).f0))).setCell ⟨gb287,1,none⟩ (.int .i64 ((rd_T138 l0 x7_1).f1))).setCell ⟨gb287,2,none⟩ (.int .i64 ((rd_T138 l0 x7_1).f2))).setCell ⟨gb287,3,none⟩ (.int .i64 ((rd_T138 l0 x7_1).f3)))=w33
         have n0_:Aside0 (w33.heap[gb287]?=some (.cells #[.int .i64 ((rd_T138 l0 x7_1).f0),.int .i64 ((rd_T138 l0 x7_1).f1),.int .i64 ((rd_T138 l0 x7_1).f2),.int .i64 ((rd_T138 l0 x7_1).f3)] 138 (0,0))):=⟨by rw [← hW_];exact pP BK287⟩;have n1_:Aside0 (Below w.heap.size w w33):=⟨by rw [← hW_];exact pS HB.out⟩
         (try clear BK287);(try clear HB);clear hW_
         have BK287:=n0_;have HB:=n1_;clear n0_ n1_;replace BK287:=mA (blk_drew BK287.out);replace HB:=mA (below_drew1 HB.out)
         refine start_ (n:=36) (S:=fun w'=>w'.heap[gb287]?=some (.cells #[.int .i64 ((rd_T138 l0 x7_1).f0),.int .i64 ((rd_T138 l0 x7_1).f1),.int .i64 ((rd_T138 l0 x7_1).f2),.int .i64 ((rd_T138 l0 x7_1).f3)] 138 (0,0))) (ds:=[]) _ aK rfl rfl BK287.out (fun hHeld=>?_);refine with_tabW impl_BlkOk.tab4 impl_BlkOk.bits4 (fun HT_ HW_=>?_)
         generalize w33.drew=w34 at BK287 HB hHeld ⊢
         refine qu 0 ?_;refine qt 1 ?_
         refine qo 2 ?_;intro K hK
         refine gD Try.func74 (impl_in.calls A9.out) ?_
         rintro e w' ⟨rfl,⟨nd,rfl⟩⟩;refine ⟨_,rfl,?_⟩;refine hK.out _ _ BK287.out (fun hHeld=>?_);clear hK K;refine no_ (some 14) ?_;refine qu 3 ?_;refine qu 4 ?_;refine qd 5 ?_;refine qd 6 ?_;refine qd 7 ?_;refine qd 8 ?_;refine qu 9 ?_;refine qu 10 ?_;refine qd 11 ?_;refine qd 12 ?_;refine qd 13 ?_;refine qd 14 ?_;refine qu 15 ?_;refine qu 16 ?_;refine qd 17 ?_;refine qd 18 ?_;refine qd 19 ?_;refine qd 20 ?_;refine qu 21 ?_;refine qu 22 ?_;refine qd 23 ?_;refine qd 24 ?_;refine qd 25 ?_;refine qd 26 ?_;refine qd 27 ?_;refine qd 28 ?_;refine qd 29 ?_;refine qd 30 ?_;refine qd 31 ?_;refine qd 32 ?_;refine qd 33 ?_;refine qd 34 ?_;refine qu 35 ?_;refine qe ?_
         try go_wp2
         go_meet
         case rel=>exact ⟨_,(true),bZ,H',⟨by have:=HK1.out;have:=HJ1.out;first|omega|exact Nat.le_refl _⟩,⟨pK BK287.out⟩,⟨pS HB.out⟩⟩
       case rest =>
        clear HC6
        obtain ⟨kq,x47_5,rfl,HA,HJ5,BK287,HB⟩:=hcut
        cases kq with
        | zero=>exact absurd HA.out (by simp [impl_BlkOk.j2])
        | succ kj5 =>
         have H:=HA.out;clear HA;simp only [impl_BlkOk.j2] at H
         by_cases c35:x47_5=true
         ·subst c35;rw [if_pos rfl] at H;obtain rfl:=Option.some.inj H
          go_wp2
          go_ret
          exact rZ (pS HB.out)
         ·replace c35:=Bool.eq_false_iff.mpr c35;subst c35
          rw [if_neg nFT] at H
          have H':=mA H;clear H
          go_wp2
          go_roundg kj5
          case measure=>have:=HK1.out;have:=HJ1.out;have:=HJ5.out;omega
          case rel=>exact ⟨(wrap64 (x7_1+1)),bZ,H',⟨by have:=HK1.out;have:=HJ1.out;have:=HJ5.out;omega⟩,⟨pS HB.out⟩⟩
      ·rw [if_neg c5] at H
       exact absurd H (by simp)
     ·rw [if_neg c4] at H
      exact absurd H (by simp)
/-! ### impl_lastOk: function 78 -/
def impl_lastOk.l0 : Nat → List (S140) → List (S140) → Int → Int → Option (Bool)
 | 0,_,_,_,_=>none
 | k+1,x0,x5,x6,x7=>if x7<x6 then (if 0≤x7 then (if x7<(x5.length:Int) then ((impl_in.f ((rd_T140 x5 x7).f0) 0 3).bind fun t296=>(if t296=true then ((impl_in.f ((rd_T140 x5 x7).f1) 1 99999).bind fun t297=>(if t297=true then (if x7 > 0 then (if 0≤(wrap64 (x7 - 1)) then (if (wrap64 (x7 - 1))<(x0.length:Int) then (if ((rd_T140 x0 (wrap64 (x7 - 1))).f0) ≥ ((rd_T140 x5 x7).f0) then (some false) else (impl_lastOk.l0 k x0 x5 x6 (wrap64 (x7+1)))) else (none)) else (none)) else (impl_lastOk.l0 k x0 x5 x6 (wrap64 (x7+1)))) else (some false))) else (some false))) else (none)) else (none)) else (some (decide ((x0.length:Int)≤4)))
def impl_lastOk.f (k : Nat) (l0 : List (S140)) : Option (Bool) := impl_lastOk.l0 k l0 l0 (l0.length : Int) 0
set_option maxHeartbeats 8000000 in
set_option maxRecDepth 100000 in
theorem impl_lastOk.calls {k : Nat} {A0 : Option Addr} {c0 : Nat} {l0 : List (S140)} {r : Bool} {w : World} (hr0 : Kd.C k140 w A0 l0.length l0) (hc0 : l0.length ≤ c0) (h : impl_lastOk.f k l0 = some r) :
  Calls Try.prog 78 #[.slice A0 l0.length c0] w fun e w'=>e=.returned (.bool r)∧Below w.heap.size w w':=by
 have hu140:=Try.underlying140;have HR0:=mA hr0;have HC0:=mA hc0;clear hr0 hc0;have HB:=mA (Below.refl w.heap.size w);have H:(impl_lastOk.l0 k l0 l0 (l0.length:Int) 0)=some r:=h;clear h;have H':=mA H;clear H
 go_enter Try.func78,Try.ntmps78
 go_wp2
 repeat (go_quiet (fail);try go_wp2)
 go_loopg [7] k (fun kq v7 w'=>∃ (x7_1:Int),v7=.int .i64 x7_1∧Aside0 (impl_lastOk.l0 kq l0 l0 (l0.length:Int) x7_1=some r)∧Aside0 (kq≤k)∧Aside0 (Below w.heap.size w w'))
 case atStart=>exact ⟨(0),bZ,H',⟨Nat.le_refl _⟩,⟨pB HB.out⟩⟩
 case round =>
  clear H';obtain ⟨x7_1,rfl,HA,HK1,HB⟩:=hrel
  cases gk with
  | zero=>exact absurd HA.out (by simp [impl_lastOk.l0])
  | succ k1 =>
   have H:=HA.out;clear HA;simp only [impl_lastOk.l0] at H
   by_cases c2:x7_1<(l0.length:Int)
   ·rw [if_pos c2] at H;have c2b0:decide (x7_1<(l0.length:Int))=true:=decide_eq_true c2;clear c2
    by_cases c3:0≤x7_1
    ·rw [if_pos c3] at H;have c3b0:decide (0≤x7_1)=true:=decide_eq_true c3;clear c3
     by_cases c4:x7_1<(l0.length:Int)
     ·rw [if_pos c4] at H;have c4b0:decide (x7_1<(l0.length:Int))=true:=decide_eq_true c4;clear c4;obtain ⟨t296,A5,H⟩:=bI H;(try dsimp only at H)
      by_cases c6:t296=true
      ·subst c6;rw [if_pos rfl] at H;obtain ⟨t297,A7,H⟩:=bI H;(try dsimp only at H)
       by_cases c8:t297=true
       ·subst c8;rw [if_pos rfl] at H
        by_cases c9:x7_1 > 0
        ·rw [if_pos c9] at H;have c9b0:decide (0<x7_1)=true:=decide_eq_true c9;clear c9;obtain ⟨ji10,hji10⟩:∃ j_:Int,(wrap64 (x7_1 - 1))=j_:=⟨_,rfl⟩
         replace H:(if 0≤(ji10) then (if (ji10)<(l0.length:Int) then (if ((rd_T140 l0 (ji10)).f0) ≥ ((rd_T140 l0 x7_1).f0) then (some false) else (impl_lastOk.l0 k1 l0 l0 (l0.length:Int) (wrap64 (x7_1+1)))) else (none)) else (none))=some r:=by first|(rw [hji10] at H;exact H)|(simp only [hji10] at H ⊢;exact H)
         (try rw [hji10] at A5)
         (try rw [hji10] at A7)
         have hji10w:(IntKind.i64.wrap (x7_1 - 1))=ji10:=(i64_w _).trans hji10
         by_cases c11:0≤(ji10)
         ·rw [if_pos c11] at H;have c11b0:decide (0≤(ji10))=true:=decide_eq_true c11;clear c11
          by_cases c12:(ji10)<(l0.length:Int)
          ·rw [if_pos c12] at H;have c12b0:decide ((ji10)<(l0.length:Int))=true:=decide_eq_true c12;clear c12
           by_cases c13:((rd_T140 l0 (ji10)).f0) ≥ ((rd_T140 l0 x7_1).f0)
           ·rw [if_pos c13] at H;have c13b0:decide (((rd_T140 l0 x7_1).f0)≤((rd_T140 l0 (ji10)).f0))=true:=decide_eq_true c13;clear c13;obtain rfl:=Option.some.inj H;have p294:0≤(x7_1:Int):=of_decide_eq_true bA;have q294:x7_1<(l0.length:Int):=of_decide_eq_true bA;obtain ⟨ad294,e294,hx294_0,hx294_1⟩:=at_T140 HR0.out x7_1 p294 q294;cases e294;replace hx294_0:=hC HB hx294_0;replace hx294_1:=hC HB hx294_1;replace p294:=eq_true p294;replace q294:=eq_true q294
            go_wp2_with (first|((with_reducible refine gT 4 rfl ?_);refine bE 4 #[.int .i64 0,.int .i64 0] 140 ?_;intro gb295 hg w14 hbox hb;have BK295:=mA hbox;have GW295:=gbpB HB hg;have GE295:=gbpB HB hg;replace HB:=spB HB hb;clear hb hbox hg;obtain ⟨hcz15_0,hcz15_1,hfz15_0,hfz15_1⟩:=box2 BK295.out)|(go_at_call 74;(with_reducible refine (impl_in.calls A5.out).mono ?_);rintro e w' ⟨rfl,⟨nd,rfl⟩⟩;(try first|exact ⟨rfl,_,World.drewN_drewN _ _ _⟩|exact ⟨rfl,_,Eq.trans (World.drewN_drewN _ _ _) (congrArg (World.drewN _) (Nat.add_assoc _ _ _))⟩))|(go_at_call 74;(with_reducible refine (impl_in.calls A7.out).mono ?_);rintro e w' ⟨rfl,⟨nd,rfl⟩⟩;(try first|exact ⟨rfl,_,World.drewN_drewN _ _ _⟩|exact ⟨rfl,_,Eq.trans (World.drewN_drewN _ _ _) (congrArg (World.drewN _) (Nat.add_assoc _ _ _))⟩);have p298:0≤((ji10):Int):=of_decide_eq_true bA;have q298:(ji10)<(l0.length:Int):=of_decide_eq_true bA;obtain ⟨ad298,e298,hx298_0,hx298_1⟩:=at_T140 HR0.out (ji10) p298 q298;obtain rfl:ad294=ad298:=(by injection e298);have hn298_0:ad294.block≠gb295:=Nat.ne_of_lt (Nat.lt_of_lt_of_le (by have:=World.block_lt_of_cell? _ _ hx298_0;first|rwa [add_block] at this|exact this) GW295.out);have hn298_1:ad294.block≠gb295:=Nat.ne_of_lt (Nat.lt_of_lt_of_le (by have:=World.block_lt_of_cell? _ _ hx298_0;first|rwa [add_block] at this|exact this) GW295.out);replace hx298_0:=hC HB hx298_0;replace hx298_1:=hC HB hx298_1;replace hx298_0:=(cell_far (p:=⟨gb295,0,none⟩) (by first|(rw [add_block];exact hn298_0)|(show (Addr.add _ _).block≠_;rw [add_block];exact hn298_0)|exact hn298_0) (.int .i64 ((rd_T140 l0 x7_1).f0))).trans hx298_0;replace hx298_1:=(cell_far (p:=⟨gb295,0,none⟩) (by first|(rw [add_block];exact hn298_0)|(show (Addr.add _ _).block≠_;rw [add_block];exact hn298_0)|exact hn298_0) (.int .i64 ((rd_T140 l0 x7_1).f0))).trans hx298_1;replace hx298_0:=(cell_far (p:=⟨gb295,1,none⟩) (by first|(rw [add_block];exact hn298_1)|(show (Addr.add _ _).block≠_;rw [add_block];exact hn298_1)|exact hn298_1) (.int .i64 ((rd_T140 l0 x7_1).f1))).trans hx298_0;replace hx298_1:=(cell_far (p:=⟨gb295,1,none⟩) (by first|(rw [add_block];exact hn298_1)|(show (Addr.add _ _).block≠_;rw [add_block];exact hn298_1)|exact hn298_1) (.int .i64 ((rd_T140 l0 x7_1).f1))).trans hx298_1;(try have hy298_0:=fun (n_:Nat)=>(show ((((w14.drewN n_).setCell ⟨gb295,0,none⟩ (.int .i64 ((rd_T140 l0 x7_1).f0))).setCell ⟨gb295,1,none⟩ (.int .i64 ((rd_T140 l0 x7_1).f1)))).cell? _=some _ from hx298_0));(try have hy298_1:=fun (n_:Nat)=>(show ((((w14.drewN n_).setCell ⟨gb295,0,none⟩ (.int .i64 ((rd_T140 l0 x7_1).f0))).setCell ⟨gb295,1,none⟩ (.int .i64 ((rd_T140 l0 x7_1).f1)))).cell? _=some _ from hx298_1));clear hn298_0;clear hn298_1;replace p298:=eq_true p298;replace q298:=eq_true q298))
            repeat (go_quiet (first|((with_reducible refine gT 4 rfl ?_);refine bE 4 #[.int .i64 0,.int .i64 0] 140 ?_;intro gb295 hg w14 hbox hb;have BK295:=mA hbox;have GW295:=gbpB HB hg;have GE295:=gbpB HB hg;replace HB:=spB HB hb;clear hb hbox hg;obtain ⟨hcz15_0,hcz15_1,hfz15_0,hfz15_1⟩:=box2 BK295.out)|(go_at_call 74;(with_reducible refine (impl_in.calls A5.out).mono ?_);rintro e w' ⟨rfl,⟨nd,rfl⟩⟩;(try first|exact ⟨rfl,_,World.drewN_drewN _ _ _⟩|exact ⟨rfl,_,Eq.trans (World.drewN_drewN _ _ _) (congrArg (World.drewN _) (Nat.add_assoc _ _ _))⟩))|(go_at_call 74;(with_reducible refine (impl_in.calls A7.out).mono ?_);rintro e w' ⟨rfl,⟨nd,rfl⟩⟩;(try first|exact ⟨rfl,_,World.drewN_drewN _ _ _⟩|exact ⟨rfl,_,Eq.trans (World.drewN_drewN _ _ _) (congrArg (World.drewN _) (Nat.add_assoc _ _ _))⟩);have p298:0≤((ji10):Int):=of_decide_eq_true bA;have q298:(ji10)<(l0.length:Int):=of_decide_eq_true bA;obtain ⟨ad298,e298,hx298_0,hx298_1⟩:=at_T140 HR0.out (ji10) p298 q298;obtain rfl:ad294=ad298:=(by injection e298);have hn298_0:ad294.block≠gb295:=Nat.ne_of_lt (Nat.lt_of_lt_of_le (by have:=World.block_lt_of_cell? _ _ hx298_0;first|rwa [add_block] at this|exact this) GW295.out);have hn298_1:ad294.block≠gb295:=Nat.ne_of_lt (Nat.lt_of_lt_of_le (by have:=World.block_lt_of_cell? _ _ hx298_0;first|rwa [add_block] at this|exact this) GW295.out);replace hx298_0:=hC HB hx298_0;replace hx298_1:=hC HB hx298_1;replace hx298_0:=(cell_far (p:=⟨gb295,0,none⟩) (by first|(rw [add_block];exact hn298_0)|(show (Addr.add _ _).block≠_;rw [add_block];exact hn298_0)|exact hn298_0) (.int .i64 ((rd_T140 l0 x7_1).f0))).trans hx298_0;replace hx298_1:=(cell_far (p:=⟨gb295,0,none⟩) (by first|(rw [add_block];exact hn298_0)|(show (Addr.add _ _).block≠_;rw [add_block];exact hn298_0)|exact hn298_0) (.int .i64 ((rd_T140 l0 x7_1).f0))).trans hx298_1;replace hx298_0:=(cell_far (p:=⟨gb295,1,none⟩) (by first|(rw [add_block];exact hn298_1)|(show (Addr.add _ _).block≠_;rw [add_block];exact hn298_1)|exact hn298_1) (.int .i64 ((rd_T140 l0 x7_1).f1))).trans hx298_0;replace hx298_1:=(cell_far (p:=⟨gb295,1,none⟩) (by first|(rw [add_block];exact hn298_1)|(show (Addr.add _ _).block≠_;rw [add_block];exact hn298_1)|exact hn298_1) (.int .i64 ((rd_T140 l0 x7_1).f1))).trans hx298_1;(try have hy298_0:=fun (n_:Nat)=>(show ((((w14.drewN n_).setCell ⟨gb295,0,none⟩ (.int .i64 ((rd_T140 l0 x7_1).f0))).setCell ⟨gb295,1,none⟩ (.int .i64 ((rd_T140 l0 x7_1).f1)))).cell? _=some _ from hx298_0));(try have hy298_1:=fun (n_:Nat)=>(show ((((w14.drewN n_).setCell ⟨gb295,0,none⟩ (.int .i64 ((rd_T140 l0 x7_1).f0))).setCell ⟨gb295,1,none⟩ (.int .i64 ((rd_T140 l0 x7_1).f1)))).cell? _=some _ from hx298_1));clear hn298_0;clear hn298_1;replace p298:=eq_true p298;replace q298:=eq_true q298));try go_wp2_with (first|((with_reducible refine gT 4 rfl ?_);refine bE 4 #[.int .i64 0,.int .i64 0] 140 ?_;intro gb295 hg w14 hbox hb;have BK295:=mA hbox;have GW295:=gbpB HB hg;have GE295:=gbpB HB hg;replace HB:=spB HB hb;clear hb hbox hg;obtain ⟨hcz15_0,hcz15_1,hfz15_0,hfz15_1⟩:=box2 BK295.out)|(go_at_call 74;(with_reducible refine (impl_in.calls A5.out).mono ?_);rintro e w' ⟨rfl,⟨nd,rfl⟩⟩;(try first|exact ⟨rfl,_,World.drewN_drewN _ _ _⟩|exact ⟨rfl,_,Eq.trans (World.drewN_drewN _ _ _) (congrArg (World.drewN _) (Nat.add_assoc _ _ _))⟩))|(go_at_call 74;(with_reducible refine (impl_in.calls A7.out).mono ?_);rintro e w' ⟨rfl,⟨nd,rfl⟩⟩;(try first|exact ⟨rfl,_,World.drewN_drewN _ _ _⟩|exact ⟨rfl,_,Eq.trans (World.drewN_drewN _ _ _) (congrArg (World.drewN _) (Nat.add_assoc _ _ _))⟩);have p298:0≤((ji10):Int):=of_decide_eq_true bA;have q298:(ji10)<(l0.length:Int):=of_decide_eq_true bA;obtain ⟨ad298,e298,hx298_0,hx298_1⟩:=at_T140 HR0.out (ji10) p298 q298;obtain rfl:ad294=ad298:=(by injection e298);have hn298_0:ad294.block≠gb295:=Nat.ne_of_lt (Nat.lt_of_lt_of_le (by have:=World.block_lt_of_cell? _ _ hx298_0;first|rwa [add_block] at this|exact this) GW295.out);have hn298_1:ad294.block≠gb295:=Nat.ne_of_lt (Nat.lt_of_lt_of_le (by have:=World.block_lt_of_cell? _ _ hx298_0;first|rwa [add_block] at this|exact this) GW295.out);replace hx298_0:=hC HB hx298_0;replace hx298_1:=hC HB hx298_1;replace hx298_0:=(cell_far (p:=⟨gb295,0,none⟩) (by first|(rw [add_block];exact hn298_0)|(show (Addr.add _ _).block≠_;rw [add_block];exact hn298_0)|exact hn298_0) (.int .i64 ((rd_T140 l0 x7_1).f0))).trans hx298_0;replace hx298_1:=(cell_far (p:=⟨gb295,0,none⟩) (by first|(rw [add_block];exact hn298_0)|(show (Addr.add _ _).block≠_;rw [add_block];exact hn298_0)|exact hn298_0) (.int .i64 ((rd_T140 l0 x7_1).f0))).trans hx298_1;replace hx298_0:=(cell_far (p:=⟨gb295,1,none⟩) (by first|(rw [add_block];exact hn298_1)|(show (Addr.add _ _).block≠_;rw [add_block];exact hn298_1)|exact hn298_1) (.int .i64 ((rd_T140 l0 x7_1).f1))).trans hx298_0;replace hx298_1:=(cell_far (p:=⟨gb295,1,none⟩) (by first|(rw [add_block];exact hn298_1)|(show (Addr.add _ _).block≠_;rw [add_block];exact hn298_1)|exact hn298_1) (.int .i64 ((rd_T140 l0 x7_1).f1))).trans hx298_1;(try have hy298_0:=fun (n_:Nat)=>(show ((((w14.drewN n_).setCell ⟨gb295,0,none⟩ (.int .i64 ((rd_T140 l0 x7_1).f0))).setCell ⟨gb295,1,none⟩ (.int .i64 ((rd_T140 l0 x7_1).f1)))).cell? _=some _ from hx298_0));(try have hy298_1:=fun (n_:Nat)=>(show ((((w14.drewN n_).setCell ⟨gb295,0,none⟩ (.int .i64 ((rd_T140 l0 x7_1).f0))).setCell ⟨gb295,1,none⟩ (.int .i64 ((rd_T140 l0 x7_1).f1)))).cell? _=some _ from hx298_1));clear hn298_0;clear hn298_1;replace p298:=eq_true p298;replace q298:=eq_true q298)))
            go_ret
            exact ⟨by first|rfl|(simp [errW_none,errW_some]<;>rfl)|(simp only [← hji10];first|rfl|(simp [errW_none,errW_some]<;>rfl))|(simp [*,errW_none,errW_some]<;>rfl),pS HB.out⟩
           ·rw [if_neg c13] at H;have c13b0:decide (((rd_T140 l0 x7_1).f0)≤((rd_T140 l0 (ji10)).f0))=false:=decide_eq_false c13;clear c13;have H':=mA H;clear H;have p294:0≤(x7_1:Int):=of_decide_eq_true bA;have q294:x7_1<(l0.length:Int):=of_decide_eq_true bA;obtain ⟨ad294,e294,hx294_0,hx294_1⟩:=at_T140 HR0.out x7_1 p294 q294;cases e294;replace hx294_0:=hC HB hx294_0;replace hx294_1:=hC HB hx294_1;replace p294:=eq_true p294;replace q294:=eq_true q294
            go_wp2_with (first|((with_reducible refine gT 4 rfl ?_);refine bE 4 #[.int .i64 0,.int .i64 0] 140 ?_;intro gb295 hg w16 hbox hb;have BK295:=mA hbox;have GW295:=gbpB HB hg;have GE295:=gbpB HB hg;replace HB:=spB HB hb;clear hb hbox hg;obtain ⟨hcz17_0,hcz17_1,hfz17_0,hfz17_1⟩:=box2 BK295.out)|(go_at_call 74;(with_reducible refine (impl_in.calls A5.out).mono ?_);rintro e w' ⟨rfl,⟨nd,rfl⟩⟩;(try first|exact ⟨rfl,_,World.drewN_drewN _ _ _⟩|exact ⟨rfl,_,Eq.trans (World.drewN_drewN _ _ _) (congrArg (World.drewN _) (Nat.add_assoc _ _ _))⟩))|(go_at_call 74;(with_reducible refine (impl_in.calls A7.out).mono ?_);rintro e w' ⟨rfl,⟨nd,rfl⟩⟩;(try first|exact ⟨rfl,_,World.drewN_drewN _ _ _⟩|exact ⟨rfl,_,Eq.trans (World.drewN_drewN _ _ _) (congrArg (World.drewN _) (Nat.add_assoc _ _ _))⟩);have p298:0≤((ji10):Int):=of_decide_eq_true bA;have q298:(ji10)<(l0.length:Int):=of_decide_eq_true bA;obtain ⟨ad298,e298,hx298_0,hx298_1⟩:=at_T140 HR0.out (ji10) p298 q298;obtain rfl:ad294=ad298:=(by injection e298);have hn298_0:ad294.block≠gb295:=Nat.ne_of_lt (Nat.lt_of_lt_of_le (by have:=World.block_lt_of_cell? _ _ hx298_0;first|rwa [add_block] at this|exact this) GW295.out);have hn298_1:ad294.block≠gb295:=Nat.ne_of_lt (Nat.lt_of_lt_of_le (by have:=World.block_lt_of_cell? _ _ hx298_0;first|rwa [add_block] at this|exact this) GW295.out);replace hx298_0:=hC HB hx298_0;replace hx298_1:=hC HB hx298_1;replace hx298_0:=(cell_far (p:=⟨gb295,0,none⟩) (by first|(rw [add_block];exact hn298_0)|(show (Addr.add _ _).block≠_;rw [add_block];exact hn298_0)|exact hn298_0) (.int .i64 ((rd_T140 l0 x7_1).f0))).trans hx298_0;replace hx298_1:=(cell_far (p:=⟨gb295,0,none⟩) (by first|(rw [add_block];exact hn298_0)|(show (Addr.add _ _).block≠_;rw [add_block];exact hn298_0)|exact hn298_0) (.int .i64 ((rd_T140 l0 x7_1).f0))).trans hx298_1;replace hx298_0:=(cell_far (p:=⟨gb295,1,none⟩) (by first|(rw [add_block];exact hn298_1)|(show (Addr.add _ _).block≠_;rw [add_block];exact hn298_1)|exact hn298_1) (.int .i64 ((rd_T140 l0 x7_1).f1))).trans hx298_0;replace hx298_1:=(cell_far (p:=⟨gb295,1,none⟩) (by first|(rw [add_block];exact hn298_1)|(show (Addr.add _ _).block≠_;rw [add_block];exact hn298_1)|exact hn298_1) (.int .i64 ((rd_T140 l0 x7_1).f1))).trans hx298_1;(try have hy298_0:=fun (n_:Nat)=>(show ((((w16.drewN n_).setCell ⟨gb295,0,none⟩ (.int .i64 ((rd_T140 l0 x7_1).f0))).setCell ⟨gb295,1,none⟩ (.int .i64 ((rd_T140 l0 x7_1).f1)))).cell? _=some _ from hx298_0));(try have hy298_1:=fun (n_:Nat)=>(show ((((w16.drewN n_).setCell ⟨gb295,0,none⟩ (.int .i64 ((rd_T140 l0 x7_1).f0))).setCell ⟨gb295,1,none⟩ (.int .i64 ((rd_T140 l0 x7_1).f1)))).cell? _=some _ from hx298_1));clear hn298_0;clear hn298_1;replace p298:=eq_true p298;replace q298:=eq_true q298))
            repeat (go_quiet (first|((with_reducible refine gT 4 rfl ?_);refine bE 4 #[.int .i64 0,.int .i64 0] 140 ?_;intro gb295 hg w16 hbox hb;have BK295:=mA hbox;have GW295:=gbpB HB hg;have GE295:=gbpB HB hg;replace HB:=spB HB hb;clear hb hbox hg;obtain ⟨hcz17_0,hcz17_1,hfz17_0,hfz17_1⟩:=box2 BK295.out)|(go_at_call 74;(with_reducible refine (impl_in.calls A5.out).mono ?_);rintro e w' ⟨rfl,⟨nd,rfl⟩⟩;(try first|exact ⟨rfl,_,World.drewN_drewN _ _ _⟩|exact ⟨rfl,_,Eq.trans (World.drewN_drewN _ _ _) (congrArg (World.drewN _) (Nat.add_assoc _ _ _))⟩))|(go_at_call 74;(with_reducible refine (impl_in.calls A7.out).mono ?_);rintro e w' ⟨rfl,⟨nd,rfl⟩⟩;(try first|exact ⟨rfl,_,World.drewN_drewN _ _ _⟩|exact ⟨rfl,_,Eq.trans (World.drewN_drewN _ _ _) (congrArg (World.drewN _) (Nat.add_assoc _ _ _))⟩);have p298:0≤((ji10):Int):=of_decide_eq_true bA;have q298:(ji10)<(l0.length:Int):=of_decide_eq_true bA;obtain ⟨ad298,e298,hx298_0,hx298_1⟩:=at_T140 HR0.out (ji10) p298 q298;obtain rfl:ad294=ad298:=(by injection e298);have hn298_0:ad294.block≠gb295:=Nat.ne_of_lt (Nat.lt_of_lt_of_le (by have:=World.block_lt_of_cell? _ _ hx298_0;first|rwa [add_block] at this|exact this) GW295.out);have hn298_1:ad294.block≠gb295:=Nat.ne_of_lt (Nat.lt_of_lt_of_le (by have:=World.block_lt_of_cell? _ _ hx298_0;first|rwa [add_block] at this|exact this) GW295.out);replace hx298_0:=hC HB hx298_0;replace hx298_1:=hC HB hx298_1;replace hx298_0:=(cell_far (p:=⟨gb295,0,none⟩) (by first|(rw [add_block];exact hn298_0)|(show (Addr.add _ _).block≠_;rw [add_block];exact hn298_0)|exact hn298_0) (.int .i64 ((rd_T140 l0 x7_1).f0))).trans hx298_0;replace hx298_1:=(cell_far (p:=⟨gb295,0,none⟩) (by first|(rw [add_block];exact hn298_0)|(show (Addr.add _ _).block≠_;rw [add_block];exact hn298_0)|exact hn298_0) (.int .i64 ((rd_T140 l0 x7_1).f0))).trans hx298_1;replace hx298_0:=(cell_far (p:=⟨gb295,1,none⟩) (by first|(rw [add_block];exact hn298_1)|(show (Addr.add _ _).block≠_;rw [add_block];exact hn298_1)|exact hn298_1) (.int .i64 ((rd_T140 l0 x7_1).f1))).trans hx298_0;replace hx298_1:=(cell_far (p:=⟨gb295,1,none⟩) (by first|(rw [add_block];exact hn298_1)|(show (Addr.add _ _).block≠_;rw [add_block];exact hn298_1)|exact hn298_1) (.int .i64 ((rd_T140 l0 x7_1).f1))).trans hx298_1;(try have hy298_0:=fun (n_:Nat)=>(show ((((w16.drewN n_).setCell ⟨gb295,0,none⟩ (.int .i64 ((rd_T140 l0 x7_1).f0))).setCell ⟨gb295,1,none⟩ (.int .i64 ((rd_T140 l0 x7_1).f1)))).cell? _=some _ from hx298_0));(try have hy298_1:=fun (n_:Nat)=>(show ((((w16.drewN n_).setCell ⟨gb295,0,none⟩ (.int .i64 ((rd_T140 l0 x7_1).f0))).setCell ⟨gb295,1,none⟩ (.int .i64 ((rd_T140 l0 x7_1).f1)))).cell? _=some _ from hx298_1));clear hn298_0;clear hn298_1;replace p298:=eq_true p298;replace q298:=eq_true q298));try go_wp2_with (first|((with_reducible refine gT 4 rfl ?_);refine bE 4 #[.int .i64 0,.int .i64 0] 140 ?_;intro gb295 hg w16 hbox hb;have BK295:=mA hbox;have GW295:=gbpB HB hg;have GE295:=gbpB HB hg;replace HB:=spB HB hb;clear hb hbox hg;obtain ⟨hcz17_0,hcz17_1,hfz17_0,hfz17_1⟩:=box2 BK295.out)|(go_at_call 74;(with_reducible refine (impl_in.calls A5.out).mono ?_);rintro e w' ⟨rfl,⟨nd,rfl⟩⟩;(try first|exact ⟨rfl,_,World.drewN_drewN _ _ _⟩|exact ⟨rfl,_,Eq.trans (World.drewN_drewN _ _ _) (congrArg (World.drewN _) (Nat.add_assoc _ _ _))⟩))|(go_at_call 74;(with_reducible refine (impl_in.calls A7.out).mono ?_);rintro e w' ⟨rfl,⟨nd,rfl⟩⟩;(try first|exact ⟨rfl,_,World.drewN_drewN _ _ _⟩|exact ⟨rfl,_,Eq.trans (World.drewN_drewN _ _ _) (congrArg (World.drewN _) (Nat.add_assoc _ _ _))⟩);have p298:0≤((ji10):Int):=of_decide_eq_true bA;have q298:(ji10)<(l0.length:Int):=of_decide_eq_true bA;obtain ⟨ad298,e298,hx298_0,hx298_1⟩:=at_T140 HR0.out (ji10) p298 q298;obtain rfl:ad294=ad298:=(by injection e298);have hn298_0:ad294.block≠gb295:=Nat.ne_of_lt (Nat.lt_of_lt_of_le (by have:=World.block_lt_of_cell? _ _ hx298_0;first|rwa [add_block] at this|exact this) GW295.out);have hn298_1:ad294.block≠gb295:=Nat.ne_of_lt (Nat.lt_of_lt_of_le (by have:=World.block_lt_of_cell? _ _ hx298_0;first|rwa [add_block] at this|exact this) GW295.out);replace hx298_0:=hC HB hx298_0;replace hx298_1:=hC HB hx298_1;replace hx298_0:=(cell_far (p:=⟨gb295,0,none⟩) (by first|(rw [add_block];exact hn298_0)|(show (Addr.add _ _).block≠_;rw [add_block];exact hn298_0)|exact hn298_0) (.int .i64 ((rd_T140 l0 x7_1).f0))).trans hx298_0;replace hx298_1:=(cell_far (p:=⟨gb295,0,none⟩) (by first|(rw [add_block];exact hn298_0)|(show (Addr.add _ _).block≠_;rw [add_block];exact hn298_0)|exact hn298_0) (.int .i64 ((rd_T140 l0 x7_1).f0))).trans hx298_1;replace hx298_0:=(cell_far (p:=⟨gb295,1,none⟩) (by first|(rw [add_block];exact hn298_1)|(show (Addr.add _ _).block≠_;rw [add_block];exact hn298_1)|exact hn298_1) (.int .i64 ((rd_T140 l0 x7_1).f1))).trans hx298_0;replace hx298_1:=(cell_far (p:=⟨gb295,1,none⟩) (by first|(rw [add_block];exact hn298_1)|(show (Addr.add _ _).block≠_;rw [add_block];exact hn298_1)|exact hn298_1) (.int .i64 ((rd_T140 l0 x7_1).f1))).trans hx298_1;(try have hy298_0:=fun (n_:Nat)=>(show ((((w16.drewN n_).setCell ⟨gb295,0,none⟩ (.int .i64 ((rd_T140 l0 x7_1).f0))).setCell ⟨gb295,1,none⟩ (.int .i64 ((rd_T140 l0 x7_1).f1)))).cell? _=some _ from hx298_0));(try have hy298_1:=fun (n_:Nat)=>(show ((((w16.drewN n_).setCell ⟨gb295,0,none⟩ (.int .i64 ((rd_T140 l0 x7_1).f0))).setCell ⟨gb295,1,none⟩ (.int .i64 ((rd_T140 l0 x7_1).f1)))).cell? _=some _ from hx298_1));clear hn298_0;clear hn298_1;replace p298:=eq_true p298;replace q298:=eq_true q298)))
            go_roundg k1
            case measure=>have:=HK1.out;omega
            case rel=>exact ⟨(wrap64 (x7_1+1)),bZ,H',⟨by have:=HK1.out;omega⟩,⟨pS HB.out⟩⟩
          ·rw [if_neg c12] at H
           exact absurd H (by simp)
         ·rw [if_neg c11] at H
          exact absurd H (by simp)
        ·rw [if_neg c9] at H;have c9b0:decide (0<x7_1)=false:=decide_eq_false c9;clear c9;have H':=mA H;clear H;have p294:0≤(x7_1:Int):=of_decide_eq_true bA;have q294:x7_1<(l0.length:Int):=of_decide_eq_true bA;obtain ⟨ad294,e294,hx294_0,hx294_1⟩:=at_T140 HR0.out x7_1 p294 q294;cases e294;replace hx294_0:=hC HB hx294_0;replace hx294_1:=hC HB hx294_1;replace p294:=eq_true p294;replace q294:=eq_true q294
         go_wp2_with (first|((with_reducible refine gT 4 rfl ?_);refine bE 4 #[.int .i64 0,.int .i64 0] 140 ?_;intro gb295 hg w18 hbox hb;have BK295:=mA hbox;have GW295:=gbpB HB hg;have GE295:=gbpB HB hg;replace HB:=spB HB hb;clear hb hbox hg;obtain ⟨hcz19_0,hcz19_1,hfz19_0,hfz19_1⟩:=box2 BK295.out)|(go_at_call 74;(with_reducible refine (impl_in.calls A5.out).mono ?_);rintro e w' ⟨rfl,⟨nd,rfl⟩⟩;(try first|exact ⟨rfl,_,World.drewN_drewN _ _ _⟩|exact ⟨rfl,_,Eq.trans (World.drewN_drewN _ _ _) (congrArg (World.drewN _) (Nat.add_assoc _ _ _))⟩))|(go_at_call 74;(with_reducible refine (impl_in.calls A7.out).mono ?_);rintro e w' ⟨rfl,⟨nd,rfl⟩⟩;(try first|exact ⟨rfl,_,World.drewN_drewN _ _ _⟩|exact ⟨rfl,_,Eq.trans (World.drewN_drewN _ _ _) (congrArg (World.drewN _) (Nat.add_assoc _ _ _))⟩)))
         repeat (go_quiet (first|((with_reducible refine gT 4 rfl ?_);refine bE 4 #[.int .i64 0,.int .i64 0] 140 ?_;intro gb295 hg w18 hbox hb;have BK295:=mA hbox;have GW295:=gbpB HB hg;have GE295:=gbpB HB hg;replace HB:=spB HB hb;clear hb hbox hg;obtain ⟨hcz19_0,hcz19_1,hfz19_0,hfz19_1⟩:=box2 BK295.out)|(go_at_call 74;(with_reducible refine (impl_in.calls A5.out).mono ?_);rintro e w' ⟨rfl,⟨nd,rfl⟩⟩;(try first|exact ⟨rfl,_,World.drewN_drewN _ _ _⟩|exact ⟨rfl,_,Eq.trans (World.drewN_drewN _ _ _) (congrArg (World.drewN _) (Nat.add_assoc _ _ _))⟩))|(go_at_call 74;(with_reducible refine (impl_in.calls A7.out).mono ?_);rintro e w' ⟨rfl,⟨nd,rfl⟩⟩;(try first|exact ⟨rfl,_,World.drewN_drewN _ _ _⟩|exact ⟨rfl,_,Eq.trans (World.drewN_drewN _ _ _) (congrArg (World.drewN _) (Nat.add_assoc _ _ _))⟩)));try go_wp2_with (first|((with_reducible refine gT 4 rfl ?_);refine bE 4 #[.int .i64 0,.int .i64 0] 140 ?_;intro gb295 hg w18 hbox hb;have BK295:=mA hbox;have GW295:=gbpB HB hg;have GE295:=gbpB HB hg;replace HB:=spB HB hb;clear hb hbox hg;obtain ⟨hcz19_0,hcz19_1,hfz19_0,hfz19_1⟩:=box2 BK295.out)|(go_at_call 74;(with_reducible refine (impl_in.calls A5.out).mono ?_);rintro e w' ⟨rfl,⟨nd,rfl⟩⟩;(try first|exact ⟨rfl,_,World.drewN_drewN _ _ _⟩|exact ⟨rfl,_,Eq.trans (World.drewN_drewN _ _ _) (congrArg (World.drewN _) (Nat.add_assoc _ _ _))⟩))|(go_at_call 74;(with_reducible refine (impl_in.calls A7.out).mono ?_);rintro e w' ⟨rfl,⟨nd,rfl⟩⟩;(try first|exact ⟨rfl,_,World.drewN_drewN _ _ _⟩|exact ⟨rfl,_,Eq.trans (World.drewN_drewN _ _ _) (congrArg (World.drewN _) (Nat.add_assoc _ _ _))⟩))))
         go_roundg k1
         case measure=>have:=HK1.out;omega
         case rel=>exact ⟨(wrap64 (x7_1+1)),bZ,H',⟨by have:=HK1.out;omega⟩,⟨pS HB.out⟩⟩
       ·replace c8:=Bool.eq_false_iff.mpr c8;subst c8
        rw [if_neg nFT] at H
        obtain rfl:=Option.some.inj H;have p294:0≤(x7_1:Int):=of_decide_eq_true bA;have q294:x7_1<(l0.length:Int):=of_decide_eq_true bA;obtain ⟨ad294,e294,hx294_0,hx294_1⟩:=at_T140 HR0.out x7_1 p294 q294;cases e294;replace hx294_0:=hC HB hx294_0;replace hx294_1:=hC HB hx294_1;replace p294:=eq_true p294;replace q294:=eq_true q294
        go_wp2_with (first|((with_reducible refine gT 4 rfl ?_);refine bE 4 #[.int .i64 0,.int .i64 0] 140 ?_;intro gb295 hg w20 hbox hb;have BK295:=mA hbox;have GW295:=gbpB HB hg;have GE295:=gbpB HB hg;replace HB:=spB HB hb;clear hb hbox hg;obtain ⟨hcz21_0,hcz21_1,hfz21_0,hfz21_1⟩:=box2 BK295.out)|(go_at_call 74;(with_reducible refine (impl_in.calls A5.out).mono ?_);rintro e w' ⟨rfl,⟨nd,rfl⟩⟩;(try first|exact ⟨rfl,_,World.drewN_drewN _ _ _⟩|exact ⟨rfl,_,Eq.trans (World.drewN_drewN _ _ _) (congrArg (World.drewN _) (Nat.add_assoc _ _ _))⟩))|(go_at_call 74;(with_reducible refine (impl_in.calls A7.out).mono ?_);rintro e w' ⟨rfl,⟨nd,rfl⟩⟩;(try first|exact ⟨rfl,_,World.drewN_drewN _ _ _⟩|exact ⟨rfl,_,Eq.trans (World.drewN_drewN _ _ _) (congrArg (World.drewN _) (Nat.add_assoc _ _ _))⟩)))
        repeat (go_quiet (first|((with_reducible refine gT 4 rfl ?_);refine bE 4 #[.int .i64 0,.int .i64 0] 140 ?_;intro gb295 hg w20 hbox hb;have BK295:=mA hbox;have GW295:=gbpB HB hg;have GE295:=gbpB HB hg;replace HB:=spB HB hb;clear hb hbox hg;obtain ⟨hcz21_0,hcz21_1,hfz21_0,hfz21_1⟩:=box2 BK295.out)|(go_at_call 74;(with_reducible refine (impl_in.calls A5.out).mono ?_);rintro e w' ⟨rfl,⟨nd,rfl⟩⟩;(try first|exact ⟨rfl,_,World.drewN_drewN _ _ _⟩|exact ⟨rfl,_,Eq.trans (World.drewN_drewN _ _ _) (congrArg (World.drewN _) (Nat.add_assoc _ _ _))⟩))|(go_at_call 74;(with_reducible refine (impl_in.calls A7.out).mono ?_);rintro e w' ⟨rfl,⟨nd,rfl⟩⟩;(try first|exact ⟨rfl,_,World.drewN_drewN _ _ _⟩|exact ⟨rfl,_,Eq.trans (World.drewN_drewN _ _ _) (congrArg (World.drewN _) (Nat.add_assoc _ _ _))⟩)));try go_wp2_with (first|((with_reducible refine gT 4 rfl ?_);refine bE 4 #[.int .i64 0,.int .i64 0] 140 ?_;intro gb295 hg w20 hbox hb;have BK295:=mA hbox;have GW295:=gbpB HB hg;have GE295:=gbpB HB hg;replace HB:=spB HB hb;clear hb hbox hg;obtain ⟨hcz21_0,hcz21_1,hfz21_0,hfz21_1⟩:=box2 BK295.out)|(go_at_call 74;(with_reducible refine (impl_in.calls A5.out).mono ?_);rintro e w' ⟨rfl,⟨nd,rfl⟩⟩;(try first|exact ⟨rfl,_,World.drewN_drewN _ _ _⟩|exact ⟨rfl,_,Eq.trans (World.drewN_drewN _ _ _) (congrArg (World.drewN _) (Nat.add_assoc _ _ _))⟩))|(go_at_call 74;(with_reducible refine (impl_in.calls A7.out).mono ?_);rintro e w' ⟨rfl,⟨nd,rfl⟩⟩;(try first|exact ⟨rfl,_,World.drewN_drewN _ _ _⟩|exact ⟨rfl,_,Eq.trans (World.drewN_drewN _ _ _) (congrArg (World.drewN _) (Nat.add_assoc _ _ _))⟩))))
        go_ret
        exact rZ (pS HB.out)
      ·replace c6:=Bool.eq_false_iff.mpr c6;subst c6
       rw [if_neg nFT] at H
       obtain rfl:=Option.some.inj H;have p294:0≤(x7_1:Int):=of_decide_eq_true bA;have q294:x7_1<(l0.length:Int):=of_decide_eq_true bA;obtain ⟨ad294,e294,hx294_0,hx294_1⟩:=at_T140 HR0.out x7_1 p294 q294;cases e294;replace hx294_0:=hC HB hx294_0;replace hx294_1:=hC HB hx294_1;replace p294:=eq_true p294;replace q294:=eq_true q294
       go_wp2_with (first|((with_reducible refine gT 4 rfl ?_);refine bE 4 #[.int .i64 0,.int .i64 0] 140 ?_;intro gb295 hg w22 hbox hb;have BK295:=mA hbox;have GW295:=gbpB HB hg;have GE295:=gbpB HB hg;replace HB:=spB HB hb;clear hb hbox hg;obtain ⟨hcz23_0,hcz23_1,hfz23_0,hfz23_1⟩:=box2 BK295.out)|(go_at_call 74;(with_reducible refine (impl_in.calls A5.out).mono ?_);rintro e w' ⟨rfl,⟨nd,rfl⟩⟩;(try first|exact ⟨rfl,_,World.drewN_drewN _ _ _⟩|exact ⟨rfl,_,Eq.trans (World.drewN_drewN _ _ _) (congrArg (World.drewN _) (Nat.add_assoc _ _ _))⟩)))
       repeat (go_quiet (first|((with_reducible refine gT 4 rfl ?_);refine bE 4 #[.int .i64 0,.int .i64 0] 140 ?_;intro gb295 hg w22 hbox hb;have BK295:=mA hbox;have GW295:=gbpB HB hg;have GE295:=gbpB HB hg;replace HB:=spB HB hb;clear hb hbox hg;obtain ⟨hcz23_0,hcz23_1,hfz23_0,hfz23_1⟩:=box2 BK295.out)|(go_at_call 74;(with_reducible refine (impl_in.calls A5.out).mono ?_);rintro e w' ⟨rfl,⟨nd,rfl⟩⟩;(try first|exact ⟨rfl,_,World.drewN_drewN _ _ _⟩|exact ⟨rfl,_,Eq.trans (World.drewN_drewN _ _ _) (congrArg (World.drewN _) (Nat.add_assoc _ _ _))⟩)));try go_wp2_with (first|((with_reducible refine gT 4 rfl ?_);refine bE 4 #[.int .i64 0,.int .i64 0] 140 ?_;intro gb295 hg w22 hbox hb;have BK295:=mA hbox;have GW295:=gbpB HB hg;have GE295:=gbpB HB hg;replace HB:=spB HB hb;clear hb hbox hg;obtain ⟨hcz23_0,hcz23_1,hfz23_0,hfz23_1⟩:=box2 BK295.out)|(go_at_call 74;(with_reducible refine (impl_in.calls A5.out).mono ?_);rintro e w' ⟨rfl,⟨nd,rfl⟩⟩;(try first|exact ⟨rfl,_,World.drewN_drewN _ _ _⟩|exact ⟨rfl,_,Eq.trans (World.drewN_drewN _ _ _) (congrArg (World.drewN _) (Nat.add_assoc _ _ _))⟩))))
       go_ret
       exact rZ (pS HB.out)
     ·rw [if_neg c4] at H
      exact absurd H (by simp)
    ·rw [if_neg c3] at H
     exact absurd H (by simp)
   ·rw [if_neg c2] at H;have c2b0:decide (x7_1<(l0.length:Int))=false:=decide_eq_false c2;clear c2;obtain rfl:=Option.some.inj H
    go_wp2
    repeat (go_quiet (fail);try go_wp2)
    go_ret
    exact rZ (pB HB.out)
/-! ### impl_WordOk: function 19 -/
def impl_WordOk.f (k : Nat) (a0_0 a0_1 a0_2 a0_3 a0_4 a0_5 a0_6 a0_7 a0_8 a0_9 a0_10 a0_11 a0_12 a0_13 a0_14 a0_15 a0_16 a0_17 a0_18 a0_19 a0_20 a0_21 a0_22 a0_23 : Int) (l0_24 : List (S138)) (l0_25 : List (S140)) : Option (Bool) := (impl_in.f a0_0 1 15).bind fun t300 => (if t300 = true then ((impl_isPlace.f a0_1).bind fun t301 => (if t301 = true then ((impl_isPlace.f a0_2).bind fun t302 => (if t302 = true then ((impl_cmdOk.f k a0_6 a0_7 a0_8 a0_9 a0_10 a0_11 a0_12 a0_13 a0_14 a0_15).bind fun t303 => (if t303 = true then ((impl_BlkOk.f k l0_24).bind fun t304 => (if t304 = true then ((impl_lastOk.f k l0_25).bind fun t305 => (if t305 = true then ((impl_wordNumbers.f k a0_0 a0_1 a0_2 a0_3 a0_4 a0_5 a0_6 a0_7 a0_8 a0_9 a0_10 a0_11 a0_12 a0_13 a0_14 a0_15 a0_16 a0_17 a0_18 a0_19 a0_20 a0_21 a0_22 a0_23 l0_24 l0_25).bind fun t306 => ((impl_numbersOk.f k t306).bind fun t309 => (some t309))) else (some false))) else (some false))) else (some false))) else (some false))) else (some false))) else (some false))
set_option maxHeartbeats 8000000 in
set_option maxRecDepth 100000 in
theorem impl_WordOk.calls {k : Nat} {a0_0 a0_1 a0_2 a0_3 a0_4 a0_5 a0_6 a0_7 a0_8 a0_9 a0_10 a0_11 a0_12 a0_13 a0_14 a0_15 a0_16 a0_17 a0_18 a0_19 a0_20 a0_21 a0_22 a0_23 : Int} {A0_24 : Option Addr} {c0_24 : Nat} {l0_24 : List (S138)} {A0_25 : Option Addr} {c0_25 : Nat} {l0_25 : List (S140)} {r : Bool} {w : World} (hr0_24 : Kd.C k138 w A0_24 l0_24.length l0_24) (hc0_24 : l0_24.length ≤ c0_24) (hr0_25 : Kd.C k140 w A0_25 l0_25.length l0_25) (hc0_25 : l0_25.length ≤ c0_25) (h : impl_WordOk.f k a0_0 a0_1 a0_2 a0_3 a0_4 a0_5 a0_6 a0_7 a0_8 a0_9 a0_10 a0_11 a0_12 a0_13 a0_14 a0_15 a0_16 a0_17 a0_18 a0_19 a0_20 a0_21 a0_22 a0_23 l0_24 l0_25 = some r) :
  Calls Try.prog 19 #[.agg #[.int .i64 a0_0,.int .i64 a0_1,.int .i64 a0_2,.int .i64 a0_3,.int .i64 a0_4,.int .i64 a0_5,.int .i64 a0_6,.int .i64 a0_7,.int .i64 a0_8,.int .i64 a0_9,.int .i64 a0_10,.int .i64 a0_11,.int .i64 a0_12,.int .i64 a0_13,.int .i64 a0_14,.int .i64 a0_15,.int .i64 a0_16,.int .i64 a0_17,.int .i64 a0_18,.int .i64 a0_19,.int .i64 a0_20,.int .i64 a0_21,.int .i64 a0_22,.int .i64 a0_23,.slice A0_24 l0_24.length c0_24,.slice A0_25 l0_25.length c0_25]] w fun e w'=>e=.returned (.bool r)∧Below w.heap.size w w':=by
 have hu28:=Try.underlying28;have hu24:=Try.underlying24;have HR0_24:=mA hr0_24;have HC0_24:=mA hc0_24;clear hr0_24 hc0_24;have HR0_25:=mA hr0_25;have HC0_25:=mA hc0_25;clear hr0_25 hc0_25;have HB:=mA (Below.refl w.heap.size w);have H:((impl_in.f a0_0 1 15).bind fun t300=>(if t300=true then ((impl_isPlace.f a0_1).bind fun t301=>(if t301=true then ((impl_isPlace.f a0_2).bind fun t302=>(if t302=true then ((impl_cmdOk.f k a0_6 a0_7 a0_8 a0_9 a0_10 a0_11 a0_12 a0_13 a0_14 a0_15).bind fun t303=>(if t303=true then ((impl_BlkOk.f k l0_24).bind fun t304=>(if t304=true then ((impl_lastOk.f k l0_25).bind fun t305=>(if t305=true then ((impl_wordNumbers.f k a0_0 a0_1 a0_2 a0_3 a0_4 a0_5 a0_6 a0_7 a0_8 a0_9 a0_10 a0_11 a0_12 a0_13 a0_14 a0_15 a0_16 a0_17 a0_18 a0_19 a0_20 a0_21 a0_22 a0_23 l0_24 l0_25).bind fun t306=>((impl_numbersOk.f k t306).bind fun t309=>(some t309))) else (some false))) else (some false))) else (some false))) else (some false))) else (some false))) else (some false)))=some r:=h;clear h;obtain ⟨t300,A2,H⟩:=bI H;(try dsimp only at H)
 by_cases c3:t300=true
 ·subst c3;rw [if_pos rfl] at H;obtain ⟨t301,A4,H⟩:=bI H;(try dsimp only at H)
  by_cases c5:t301=true
  ·subst c5;rw [if_pos rfl] at H;obtain ⟨t302,A6,H⟩:=bI H;(try dsimp only at H)
   by_cases c7:t302=true
   ·subst c7;rw [if_pos rfl] at H;obtain ⟨t303,A8,H⟩:=bI H;(try dsimp only at H)
    by_cases c9:t303=true
    ·subst c9;rw [if_pos rfl] at H;obtain ⟨t304,A10,H⟩:=bI H;(try dsimp only at H)
     by_cases c11:t304=true
     ·subst c11;rw [if_pos rfl] at H;obtain ⟨t305,A12,H⟩:=bI H;(try dsimp only at H)
      by_cases c13:t305=true
      ·subst c13;rw [if_pos rfl] at H;obtain ⟨t306,A14,H⟩:=bI H;(try dsimp only at H);obtain ⟨t309,A15,H⟩:=bI H;(try dsimp only at H);obtain rfl:=Option.some.inj H
       go_enter Try.func19,Try.ntmps19
       go_wp2_with (first|((with_reducible refine gLg rfl (by assumption) ?_);refine ldV ?_)|((with_reducible refine gSt rfl (by assumption) ?_);refine stV ?_)|((with_reducible refine gT 1 rfl ?_);refine bX 1 ?_;intro gb299 hg w16 hbox hb;have BK299:=mA hbox;have GW299:=gbpB HB hg;have GE299:=gbpB HB hg;replace HB:=spB HB hb;clear hb hbox hg;have hcz17_0:=fun i_=>blk_cell BK299.out i_;have hfz17_0:=fun i_=>blk_frozen BK299.out i_)|((with_reducible refine gT 5 rfl ?_);refine gC (some 5) Try.func74 (impl_in.calls A2.out) ?_;rintro e w' ⟨rfl,⟨nd,rfl⟩⟩;refine ⟨_,rfl,?_⟩)|(go_at_call 75;(with_reducible refine (impl_isPlace.calls A4.out).mono ?_);rintro e w' ⟨rfl,⟨nd,rfl⟩⟩)|(go_at_call 75;(with_reducible refine (impl_isPlace.calls A6.out).mono ?_);rintro e w' ⟨rfl,⟨nd,rfl⟩⟩)|(go_at_call 76;(with_reducible refine (impl_cmdOk.calls A8.out).mono ?_);rintro e w18 ⟨rfl,hb⟩;replace BK299:=bK BK299 hb;replace HB:=spS HB hb;(try clear hb);have hcz19_0:=fun i_=>blk_cell BK299.out i_;have hfz19_0:=fun i_=>blk_frozen BK299.out i_)|(go_at_call 77;(with_reducible refine (impl_BlkOk.calls ?s1 ?s2 A10.out).mono ?_);(case s1=>exact cB HR0_24 HB);(case s2=>exact HC0_24.out);rintro e w20 ⟨rfl,hb⟩;replace BK299:=bK BK299 hb;replace HB:=spS HB hb;(try clear hb);have hcz21_0:=fun i_=>blk_cell BK299.out i_;have hfz21_0:=fun i_=>blk_frozen BK299.out i_)|(go_at_call 78;(with_reducible refine (impl_lastOk.calls ?s1 ?s2 A12.out).mono ?_);(case s1=>exact cB HR0_25 HB);(case s2=>exact HC0_25.out);rintro e w22 ⟨rfl,hb⟩;replace BK299:=bK BK299 hb;replace HB:=spS HB hb;(try clear hb);have hcz23_0:=fun i_=>blk_cell BK299.out i_;have hfz23_0:=fun i_=>blk_frozen BK299.out i_)|(go_at_call 62;(with_reducible refine (impl_wordNumbers.calls ?s1 ?s2 ?s3 ?s4 A14.out).mono ?_);(case s1=>exact cB HR0_24 HB);(case s2=>exact HC0_24.out);(case s3=>exact cB HR0_25 HB);(case s4=>exact HC0_25.out);rintro e w24 ⟨v307,rfl,ho0,hb⟩;have HO308:=mA (Kd.R_lower ho0 (bpS HB));replace BK299:=bK BK299 hb;replace HB:=spS HB hb;(try clear hb);(try clear ho0);obtain ⟨Ao25,co25,rfl⟩:=Kd.R_slice HO308.out)|(go_at_call 79;(with_reducible refine (impl_numbersOk.calls ?s1 ?s2 A15.out).mono ?_);(case s1=>exact cR HO308);(case s2=>exact cL HO308);rintro e w' ⟨rfl,⟨nd,rfl⟩⟩))
       go_ret
       exact rZ (pS HB.out)
      ·replace c13:=Bool.eq_false_iff.mpr c13;subst c13
       rw [if_neg nFT] at H
       obtain rfl:=Option.some.inj H
       go_enter Try.func19,Try.ntmps19
       go_wp2_with (first|((with_reducible refine gLg rfl (by assumption) ?_);refine ldV ?_)|((with_reducible refine gSt rfl (by assumption) ?_);refine stV ?_)|((with_reducible refine gT 1 rfl ?_);refine bX 1 ?_;intro gb299 hg w26 hbox hb;have BK299:=mA hbox;have GW299:=gbpB HB hg;have GE299:=gbpB HB hg;replace HB:=spB HB hb;clear hb hbox hg;have hcz27_0:=fun i_=>blk_cell BK299.out i_;have hfz27_0:=fun i_=>blk_frozen BK299.out i_)|((with_reducible refine gT 5 rfl ?_);refine gC (some 5) Try.func74 (impl_in.calls A2.out) ?_;rintro e w' ⟨rfl,⟨nd,rfl⟩⟩;refine ⟨_,rfl,?_⟩)|(go_at_call 75;(with_reducible refine (impl_isPlace.calls A4.out).mono ?_);rintro e w' ⟨rfl,⟨nd,rfl⟩⟩)|(go_at_call 75;(with_reducible refine (impl_isPlace.calls A6.out).mono ?_);rintro e w' ⟨rfl,⟨nd,rfl⟩⟩)|(go_at_call 76;(with_reducible refine (impl_cmdOk.calls A8.out).mono ?_);rintro e w28 ⟨rfl,hb⟩;replace BK299:=bK BK299 hb;replace HB:=spS HB hb;(try clear hb);have hcz29_0:=fun i_=>blk_cell BK299.out i_;have hfz29_0:=fun i_=>blk_frozen BK299.out i_)|(go_at_call 77;(with_reducible refine (impl_BlkOk.calls ?s1 ?s2 A10.out).mono ?_);(case s1=>exact cB HR0_24 HB);(case s2=>exact HC0_24.out);rintro e w30 ⟨rfl,hb⟩;replace BK299:=bK BK299 hb;replace HB:=spS HB hb;(try clear hb);have hcz31_0:=fun i_=>blk_cell BK299.out i_;have hfz31_0:=fun i_=>blk_frozen BK299.out i_)|(go_at_call 78;(with_reducible refine (impl_lastOk.calls ?s1 ?s2 A12.out).mono ?_);(case s1=>exact cB HR0_25 HB);(case s2=>exact HC0_25.out);rintro e w32 ⟨rfl,hb⟩;replace BK299:=bK BK299 hb;replace HB:=spS HB hb;(try clear hb)))
       go_ret
       exact rZ (pS HB.out)
     ·replace c11:=Bool.eq_false_iff.mpr c11;subst c11
      rw [if_neg nFT] at H
      obtain rfl:=Option.some.inj H
      go_enter Try.func19,Try.ntmps19
      go_wp2_with (first|((with_reducible refine gLg rfl (by assumption) ?_);refine ldV ?_)|((with_reducible refine gSt rfl (by assumption) ?_);refine stV ?_)|((with_reducible refine gT 1 rfl ?_);refine bX 1 ?_;intro gb299 hg w33 hbox hb;have BK299:=mA hbox;have GW299:=gbpB HB hg;have GE299:=gbpB HB hg;replace HB:=spB HB hb;clear hb hbox hg;have hcz34_0:=fun i_=>blk_cell BK299.out i_;have hfz34_0:=fun i_=>blk_frozen BK299.out i_)|((with_reducible refine gT 5 rfl ?_);refine gC (some 5) Try.func74 (impl_in.calls A2.out) ?_;rintro e w' ⟨rfl,⟨nd,rfl⟩⟩;refine ⟨_,rfl,?_⟩)|(go_at_call 75;(with_reducible refine (impl_isPlace.calls A4.out).mono ?_);rintro e w' ⟨rfl,⟨nd,rfl⟩⟩)|(go_at_call 75;(with_reducible refine (impl_isPlace.calls A6.out).mono ?_);rintro e w' ⟨rfl,⟨nd,rfl⟩⟩)|(go_at_call 76;(with_reducible refine (impl_cmdOk.calls A8.out).mono ?_);rintro e w35 ⟨rfl,hb⟩;replace BK299:=bK BK299 hb;replace HB:=spS HB hb;(try clear hb);have hcz36_0:=fun i_=>blk_cell BK299.out i_;have hfz36_0:=fun i_=>blk_frozen BK299.out i_)|(go_at_call 77;(with_reducible refine (impl_BlkOk.calls ?s1 ?s2 A10.out).mono ?_);(case s1=>exact cB HR0_24 HB);(case s2=>exact HC0_24.out);rintro e w37 ⟨rfl,hb⟩;replace BK299:=bK BK299 hb;replace HB:=spS HB hb;(try clear hb)))
      go_ret
      exact rZ (pS HB.out)
    ·replace c9:=Bool.eq_false_iff.mpr c9;subst c9
     rw [if_neg nFT] at H
     obtain rfl:=Option.some.inj H
     go_enter Try.func19,Try.ntmps19
     go_wp2_with (first|((with_reducible refine gLg rfl (by assumption) ?_);refine ldV ?_)|((with_reducible refine gSt rfl (by assumption) ?_);refine stV ?_)|((with_reducible refine gT 1 rfl ?_);refine bX 1 ?_;intro gb299 hg w38 hbox hb;have BK299:=mA hbox;have GW299:=gbpB HB hg;have GE299:=gbpB HB hg;replace HB:=spB HB hb;clear hb hbox hg;have hcz39_0:=fun i_=>blk_cell BK299.out i_;have hfz39_0:=fun i_=>blk_frozen BK299.out i_)|((with_reducible refine gT 5 rfl ?_);refine gC (some 5) Try.func74 (impl_in.calls A2.out) ?_;rintro e w' ⟨rfl,⟨nd,rfl⟩⟩;refine ⟨_,rfl,?_⟩)|(go_at_call 75;(with_reducible refine (impl_isPlace.calls A4.out).mono ?_);rintro e w' ⟨rfl,⟨nd,rfl⟩⟩)|(go_at_call 75;(with_reducible refine (impl_isPlace.calls A6.out).mono ?_);rintro e w' ⟨rfl,⟨nd,rfl⟩⟩)|(go_at_call 76;(with_reducible refine (impl_cmdOk.calls A8.out).mono ?_);rintro e w40 ⟨rfl,hb⟩;replace BK299:=bK BK299 hb;replace HB:=spS HB hb;(try clear hb)))
     go_ret
     exact rZ (pS HB.out)
   ·replace c7:=Bool.eq_false_iff.mpr c7;subst c7
    rw [if_neg nFT] at H
    obtain rfl:=Option.some.inj H
    go_enter Try.func19,Try.ntmps19
    go_wp2_with (first|((with_reducible refine gLg rfl (by assumption) ?_);refine ldV ?_)|((with_reducible refine gSt rfl (by assumption) ?_);refine stV ?_)|((with_reducible refine gT 1 rfl ?_);refine bX 1 ?_;intro gb299 hg w41 hbox hb;have BK299:=mA hbox;have GW299:=gbpB HB hg;have GE299:=gbpB HB hg;replace HB:=spB HB hb;clear hb hbox hg;have hcz42_0:=fun i_=>blk_cell BK299.out i_;have hfz42_0:=fun i_=>blk_frozen BK299.out i_)|((with_reducible refine gT 5 rfl ?_);refine gC (some 5) Try.func74 (impl_in.calls A2.out) ?_;rintro e w' ⟨rfl,⟨nd,rfl⟩⟩;refine ⟨_,rfl,?_⟩)|(go_at_call 75;(with_reducible refine (impl_isPlace.calls A4.out).mono ?_);rintro e w' ⟨rfl,⟨nd,rfl⟩⟩)|(go_at_call 75;(with_reducible refine (impl_isPlace.calls A6.out).mono ?_);rintro e w' ⟨rfl,⟨nd,rfl⟩⟩))
    go_ret
    exact rZ (pS HB.out)
  ·replace c5:=Bool.eq_false_iff.mpr c5;subst c5
   rw [if_neg nFT] at H
   obtain rfl:=Option.some.inj H
   go_enter Try.func19,Try.ntmps19
   go_wp2_with (first|((with_reducible refine gLg rfl (by assumption) ?_);refine ldV ?_)|((with_reducible refine gSt rfl (by assumption) ?_);refine stV ?_)|((with_reducible refine gT 1 rfl ?_);refine bX 1 ?_;intro gb299 hg w43 hbox hb;have BK299:=mA hbox;have GW299:=gbpB HB hg;have GE299:=gbpB HB hg;replace HB:=spB HB hb;clear hb hbox hg;have hcz44_0:=fun i_=>blk_cell BK299.out i_;have hfz44_0:=fun i_=>blk_frozen BK299.out i_)|((with_reducible refine gT 5 rfl ?_);refine gC (some 5) Try.func74 (impl_in.calls A2.out) ?_;rintro e w' ⟨rfl,⟨nd,rfl⟩⟩;refine ⟨_,rfl,?_⟩)|(go_at_call 75;(with_reducible refine (impl_isPlace.calls A4.out).mono ?_);rintro e w' ⟨rfl,⟨nd,rfl⟩⟩))
   go_ret
   exact rZ (pS HB.out)
 ·replace c3:=Bool.eq_false_iff.mpr c3;subst c3
  rw [if_neg nFT] at H
  obtain rfl:=Option.some.inj H
  go_enter Try.func19,Try.ntmps19
  go_wp2_with (first|((with_reducible refine gLg rfl (by assumption) ?_);refine ldV ?_)|((with_reducible refine gSt rfl (by assumption) ?_);refine stV ?_)|((with_reducible refine gT 1 rfl ?_);refine bX 1 ?_;intro gb299 hg w45 hbox hb;have BK299:=mA hbox;have GW299:=gbpB HB hg;have GE299:=gbpB HB hg;replace HB:=spB HB hb;clear hb hbox hg;have hcz46_0:=fun i_=>blk_cell BK299.out i_;have hfz46_0:=fun i_=>blk_frozen BK299.out i_)|((with_reducible refine gT 5 rfl ?_);refine gC (some 5) Try.func74 (impl_in.calls A2.out) ?_;rintro e w' ⟨rfl,⟨nd,rfl⟩⟩;refine ⟨_,rfl,?_⟩))
  go_ret
  exact rZ (pS HB.out)
/-! ### impl_isVoter: function 94 -/
def impl_isVoter.f (a0 : Int) : Option (Bool) := (impl_in.f a0 0 2).bind fun t310 => (some t310)
set_option maxHeartbeats 8000000 in
set_option maxRecDepth 100000 in
theorem impl_isVoter.calls {a0 : Int} {r : Bool} {w : World} (h : impl_isVoter.f a0 = some r) :
  Calls Try.prog 94 #[.int .i64 a0] w fun e w'=>e=.returned (.bool r)∧Drawn0 w w':=by
 have H:((impl_in.f a0 0 2).bind fun t310=>(some t310))=some r:=h;clear h;obtain ⟨t310,A2,H⟩:=bI H;(try dsimp only at H);obtain rfl:=Option.some.inj H
 go_enter Try.func94,Try.ntmps94
 go_wp2_with (first|((with_reducible refine gT 4 rfl ?_);refine gC (some 4) Try.func74 (impl_in.calls A2.out) ?_;rintro e w' ⟨rfl,⟨nd,rfl⟩⟩;refine ⟨_,rfl,?_⟩))
 go_ret
 exact ⟨by first|rfl|(simp;done)|(simp [*];done),by repeat (first|exact Drawn0.refl _|apply Drawn0.step)⟩
/-! ### impl_copied_SynPaper: function 107 -/
def impl_copied_SynPaper.f (l0 : List S64) : Option (List S64) := if l0.length ≤ 2932031007402 then some l0 else none
set_option maxHeartbeats 8000000 in
set_option maxRecDepth 100000 in
theorem impl_copied_SynPaper.calls (A0 : Option Addr) (c0 : Nat) (l0 : List S64) (r : List S64) (w : World) (hr0 : Kd.C k64 w A0 l0.length l0) (hc0 : l0.length ≤ c0) (h : impl_copied_SynPaper.f l0 = some r) :
    Calls Try.prog 107 #[.slice A0 l0.length c0] w fun e w' => ∃ v0_ : Value, e = .returned (v0_) ∧ Kd.R k64 64 w' w.heap.size (fun _ => True) v0_ r ∧ Below w.heap.size w w' := by
  unfold impl_copied_SynPaper.f at h
  by_cases hz : l0.length ≤ 2932031007402
  · rw [if_pos hz] at h
    obtain rfl := Option.some.inj h
    have HR := Aside0.mk hr0
    have HZ := Aside0.mk hz
    clear hr0 hc0 h hz
    by_cases h0 : l0.length = 0
    · obtain rfl := List.eq_nil_of_length_eq_zero h0
      clear h0
      go_enter Try.func107, Try.ntmps107
      go_wp2
      go_ret
      exact ⟨_, rfl, Kd.R_nil _ _ _ _ _, Below.refl _ _⟩
    · have c0b : ((l0.length : Int) == 0) = false := beq_eq_false_iff_ne.mpr (by omega)
      have c0c : ((l0.length : Int) != 0) = true := bne_iff_ne.mpr (by omega)
      have c0d : ¬ (l0 = []) := fun h_ => h0 (by rw [h_]; rfl)
      clear h0
      have HB := Aside0.mk (Below.refl w.heap.size w)
      go_enter Try.func107, Try.ntmps107
      go_wp2_with (first
        | (refine Kd.R_make k64 _ 64 rfl (N := 9) rfl 50 _ _ rfl (l0.length : Int) rfl rfl Try.underlying50 (.agg #[(.int .i64 0), (.int .i64 0), (.int .i64 0), (.int .i64 0), (.int .i64 0), (.int .i64 0), (.int .i64 0), (.int .i64 0), (.int .i64 0), (.int .i64 0), (.int .i64 0), (.int .i64 0)]) 96 info64 rfl (by decide) (by omega) z64 (ok := fun _ => True) (okp := fun _ => True) (k64_mkM _ _ _ z64) (fun _ hk => hk) trivial (Int.natCast_nonneg _) (by have hz := HZ.out; rw [Int.toNat_natCast]; omega) HB.out (Nat.le_refl _) ?_
           intro v1 w1 hR1 hB1 hg1 hn1
           rw [Int.toNat_natCast] at hR1
           have HR1 := Aside0.mk hR1
           have HB1 := Aside0.mk hB1
           have HC1 := Aside0.mk (Kd.C_below HR.out (below_of_grown hg1))
           clear hR1 hB1 hg1 hn1)
        | (refine R_copy k64 flat64 w.heap.size rfl _ _ 50 50 64 rfl Try.underlying50 (by rw [show (Try.prog.info? 64).map (·.size) = ((Try.prog.info? 64).map (fun i => (i.zero, i.size, i.bytes))).map (fun x => x.2.1) from by rw [Option.map_map]; rfl, info64]; rfl) _ _ _ _ _ l0 (fun _ => True) rfl rfl rfl (by simp) HR1.out HC1.out HB1.out ?_
           intro w2 hR2 hB2 _
           have HR2 := Aside0.mk hR2
           have HB2 := Aside0.mk hB2
           clear hR2 hB2))
      go_ret
      exact ⟨_, rfl, HR2.out, HB2.out⟩
  · rw [if_neg hz] at h; cases h
end Go.Proofs.Ytoieojmfkkidnaa.P
