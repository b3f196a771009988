-- printed by pprint.py (this session's program over the kit's printer) out of the translation. Lean checks it.
import Derived.Test.YthjocaegapchaaaPx0
import Derived.Test.YthjocaegapchaaaPx2
import Derived.Test.YthjocaegapchaaaPx3
namespace Go.Proofs.Ythjocaegapchaaa.P
open Go.RowKit Go.Proofs.YthjocaegapchaaaX Go.Proofs.YthjocaegapchaaaW.PrintWords Go.Proofs.YthjocaegapchaaaW.PrintLast Go.Proofs.YthjocaegapchaaaW.PrintMore
attribute [local go_sem] max2_int min2_int max_two min_two max_three min_three max_four min_four   -- for this text's walks alone
set_option linter.unusedVariables false
set_option linter.unusedSimpArgs false

/-! ### spec_l2Put: function 60 -/
def spec_l2Put.f (a0 : Int) (a1 : ByteArray) : Option (Bool × Int × ByteArray) := some (false, a0, a1)
set_option maxHeartbeats 8000000 in
set_option maxRecDepth 100000 in
theorem spec_l2Put.calls (a0 : Int) (a1 : ByteArray) (r1 : Bool) (r2 : Int) (r3 : ByteArray) (w : World) (h : spec_l2Put.f a0 a1 = some (r1, r2, r3)) :
  Calls Try.prog 60 #[.int .i64 a0,.string a1] w fun e w'=>e=.returned (.agg #[.bool r1,.int .i64 r2,.string r3])∧Below w.heap.size w w':=by
 have hu61:=Try.underlying61;have HB:=mA (Below.refl w.heap.size w);have H:(some (false,a0,a1))=some (r1,r2,r3):=h;clear h;simp only [Option.some.injEq,Prod.mk.injEq] at H;obtain ⟨rfl,rfl,rfl⟩:=H
 go_enter Try.func60,Try.ntmps60
 go_wp2_with (first|(refine bE 4 #[.bool false,.int .i64 0,.string (⟨#[]⟩:ByteArray)] 61 ?_;intro gb328 hg w3 hbox hb;have BK328:=mA hbox;have GW328:=gbpB HB hg;have GE328:=gbpB HB hg;replace HB:=spB HB hb;clear hb hbox hg;obtain ⟨hcz4_0,hcz4_1,hcz4_2,hfz4_0,hfz4_1,hfz4_2⟩:=box3 BK328.out))
 refine bodyPost_ret (results_cell_row rfl _ _ gb328 61 #[.bool false,.int .i64 a0,.string a1] (0,0) _ rfl (pP BK328) Try.underlying61 rfl aK) rfl ?_
 exact ⟨by first|rfl|(simp [errW_none,errW_some]<;>rfl)|(simp [*,errW_none,errW_some]<;>rfl),pS HB.out⟩

/-! ### spec_l2Apply: function 55 -/
def spec_l2Apply.l0 : Nat → List (S75) → List (S61) → Int → Option ((List (S61)))
 | 0,_,_,_=>none
 | k+1,x0,x3,x4=>if x4<(x0.length:Int) then (if 0≤x4 then ((spec_l2Home.f ((rd_T75 x0 x4).f0)).bind fun t333=>((spec_l2Put.f t333 ((rd_T75 x0 x4).f1)).bind fun bt335=>(if x3.length<4398046511104 then (spec_l2Apply.l0 k x0 (x3 ++ [(⟨bt335.1,bt335.2.1,bt335.2.2⟩:S61)]) (wrap64 (x4+1))) else (none)))) else (none)) else ((spec_l2Put.f 0 (⟨#[]⟩:ByteArray)).bind fun bt341=>((some (([(⟨true,0,(⟨#[]⟩:ByteArray)⟩:S61),(⟨bt341.1,bt341.2.1,bt341.2.2⟩:S61),(⟨true,0,(⟨#[]⟩:ByteArray)⟩:S61)]:List (S61)):List (S61))).bind fun y344=>(if x3.length+y344.length<4398046511104 then (some (x3 ++ y344)) else (none))))
def spec_l2Apply.f (k : Nat) (l0 : List (S75)) : Option ((List (S61))) := spec_l2Apply.l0 k l0 (([] : List (S61))) 0
theorem spec_l2Apply.mono_l : ∀ k, (∀ y0 y1 y2, LeO (spec_l2Apply.l0 k y0 y1 y2) (spec_l2Apply.l0 (k + 1) y0 y1 y2))
 | 0=>fun _ _ _ r h=>by simp [spec_l2Apply.l0] at h
 | k+1=>by
  have ih0:=spec_l2Apply.mono_l k
  ·intro y0 y1 y2
   unfold spec_l2Apply.l0
   repeat' first
   | (with_reducible first|exact ih0 _ _ _|exact LeO.refl _|exact LeO.none _|refine LeO.ite ?_ ?_|refine LeO.bind ?_ (fun _=>?_))|exact ih0 _ _ _|exact LeO.none _|refine LeO.ite ?_ ?_|refine LeO.bind ?_ (fun _=>?_)
theorem spec_l2Apply.mono : ∀ a0 k, LeO (spec_l2Apply.f k a0) (spec_l2Apply.f (k + 1) a0) := by
 intro a0 k;have ih0:=spec_l2Apply.mono_l k
 unfold spec_l2Apply.f
 repeat' first
   | (with_reducible first|exact ih0 _ _ _|exact LeO.refl _|exact LeO.none _|refine LeO.ite ?_ ?_|refine LeO.bind ?_ (fun _=>?_))|exact ih0 _ _ _|exact LeO.none _|refine LeO.ite ?_ ?_|refine LeO.bind ?_ (fun _=>?_)
def spec_l2Apply.T5 : Bool × List (List Nat × List Nat) := (true, [([], []), ([], []), ([], []), ([1, 2], [1, 2]), ([3], [3]), ([4], [4]), ([5], [5]), ([], []), ([], []), ([7, 8], [7, 8]), ([9], [9]), ([10], [10]), ([6, 11, 6], [6, 11]), ([12], [12]), ([0, 13, 12], [0, 13]), ([14, 14, 0, 1, 2, 3, 4, 5, 6, 7, 8, 9, 10, 11, 12, 13, 14], [0, 14])])
def spec_l2Apply.B5 : List Nat := [0, 0, 0, 6, 14, 30, 62, 0, 0, 384, 896, 1920, 4094, 8190, 16383, 32767]
theorem spec_l2Apply.tab5 : rtab .any (opsOf Try.f55 5) = spec_l2Apply.T5 := by kernel_rfl
theorem spec_l2Apply.bits5 : waitsOk spec_l2Apply.T5.2 spec_l2Apply.B5 = true := by kernel_rfl
set_option maxHeartbeats 8000000 in
set_option maxRecDepth 100000 in
theorem spec_l2Apply.calls (k : Nat) (A0 : Option Addr) (c0 : Nat) (l0 : List (S75)) (r : List (S61)) (w : World) (hr0 : Kd.C k75 w A0 l0.length l0) (hc0 : l0.length ≤ c0) (h : spec_l2Apply.f k l0 = some r) :
  Calls Try.prog 55 #[.slice A0 l0.length c0] w fun e w'=>∃ v0_:Value,e=.returned (v0_)∧Kd.R k61 61 w' w.heap.size (fun _=>True) v0_ r∧Below w.heap.size w w':=by
 have hu61:=Try.underlying61;have HR0:=mA hr0;have HC0:=mA hc0;clear hr0 hc0;have HB:=mA (Below.refl w.heap.size w);have H:(spec_l2Apply.l0 k l0 (([]:List (S61))) 0)=some r:=h;clear h;obtain ⟨y329,hy329⟩:∃ y_:List (S61),y_=(([]:List (S61))):=⟨_,rfl⟩
 replace H:(spec_l2Apply.l0 k l0 y329 0)=some r:=qH hy329 H
 have Ny329:=mA hy329;clear hy329;have H':=mA H;clear H
 go_enter Try.func55,Try.ntmps55
 go_wp2_with (first|((with_reducible refine gate_dst (N:=5) rfl ?_);refine Kd.R_lit k61 _ 61 ?hg (N:=5) ?hd (xs:=([]:List (S61))) (inner:=[]) (ok:=fun _=>True) (okp:=fun _=>True) ?hr ?hp (fun _ hk=>hk) trivial (Below.refl _ _) (Nat.le_refl _) (by simp) ?_;(case hd=>rfl);(case hg=>rfl);(case hr=>first|(go_simp;done)|(go_simp;rfl));(case hp=>exact (Reps.none _ _));intro v330 w2 ho3 hb hg_ hnew_;clear hg_ hnew_;(first|rw [← Ny329.out] at ho3|(simp only [Int.reduceToNat] at ho3;rw [← Ny329.out] at ho3));have HO331:=mA (Kd.R_lower ho3 (bpB HB));replace HB:=spB HB hb;clear hb ho3))
 go_loopg [3,4] k (fun kq v3 v4 w'=>∃ (x3_1:List (S61)) (x4_1:Int),v4=.int .i64 x4_1∧Aside0 (spec_l2Apply.l0 kq l0 x3_1 x4_1=some r)∧Aside0 (kq≤k)∧Aside0 (Kd.R k61 61 w' w.heap.size (fun _=>True) v3 x3_1)∧Aside0 (Below w.heap.size w w'))
 case atStart=>exact ⟨(y329),(0),bZ,H',⟨Nat.le_refl _⟩,⟨pR HO331.out⟩,⟨pB HB.out⟩⟩
 case round =>
  clear H'
  obtain ⟨x3_1,x4_1,rfl,HA,HK1,HO_3,HB⟩:=hrel
  cases gk with
  | zero=>exact absurd HA.out (by simp [spec_l2Apply.l0])
  | succ k1 =>
   have H:=HA.out;clear HA;simp only [spec_l2Apply.l0] at H
   by_cases c4:x4_1<(l0.length:Int)
   ·rw [if_pos c4] at H;have c4b0:decide (x4_1<(l0.length:Int))=true:=decide_eq_true c4;clear c4
    by_cases c5:0≤x4_1
    ·rw [if_pos c5] at H;have c5b0:decide (0≤x4_1)=true:=decide_eq_true c5;clear c5;obtain ⟨t333,A6,H⟩:=bI H;(try dsimp only at H);obtain ⟨⟨t335,t336,t337⟩,A7,H⟩:=bI H;(try dsimp only at H)
     by_cases c8:x3_1.length<4398046511104
     ·rw [if_pos c8] at H;have LMc8:=mA c8;clear c8;obtain ⟨y338,hy338⟩:∃ y_:List (S61),y_=(x3_1 ++ [(⟨t335,t336,t337⟩:S61)]):=⟨_,rfl⟩
      replace H:(spec_l2Apply.l0 k1 l0 y338 (wrap64 (x4_1+1)))=some r:=qH hy338 H
      have Ny338:=mA hy338;clear hy338;have H':=mA H;clear H
      try go_wp2
      replace HO_3:=rD HO_3;replace HB:=mA (below_drew1 HB.out);have p332:0≤(x4_1:Int):=of_decide_eq_true bA;have q332:x4_1<(l0.length:Int):=of_decide_eq_true bA;obtain ⟨ad332,e332,hx332_0,hx332_1⟩:=at_T75 HR0.out x4_1 p332 q332;have hw332_1:=hx332_1;have hw332_0:=hx332_0;cases e332;replace hx332_0:=hC HB hx332_0;replace hx332_1:=hC HB hx332_1;replace p332:=eq_true p332;replace q332:=eq_true q332;have p334:0≤(x4_1:Int):=of_decide_eq_true bA;have q334:x4_1<(l0.length:Int):=of_decide_eq_true bA;obtain ⟨ad334,e334,hx334_0,hx334_1⟩:=at_T75 HR0.out x4_1 p334 q334;have hw334_1:=hx334_1;have hw334_0:=hx334_0
      obtain rfl:ad332=ad334:=(by injection e334)
      replace hx334_0:=hC HB hx334_0;replace hx334_1:=hC HB hx334_1;replace p334:=eq_true p334;replace q334:=eq_true q334
      refine start_ (n:=16) (S:=fun w'=>w'.cell? (ad332.add ((x4_1).toNat * 2))=some (.int .i64 ((rd_T75 l0 x4_1).f0))∧w'.cell? ⟨(ad332.add ((x4_1).toNat * 2)).block,(ad332.add ((x4_1).toNat * 2)).off+1,none⟩=some (.string ((rd_T75 l0 x4_1).f1))∧w'.cell? (ad332.add ((x4_1).toNat * 2))=some (.int .i64 ((rd_T75 l0 x4_1).f0))∧w'.cell? ⟨(ad332.add ((x4_1).toNat * 2)).block,(ad332.add ((x4_1).toNat * 2)).off+1,none⟩=some (.string ((rd_T75 l0 x4_1).f1))) (ds:=[]) _ aK rfl rfl ⟨((HB.out.cell (World.block_lt_of_cell? w _ hw332_0)).trans hw332_0),((HB.out.cell (World.block_lt_of_cell? w _ hw332_1)).trans hw332_1),((HB.out.cell (World.block_lt_of_cell? w _ hw334_0)).trans hw334_0),((HB.out.cell (World.block_lt_of_cell? w _ hw334_1)).trans hw334_1)⟩ (fun hHeld=>?_);refine with_tabW spec_l2Apply.tab5 spec_l2Apply.bits5 (fun HT_ HW_=>?_)
      generalize wr.drew=w9 at HO_3 HB hx332_0 hx332_1 hx334_0 hx334_1 hHeld ⊢
      refine pu_ 0 (some 12) (aT HT_) ?_
      refine pu_ 1 (some 13) (aT HT_) ?_
      refine pu_ 2 (some 14) (aT HT_) ?_
      refine pu_ 3 (some 15) (aT HT_) ?_
      refine pu_ 4 (some 16) (aT HT_) ?_
      refine pu_ 7 (some 19) (aT HT_) ?_
      refine pu_ 8 (some 20) (aT HT_) ?_
      refine pu_ 9 (some 21) (aT HT_) ?_
      refine pu_ 10 (some 22) (aT HT_) ?_
      refine ta4_ 5 (some 17) (tT HT_ HW_) hHeld ?_
      refine ta4_ 11 (some 23) (tT HT_ HW_) hHeld ?_
      refine on_ 6 (some 18) (oT HT_) ?_;intro K hK
      refine gS Try.func47 #[.int .i64 ((rd_T75 l0 x4_1).f0)] ?_
      with_reducible refine (spec_l2Home.calls ((rd_T75 l0 x4_1).f0) t333 _ A6.out).mono ?_
      rintro e w' ⟨rfl,⟨nd,rfl⟩⟩;refine ⟨_,rfl,?_⟩;refine hK.out _ _ ⟨((HB.out.cell (World.block_lt_of_cell? w _ hw332_0)).trans hw332_0),((HB.out.cell (World.block_lt_of_cell? w _ hw332_1)).trans hw332_1),((HB.out.cell (World.block_lt_of_cell? w _ hw334_0)).trans hw334_0),((HB.out.cell (World.block_lt_of_cell? w _ hw334_1)).trans hw334_1)⟩ (fun hHeld=>?_);clear hK K;refine no_ (some 18) ?_
      refine on_ 12 (some 24) (oT HT_) ?_;intro K hK
      refine gS Try.func60 #[.int .i64 t333,.string ((rd_T75 l0 x4_1).f1)] ?_
      with_reducible refine (spec_l2Put.calls t333 ((rd_T75 l0 x4_1).f1) t335 t336 t337 _ A7.out).mono ?_
      rintro e w10 ⟨rfl,hb⟩;refine ⟨_,rfl,?_⟩;replace HO_3:=rB HO_3 hb;replace HB:=spB HB hb
      (try clear hb)
      refine hK.out _ _ ⟨((HB.out.cell (World.block_lt_of_cell? w _ hw332_0)).trans hw332_0),((HB.out.cell (World.block_lt_of_cell? w _ hw332_1)).trans hw332_1),((HB.out.cell (World.block_lt_of_cell? w _ hw334_0)).trans hw334_0),((HB.out.cell (World.block_lt_of_cell? w _ hw334_1)).trans hw334_1)⟩ (fun hHeld=>?_);clear hK K;refine no_ (some 24) ?_
      refine on_ 13 (some 25) (oT HT_) ?_;intro K hK
      refine value_ (w1:=?_) (v:=?_) (by rfl) rfl ?_ ?_
      rotate_left 2
      ·go_simp
       constructor
       ·rfl
       ·rfl
      refine hK.out _ _ ⟨(World.cell?_alloc_lt _ _ _ (World.block_lt_of_cell? _ _ (((HB.out.cell (World.block_lt_of_cell? w _ hw332_0)).trans hw332_0)))).trans (((HB.out.cell (World.block_lt_of_cell? w _ hw332_0)).trans hw332_0)),(World.cell?_alloc_lt _ _ _ (World.block_lt_of_cell? _ _ (((HB.out.cell (World.block_lt_of_cell? w _ hw332_1)).trans hw332_1)))).trans (((HB.out.cell (World.block_lt_of_cell? w _ hw332_1)).trans hw332_1)),(World.cell?_alloc_lt _ _ _ (World.block_lt_of_cell? _ _ (((HB.out.cell (World.block_lt_of_cell? w _ hw334_0)).trans hw334_0)))).trans (((HB.out.cell (World.block_lt_of_cell? w _ hw334_0)).trans hw334_0)),(World.cell?_alloc_lt _ _ _ (World.block_lt_of_cell? _ _ (((HB.out.cell (World.block_lt_of_cell? w _ hw334_1)).trans hw334_1)))).trans (((HB.out.cell (World.block_lt_of_cell? w _ hw334_1)).trans hw334_1))⟩ (fun hHeld=>?_);clear hK K;refine no_ (some 25) ?_
      refine on_ 14 (some 26) (oT HT_) ?_;intro K hK
      refine Kd.R_append_step k61 (w0:=w) w.heap.size (by rfl) (.tmp 12) (.tmp 25) 38 61 (.agg #[(.bool false),(.int .i64 0),(.string ⟨#[]⟩)]) 32 rfl Try.underlying38 info61 rfl aD (by omega) u3 x3_1 (⟨t335,t336,t337⟩:S61) [.bool t335,.int .i64 t336,.string t337] (fun _=>True) (fun _=>False) rfl rfl ?aP (fun _ hk=>hk.elim) ?aF ?aO ?aB ?aS ?aL ?_
      (case aP=>exact k61_mkM _ _ _ (⟨t335,t336,t337⟩:S61))
      (case aB=>exact (pB HB.out))
      (case aF=>exact (fun _ _=>trivial))
      (case aO=>exact (pR HO_3.out))
      (case aS=>exact (bpB HB))
      (case aL=>have:=LMc8.out;omega)
      intro v339 w11 ho hb hg hat;rw [← Ny338.out] at ho;have HO340:=mA ho;replace HB:=mA hb;clear HO_3;clear ho hb hg hat;refine hK.out _ _ ⟨((HB.out.cell (World.block_lt_of_cell? w _ hw332_0)).trans hw332_0),((HB.out.cell (World.block_lt_of_cell? w _ hw332_1)).trans hw332_1),((HB.out.cell (World.block_lt_of_cell? w _ hw334_0)).trans hw334_0),((HB.out.cell (World.block_lt_of_cell? w _ hw334_1)).trans hw334_1)⟩ (fun hHeld=>?_);clear hK K;refine no_ (some 26) ?_
      refine pu_ 15 (some 3) (aT HT_) ?_
      refine done_ (done_of HT_.out aK) ?_
      try go_wp2
      go_roundg k1
      case measure=>have:=HK1.out;omega
      case rel=>exact ⟨(y338),(wrap64 (x4_1+1)),bZ,H',⟨by have:=HK1.out;omega⟩,⟨pR HO340.out⟩,⟨pB HB.out⟩⟩
     ·rw [if_neg c8] at H
      exact absurd H (by simp)
    ·rw [if_neg c5] at H
     exact absurd H (by simp)
   ·rw [if_neg c4] at H;have c4b0:decide (x4_1<(l0.length:Int))=false:=decide_eq_false c4;clear c4;obtain ⟨⟨t341,t342,t343⟩,A12,H⟩:=bI H;(try dsimp only at H);obtain ⟨y344,hy344⟩:∃ y_:List (S61),y_=(([(⟨true,0,(⟨#[]⟩:ByteArray)⟩:S61),(⟨t341,t342,t343⟩:S61),(⟨true,0,(⟨#[]⟩:ByteArray)⟩:S61)]:List (S61))):=⟨_,rfl⟩
    replace H:(if x3_1.length+y344.length<4398046511104 then (some (x3_1 ++ y344)) else (none))=some r:=qH hy344 H
    have Ny344:=mA hy344;clear hy344
    by_cases c13:x3_1.length+y344.length<4398046511104
    ·rw [if_pos c13] at H;have LMc13:=mA c13;clear c13;obtain ⟨y347,hy347⟩:∃ y_:List (S61),y_=(x3_1 ++ y344):=⟨_,rfl⟩
     replace H:(some y347)=some r:=qH hy347 H
     have Ny347:=mA hy347;clear hy347;obtain rfl:=Option.some.inj H
     go_wp2_with (first|(refine gL (some 29) Try.func60 #[.int .i64 0,.string (⟨#[]⟩:ByteArray)] ?_;(with_reducible refine (spec_l2Put.calls 0 (⟨#[]⟩:ByteArray) t341 t342 t343 _ A12.out).mono ?_);rintro e w14 ⟨rfl,hb⟩;refine ⟨_,rfl,?_⟩;replace HO_3:=rB HO_3 hb;replace HB:=spB HB hb;(try clear hb))|((with_reducible refine gate_dst (N:=31) rfl ?_);refine Kd.R_lit k61 _ 61 ?hg (N:=31) ?hd (xs:=([(⟨true,0,(⟨#[]⟩:ByteArray)⟩:S61),(⟨t341,t342,t343⟩:S61),(⟨true,0,(⟨#[]⟩:ByteArray)⟩:S61)]:List (S61))) (inner:=[.bool true,.int .i64 0,.string (⟨#[]⟩:ByteArray),.bool t341,.int .i64 t342,.string t343,.bool true,.int .i64 0,.string (⟨#[]⟩:ByteArray)]) (ok:=fun _=>True) (okp:=fun _=>True) ?hr ?hp (fun _ hk=>hk) trivial (Below.refl _ _) (Nat.le_refl _) (by simp) ?_;(case hd=>rfl);(case hg=>rfl);(case hr=>first|(go_simp;done)|(go_simp;rfl));(case hp=>exact (Reps.c3 (show Kd.M k61 _ _ _ (⟨true,0,(⟨#[]⟩:ByteArray)⟩:S61) [.bool true,.int .i64 0,.string (⟨#[]⟩:ByteArray)] from (k61_mkM _ _ _ (⟨true,0,(⟨#[]⟩:ByteArray)⟩:S61) )) (Reps.c3 (show Kd.M k61 _ _ _ (⟨t341,t342,t343⟩:S61) [.bool t341,.int .i64 t342,.string t343] from (k61_mkM _ _ _ (⟨t341,t342,t343⟩:S61) )) (Reps.c3 (show Kd.M k61 _ _ _ (⟨true,0,(⟨#[]⟩:ByteArray)⟩:S61) [.bool true,.int .i64 0,.string (⟨#[]⟩:ByteArray)] from (k61_mkM _ _ _ (⟨true,0,(⟨#[]⟩:ByteArray)⟩:S61) )) (Reps.none _ _)))));intro v345 w15 ho16 hb hg_ hnew_;clear hg_ hnew_;(first|rw [← Ny344.out] at ho16|(simp only [Int.reduceToNat] at ho16;rw [← Ny344.out] at ho16));have HO346:=mA (Kd.R_lower (Kd.R_new' ho16 (rL HO_3)) (bpB HB));replace HO_3:=rE HO_3 ho16 hb;replace HB:=spB HB hb;clear hb ho16;obtain ⟨Ao18,co18,rfl⟩:=Kd.R_slice HO346.out)|((with_reducible refine gate_builtin (b:=.append) (xs:=#[.tmp 27,.tmp 31]) rfl ?_);at_builtin;refine Kd.R_append_rows k61 (w0:=w) w.heap.size rfl (.tmp 27) (.tmp 31) 38 61 (.agg #[(.bool false),(.int .i64 0),(.string ⟨#[]⟩)]) 32 rfl Try.underlying38 info61 rfl aD (by omega) u3 x3_1 y344 _ _ _ (fun k_=>some k_≠(.slice Ao18 y344.length co18:Value).ownBlock) (fun _=>False) rfl rfl ?aO ?aR (fun _ _ h=>h) (fun _ h=>h.elim) ?aF ?aB ?aS ?aL ?_;(case aR=>exact cR HO346);(case aB=>exact (pB HB.out));(case aF=>exact (fun k_ hk=>Kd.fresh' (rL HO346) k_ hk));(case aO=>exact (pR (Kd.R_mono HO_3.out (fun _ hk=>hk.2))));(case aS=>exact (bpB HB));(case aL=>have:=LMc13.out;omega);intro v348 w17 ho hb hg hat;rw [← Ny347.out] at ho;replace HO346:=mA (Kd.R_after (ok:=(fun _=>True)) (pR HO346.out) hg hat);have HO349:=mA ho;replace HB:=mA hb;clear HO_3;clear ho hb hg hat))
     go_ret
     exact ⟨_,by first|rfl|(simp [errW_none,errW_some]<;>rfl)|(simp [*,errW_none,errW_some]<;>rfl),pR (Kd.R_mono HO349.out (fun _ hk=>trivial)),pB HB.out⟩
    ·rw [if_neg c13] at H
     exact absurd H (by simp)

/-! ### impl_SecLook: function 40 -/
mutual
def impl_SecLook.j0 : Nat → Int → Bool → List ByteArray → List (S75) → Option (ByteArray)
 | 0,_,_,_,_=>none
 | k+1,x1,x19,x370000,x370001=>if x19=true then (some (⟨#[]⟩:ByteArray)) else (if 0≤x1 then (if x1<(x370000.length:Int) then (impl_SecLook.l0 k x1 (rdOf ByteArray.empty x370000 x1) x370001 (x370001.length:Int) 0) else (none)) else (none))
def impl_SecLook.l0 : Nat → Int → ByteArray → List (S75) → Int → Int → Option (ByteArray)
 | 0,_,_,_,_,_=>none
 | k+1,x1,x5,x26,x27,x28=>if x28<x27 then (if 0≤x28 then (if x28<(x26.length:Int) then (if ((rd_T75 x26 x28).f0)=x1 then (impl_SecLook.l0 k x1 ((rd_T75 x26 x28).f1) x26 x27 (wrap64 (x28+1))) else (impl_SecLook.l0 k x1 x5 x26 x27 (wrap64 (x28+1)))) else (none)) else (none)) else (some x5)
end
def impl_SecLook.f (k : Nat) (l0_0 : List ByteArray) (l0_1 : List (S75)) (a1 : Int) : Option (ByteArray) := (impl_SecOk.f k l0_0 l0_1).bind fun t370 => (if t370 = true then ((impl_in.f a1 0 (wrap64 ((l0_0.length : Int) - 1))).bind fun t371 => (impl_SecLook.j0 k a1 (!t371) l0_0 l0_1)) else (impl_SecLook.j0 k a1 true l0_0 l0_1))
theorem impl_SecLook.mono_l : ∀ k, (∀ y0 y1 y2 y3, LeO (impl_SecLook.j0 k y0 y1 y2 y3) (impl_SecLook.j0 (k + 1) y0 y1 y2 y3)) ∧ (∀ y0 y1 y2 y3 y4, LeO (impl_SecLook.l0 k y0 y1 y2 y3 y4) (impl_SecLook.l0 (k + 1) y0 y1 y2 y3 y4))
 | 0=>⟨fun _ _ _ _ r h=>by simp [impl_SecLook.j0] at h,fun _ _ _ _ _ r h=>by simp [impl_SecLook.l0] at h⟩
 | k+1=>by
  obtain ⟨ih0,ih1⟩:=impl_SecLook.mono_l k;refine ⟨?_,?_⟩
  ·intro y0 y1 y2 y3
   unfold impl_SecLook.j0
   repeat' first
   | (with_reducible first|exact ih0 _ _ _ _|exact ih1 _ _ _ _ _|exact impl_SecOk.mono _ _ _|exact LeO.refl _|exact LeO.none _|refine LeO.ite ?_ ?_|refine LeO.bind ?_ (fun _=>?_))|exact ih0 _ _ _ _|exact ih1 _ _ _ _ _|exact impl_SecOk.mono _ _ _|exact LeO.none _|refine LeO.ite ?_ ?_|refine LeO.bind ?_ (fun _=>?_)
  ·intro y0 y1 y2 y3 y4
   unfold impl_SecLook.l0
   repeat' first
   | (with_reducible first|exact ih0 _ _ _ _|exact ih1 _ _ _ _ _|exact impl_SecOk.mono _ _ _|exact LeO.refl _|exact LeO.none _|refine LeO.ite ?_ ?_|refine LeO.bind ?_ (fun _=>?_))|exact ih0 _ _ _ _|exact ih1 _ _ _ _ _|exact impl_SecOk.mono _ _ _|exact LeO.none _|refine LeO.ite ?_ ?_|refine LeO.bind ?_ (fun _=>?_)
theorem impl_SecLook.mono : ∀ a0 a1 a2 k, LeO (impl_SecLook.f k a0 a1 a2) (impl_SecLook.f (k + 1) a0 a1 a2) := by
 intro a0 a1 a2 k;obtain ⟨ih0,ih1⟩:=impl_SecLook.mono_l k
 unfold impl_SecLook.f
 repeat' first
   | (with_reducible first|exact ih0 _ _ _ _|exact ih1 _ _ _ _ _|exact impl_SecOk.mono _ _ _|exact LeO.refl _|exact LeO.none _|refine LeO.ite ?_ ?_|refine LeO.bind ?_ (fun _=>?_))|exact ih0 _ _ _ _|exact ih1 _ _ _ _ _|exact impl_SecOk.mono _ _ _|exact LeO.none _|refine LeO.ite ?_ ?_|refine LeO.bind ?_ (fun _=>?_)
set_option maxHeartbeats 8000000 in
set_option maxRecDepth 100000 in
theorem impl_SecLook.calls (k : Nat) (A0_0 : Option Addr) (c0_0 : Nat) (l0_0 : List ByteArray) (A0_1 : Option Addr) (c0_1 : Nat) (l0_1 : List (S75)) (a1 : Int) (r : ByteArray) (w : World) (hr0_0 : Kd.C Kd.string w A0_0 l0_0.length l0_0) (hc0_0 : l0_0.length ≤ c0_0) (hr0_1 : Kd.C k75 w A0_1 l0_1.length l0_1) (hc0_1 : l0_1.length ≤ c0_1) (h : impl_SecLook.f k l0_0 l0_1 a1 = some r) :
  Calls Try.prog 40 #[.agg #[.slice A0_0 l0_0.length c0_0,.slice A0_1 l0_1.length c0_1],.int .i64 a1] w fun e w'=>e=.returned (.string r)∧Below w.heap.size w w':=by
 have hu31:=Try.underlying31;have hu75:=Try.underlying75;have HR0_0:=mA hr0_0;have HC0_0:=mA hc0_0;clear hr0_0 hc0_0;have HR0_1:=mA hr0_1;have HC0_1:=mA hc0_1;clear hr0_1 hc0_1;have HB:=mA (Below.refl w.heap.size w);have H:((impl_SecOk.f k l0_0 l0_1).bind fun t370=>(if t370=true then ((impl_in.f a1 0 (wrap64 ((l0_0.length:Int) - 1))).bind fun t371=>(impl_SecLook.j0 k a1 (!t371) l0_0 l0_1)) else (impl_SecLook.j0 k a1 true l0_0 l0_1)))=some r:=h;clear h;have HC3:=mA H;clear H
 go_enter Try.func40,Try.ntmps40
 go_upto_region 1 with (first|((with_reducible refine gate_dst (N:=2) rfl ?_);(try (refine gate_guard (by rfl) ?_;dsimp only));refine bE 2 #[.slice A0_0 l0_0.length c0_0,.slice A0_1 l0_1.length c0_1] 31 ?_;intro gb369 hg w4 hbox hb;have BK369:=mA hbox;have GW369:=gbpB HB hg;have GE369:=gbpB HB hg;replace HB:=spB HB hb;clear hb hbox hg))
 (try simp only [Act.put,List.setIfInBounds_toArray,List.set_cons_zero,List.set_cons_succ])
 go_cut [19] (fun v19 wc=>∃ (kq:Nat) (x19_2:Bool),v19=.bool x19_2∧Aside0 (impl_SecLook.j0 kq a1 x19_2 l0_0 l0_1=some r)∧Aside0 (kq≤k)∧Aside0 (wc.heap[gb369]?=some (.cells #[(.slice A0_0 l0_0.length c0_0),(.slice A0_1 l0_1.length c0_1)] 31 (0,0)))∧Aside0 (Below w.heap.size w wc))
 case first =>
  have H:=HC3.out;clear HC3;obtain ⟨t370,A5,H⟩:=bI H;(try dsimp only at H)
  by_cases c6:t370=true
  ·subst c6;rw [if_pos rfl] at H;obtain ⟨t371,A7,H⟩:=bI H;(try dsimp only at H);have H':=mA H;clear H;obtain ⟨hcz8_0,hcz8_1,hfz8_0,hfz8_1⟩:=box2 BK369.out
   go_wp2_with (first|(refine gL (some 9) Try.func63 #[.agg #[.slice A0_0 l0_0.length c0_0,.slice A0_1 l0_1.length c0_1]] ?_;(with_reducible refine (impl_SecOk.calls k _ _ l0_0 _ _ l0_1 true _ ?s1 ?s2 ?s3 ?s4 A5.out).mono ?_);(case s1=>exact cB HR0_0 HB);(case s2=>exact HC0_0.out);(case s3=>exact cB HR0_1 HB);(case s4=>exact HC0_1.out);rintro e w9 ⟨rfl,hb⟩;refine ⟨_,rfl,?_⟩;replace BK369:=bK BK369 hb;replace HB:=spS HB hb;(try clear hb);obtain ⟨hcz10_0,hcz10_1,hfz10_0,hfz10_1⟩:=box2 BK369.out)|(go_at_call 77;(with_reducible refine (impl_in.calls a1 0 (wrap64 ((l0_0.length:Int) - 1)) t371 _ A7.out).mono ?_);rintro e w' ⟨rfl,⟨nd,rfl⟩⟩))
   go_meet
   case rel=>exact ⟨_,(!t371),bZ,H',⟨by first|omega|exact Nat.le_refl _⟩,⟨pK BK369.out⟩,⟨pS HB.out⟩⟩
  ·replace c6:=Bool.eq_false_iff.mpr c6;subst c6
   rw [if_neg nFT] at H
   have H':=mA H;clear H;obtain ⟨hcz11_0,hcz11_1,hfz11_0,hfz11_1⟩:=box2 BK369.out
   go_wp2_with (first|(refine gL (some 9) Try.func63 #[.agg #[.slice A0_0 l0_0.length c0_0,.slice A0_1 l0_1.length c0_1]] ?_;(with_reducible refine (impl_SecOk.calls k _ _ l0_0 _ _ l0_1 false _ ?s1 ?s2 ?s3 ?s4 A5.out).mono ?_);(case s1=>exact cB HR0_0 HB);(case s2=>exact HC0_0.out);(case s3=>exact cB HR0_1 HB);(case s4=>exact HC0_1.out);rintro e w12 ⟨rfl,hb⟩;refine ⟨_,rfl,?_⟩;replace BK369:=bK BK369 hb;replace HB:=spS HB hb;(try clear hb)))
   go_meet
   case rel=>exact ⟨_,(true),bZ,H',⟨by first|omega|exact Nat.le_refl _⟩,⟨pK BK369.out⟩,⟨pS HB.out⟩⟩
 case rest =>
  clear HC3
  obtain ⟨kq,x19_2,rfl,HA,HJ2,BK369,HB⟩:=hcut
  cases kq with
  | zero=>exact absurd HA.out (by simp [impl_SecLook.j0])
  | succ kj2 =>
   have H:=HA.out;clear HA;simp only [impl_SecLook.j0] at H
   by_cases c13:x19_2=true
   ·subst c13;rw [if_pos rfl] at H;obtain rfl:=Option.some.inj H
    go_wp2
    go_ret
    exact ⟨by first|rfl|(simp [errW_none,errW_some]<;>rfl)|(simp [*,errW_none,errW_some]<;>rfl),pS HB.out⟩
   ·replace c13:=Bool.eq_false_iff.mpr c13;subst c13
    rw [if_neg nFT] at H
    by_cases c14:0≤a1
    ·rw [if_pos c14] at H;have c14b0:decide (0≤a1)=true:=decide_eq_true c14;clear c14
     by_cases c15:a1<(l0_0.length:Int)
     ·rw [if_pos c15] at H;have c15b0:decide (a1<(l0_0.length:Int))=true:=decide_eq_true c15;clear c15;have H':=mA H;clear H;obtain ⟨hcz16_0,hcz16_1,hfz16_0,hfz16_1⟩:=box2 BK369.out;have p372:0≤(a1:Int):=of_decide_eq_true bA;have q372:a1<(l0_0.length:Int):=of_decide_eq_true bA;obtain ⟨ad372,e372,hx372_0⟩:=Kd.at_string HR0_0.out a1 p372 q372;cases e372;replace hx372_0:=hC HB hx372_0;replace p372:=eq_true p372;replace q372:=eq_true q372
      go_wp2
      go_loopg [5,28] kj2 (fun kq v5 v28 w'=>∃ (x5_2:ByteArray) (x28_2:Int),v5=.string x5_2∧v28=.int .i64 x28_2∧Aside0 (impl_SecLook.l0 kq a1 x5_2 l0_1 (l0_1.length:Int) x28_2=some r)∧Aside0 (kq≤kj2)∧Aside0 (w'.heap[gb369]?=some (.cells #[(.slice (some ad372) l0_0.length c0_0),(.slice A0_1 l0_1.length c0_1)] 31 (0,0)))∧Aside0 (Below w.heap.size w w'))
      case atStart=>exact ⟨(rdOf ByteArray.empty l0_0 a1),(0),bZ,bZ,H',⟨Nat.le_refl _⟩,⟨pK BK369.out⟩,⟨pS HB.out⟩⟩
      case round =>
       clear H'
       (try clear c13);(try clear c14);(try clear c14b0);(try clear c15);(try clear c15b0);(try clear hcz16_0);(try clear hcz16_1);(try clear hfz16_0);(try clear hfz16_1);(try clear hx372_0);(try clear p372);(try clear q372)
       obtain ⟨x5_2,x28_2,rfl,rfl,HA,HK2,BK369,HB⟩:=hrel
       cases gk with
       | zero=>exact absurd HA.out (by simp [impl_SecLook.l0])
       | succ k2 =>
        have H:=HA.out;clear HA;simp only [impl_SecLook.l0] at H
        by_cases c17:x28_2<(l0_1.length:Int)
        ·rw [if_pos c17] at H;have c17b0:decide (x28_2<(l0_1.length:Int))=true:=decide_eq_true c17;clear c17
         by_cases c18:0≤x28_2
         ·rw [if_pos c18] at H;have c18b0:decide (0≤x28_2)=true:=decide_eq_true c18;clear c18
          by_cases c19:x28_2<(l0_1.length:Int)
          ·rw [if_pos c19] at H;have c19b0:decide (x28_2<(l0_1.length:Int))=true:=decide_eq_true c19;clear c19
           by_cases c20:((rd_T75 l0_1 x28_2).f0)=a1
           ·rw [if_pos c20] at H;obtain ⟨c20b0,c20b1⟩:=eqB c20;clear c20;have H':=mA H;clear H;have p373:0≤(x28_2:Int):=of_decide_eq_true bA;have q373:x28_2<(l0_1.length:Int):=of_decide_eq_true bA;obtain ⟨ad373,e373,hx373_0,hx373_1⟩:=at_T75 HR0_1.out x28_2 p373 q373;cases e373;replace hx373_0:=hC HB hx373_0;replace hx373_1:=hC HB hx373_1;replace p373:=eq_true p373;replace q373:=eq_true q373
            go_wp2_with (first|((with_reducible refine gate_dst (N:=7) rfl ?_);(try (refine gate_guard (by rfl) ?_;dsimp only));refine bE 7 #[.int .i64 0,.string (⟨#[]⟩:ByteArray)] 75 ?_;intro gb374 hg w21 hbox hb;have BK374:=mA hbox;have GW374:=gbpS HB hg;have GE374:=gbpS HB hg;replace HB:=spS HB hb;have NB369_374:=mA (lN (blk_lt (pK BK369.out)) hg);have NB374_369:=nS NB369_374;replace BK369:=bK BK369 hb;clear hb hbox hg;have hnb22:=NB374_369.out;have hnc22:=NB369_374.out;obtain ⟨hcz23_0,hcz23_1,hfz23_0,hfz23_1⟩:=box2 BK374.out))
            go_roundg k2
            case measure=>have:=HJ2.out;have:=HK2.out;omega
            case rel=>exact ⟨((rd_T75 l0_1 x28_2).f1),(wrap64 (x28_2+1)),bZ,bZ,H',⟨by have:=HJ2.out;have:=HK2.out;omega⟩,⟨pF BK369.out⟩,⟨pS HB.out⟩⟩
           ·rw [if_neg c20] at H;have c20b0:(((rd_T75 l0_1 x28_2).f0) == a1)=false:=beq_eq_false_iff_ne.mpr c20;have c20b1:(((rd_T75 l0_1 x28_2).f0) != a1)=true:=bne_iff_ne.mpr c20;have H':=mA H;clear H;have p373:0≤(x28_2:Int):=of_decide_eq_true bA;have q373:x28_2<(l0_1.length:Int):=of_decide_eq_true bA;obtain ⟨ad373,e373,hx373_0,hx373_1⟩:=at_T75 HR0_1.out x28_2 p373 q373;cases e373;replace hx373_0:=hC HB hx373_0;replace hx373_1:=hC HB hx373_1;replace p373:=eq_true p373;replace q373:=eq_true q373
            go_wp2_with (first|((with_reducible refine gate_dst (N:=7) rfl ?_);(try (refine gate_guard (by rfl) ?_;dsimp only));refine bE 7 #[.int .i64 0,.string (⟨#[]⟩:ByteArray)] 75 ?_;intro gb374 hg w24 hbox hb;have BK374:=mA hbox;have GW374:=gbpS HB hg;have GE374:=gbpS HB hg;replace HB:=spS HB hb;have NB369_374:=mA (lN (blk_lt (pK BK369.out)) hg);have NB374_369:=nS NB369_374;replace BK369:=bK BK369 hb;clear hb hbox hg;have hnb25:=NB374_369.out;have hnc25:=NB369_374.out;obtain ⟨hcz26_0,hcz26_1,hfz26_0,hfz26_1⟩:=box2 BK374.out))
            go_roundg k2
            case measure=>have:=HJ2.out;have:=HK2.out;omega
            case rel=>exact ⟨(x5_2),(wrap64 (x28_2+1)),bZ,bZ,H',⟨by have:=HJ2.out;have:=HK2.out;omega⟩,⟨pF BK369.out⟩,⟨pS HB.out⟩⟩
          ·rw [if_neg c19] at H
           exact absurd H (by simp)
         ·rw [if_neg c18] at H
          exact absurd H (by simp)
        ·rw [if_neg c17] at H;have c17b0:decide (x28_2<(l0_1.length:Int))=false:=decide_eq_false c17;clear c17;obtain rfl:=Option.some.inj H
         go_wp2
         go_ret
         exact ⟨by first|rfl|(simp [errW_none,errW_some]<;>rfl)|(simp [*,errW_none,errW_some]<;>rfl),pS HB.out⟩
     ·rw [if_neg c15] at H
      exact absurd H (by simp)
    ·rw [if_neg c14] at H
     exact absurd H (by simp)

/-! ### impl_copied_SecStep: function 56 -/
def impl_copied_SecStep.f (l0 : List S61) : Option (List S61) := if l0.length ≤ 8796093022208 then some l0 else none
set_option maxHeartbeats 8000000 in
set_option maxRecDepth 100000 in
theorem impl_copied_SecStep.calls (A0 : Option Addr) (c0 : Nat) (l0 : List S61) (r : List S61) (w : World) (hr0 : Kd.C k61 w A0 l0.length l0) (hc0 : l0.length ≤ c0) (h : impl_copied_SecStep.f l0 = some r) :
    Calls Try.prog 56 #[.slice A0 l0.length c0] w fun e w' => ∃ v0_ : Value, e = .returned (v0_) ∧ Kd.R k61 61 w' w.heap.size (fun _ => True) v0_ r ∧ Below w.heap.size w w' := by
  unfold impl_copied_SecStep.f at h
  by_cases hz : l0.length ≤ 8796093022208
  · rw [if_pos hz] at h
    obtain rfl := Option.some.inj h
    have HR := Aside0.mk hr0
    have HZ := Aside0.mk hz
    clear hr0 hc0 h hz
    by_cases h0 : l0.length = 0
    · obtain rfl := List.eq_nil_of_length_eq_zero h0
      clear h0
      go_enter Try.func56, Try.ntmps56
      go_wp2
      go_ret
      exact ⟨_, rfl, Kd.R_nil _ _ _ _ _, Below.refl _ _⟩
    · have c0b : ((l0.length : Int) == 0) = false := beq_eq_false_iff_ne.mpr (by omega)
      have c0c : ((l0.length : Int) != 0) = true := bne_iff_ne.mpr (by omega)
      have c0d : ¬ (l0 = []) := fun h_ => h0 (by rw [h_]; rfl)
      clear h0
      have HB := Aside0.mk (Below.refl w.heap.size w)
      go_enter Try.func56, Try.ntmps56
      go_wp2_with (first
        | (refine Kd.R_make k61 _ 61 rfl (N := 9) rfl 38 _ _ rfl (l0.length : Int) rfl rfl Try.underlying38 (.agg #[(.bool false), (.int .i64 0), (.string ⟨#[]⟩)]) 32 info61 rfl (by decide) (by omega) z61 (ok := fun _ => True) (okp := fun _ => True) (k61_mkM _ _ _ z61) (fun _ hk => hk) trivial (Int.natCast_nonneg _) (by have hz := HZ.out; rw [Int.toNat_natCast]; omega) HB.out (Nat.le_refl _) ?_
           intro v1 w1 hR1 hB1 hg1 hn1
           rw [Int.toNat_natCast] at hR1
           have HR1 := Aside0.mk hR1
           have HB1 := Aside0.mk hB1
           have HC1 := Aside0.mk (Kd.C_below HR.out (below_of_grown hg1))
           clear hR1 hB1 hg1 hn1)
        | (refine R_copy k61 flat61 w.heap.size rfl _ _ 38 38 61 rfl Try.underlying38 (by rw [show (Try.prog.info? 61).map (·.size) = ((Try.prog.info? 61).map (fun i => (i.zero, i.size, i.bytes))).map (fun x => x.2.1) from by rw [Option.map_map]; rfl, info61]; rfl) _ _ _ _ _ l0 (fun _ => True) rfl rfl rfl (by simp) HR1.out HC1.out HB1.out ?_
           intro w2 hR2 hB2 _
           have HR2 := Aside0.mk hR2
           have HB2 := Aside0.mk hB2
           clear hR2 hB2))
      go_ret
      exact ⟨_, rfl, HR2.out, HB2.out⟩
  · rw [if_neg hz] at h; cases h

/-! ### impl_apply: function 57 -/
def impl_apply.l0 : Nat → List (S61) → List (S81) → Int → Int → Option ((List (S61)))
 | 0,_,_,_,_=>none
 | k+1,x1,x7,x8,x9=>if x9<x8 then (if 0≤x9 then (if x9<(x7.length:Int) then (if x1.length<4398046511104 then (impl_apply.l0 k (x1 ++ [(⟨false,wrap64 (251+((rd_T81 x7 x9).f0)),(rd_T81 x7 x9).f1⟩:S61)]) x7 x8 (wrap64 (x9+1))) else (none)) else (none)) else (none)) else ((some (([(⟨true,0,(⟨#[]⟩:ByteArray)⟩:S61),(⟨false,0,(⟨#[]⟩:ByteArray)⟩:S61),(⟨true,0,(⟨#[]⟩:ByteArray)⟩:S61)]:List (S61)):List (S61))).bind fun y380=>(if x1.length+y380.length<4398046511104 then (some (x1 ++ y380)) else (none)))
def impl_apply.f (k : Nat) (l0 : List (S81)) (l1 : List (S61)) : Option ((List (S61))) := impl_apply.l0 k l1 l0 (l0.length : Int) 0
theorem impl_apply.mono_l : ∀ k, (∀ y0 y1 y2 y3, LeO (impl_apply.l0 k y0 y1 y2 y3) (impl_apply.l0 (k + 1) y0 y1 y2 y3))
 | 0=>fun _ _ _ _ r h=>by simp [impl_apply.l0] at h
 | k+1=>by
  have ih0:=impl_apply.mono_l k
  ·intro y0 y1 y2 y3
   unfold impl_apply.l0
   repeat' first
   | (with_reducible first|exact ih0 _ _ _ _|exact LeO.refl _|exact LeO.none _|refine LeO.ite ?_ ?_|refine LeO.bind ?_ (fun _=>?_))|exact ih0 _ _ _ _|exact LeO.none _|refine LeO.ite ?_ ?_|refine LeO.bind ?_ (fun _=>?_)
theorem impl_apply.mono : ∀ a0 a1 k, LeO (impl_apply.f k a0 a1) (impl_apply.f (k + 1) a0 a1) := by
 intro a0 a1 k;have ih0:=impl_apply.mono_l k
 unfold impl_apply.f
 repeat' first
   | (with_reducible first|exact ih0 _ _ _ _|exact LeO.refl _|exact LeO.none _|refine LeO.ite ?_ ?_|refine LeO.bind ?_ (fun _=>?_))|exact ih0 _ _ _ _|exact LeO.none _|refine LeO.ite ?_ ?_|refine LeO.bind ?_ (fun _=>?_)
set_option maxHeartbeats 8000000 in
set_option maxRecDepth 100000 in
theorem impl_apply.calls (k : Nat) (A0 : Option Addr) (c0 : Nat) (l0 : List (S81)) (P1_ : Nat → Prop) (u9000_ : Value) (l1 : List (S61)) (r : List (S61)) (w0 w : World) (hB : Below w0.heap.size w0 w) (hr0 : ∀ W_, Kept w W_ (fun k_ => P1_ k_) → Kd.C k81 W_ A0 l0.length l0) (hc0 : l0.length ≤ c0) (ho1 : Kd.R k61 61 w w0.heap.size P1_ u9000_ l1) (h : impl_apply.f k l0 l1 = some r) :
  Calls Try.prog 57 #[.slice A0 l0.length c0,u9000_] w fun e w'=>∃ v0_:Value,e=.returned (v0_)∧Kd.R k61 61 w' w0.heap.size (fun k_=>(P1_ k_ ∨ w.heap.size≤k_)) v0_ r∧Below w0.heap.size w0 w'∧Kept w w' (fun k_=>P1_ k_):=by
 have hu81:=Try.underlying81;have hu61:=Try.underlying61;have HR0:=mA hr0;have HC0:=mA hc0;clear hr0 hc0;have HO1:=mA (show Kd.R k61 61 w w0.heap.size (fun k_=>(P1_ k_ ∨ w.heap.size≤k_)) u9000_ l1 from Kd.R_mono ho1 (fun k_ hk=>(.inl hk)));have HK:=mA (Kept.refl w (fun k_=>P1_ k_));have HW0:=mA hB.size;have HB:=mA hB;clear hB;have H:(impl_apply.l0 k l1 l0 (l0.length:Int) 0)=some r:=h;clear h;have H':=mA H;clear H
 go_enter Try.func57,Try.ntmps57
 go_wp2
 go_loopg [1,9] k (fun kq v1 v9 w'=>∃ (x1_1:List (S61)) (x9_1:Int),v9=.int .i64 x9_1∧Aside0 (impl_apply.l0 kq x1_1 l0 (l0.length:Int) x9_1=some r)∧Aside0 (kq≤k)∧Aside0 (Kd.R k61 61 w' w0.heap.size (fun k_=>(P1_ k_ ∨ w.heap.size≤k_)) v1 x1_1)∧Aside0 (Kept w w' (fun k_=>P1_ k_))∧Aside0 (Below w0.heap.size w0 w'))
 case atStart=>exact ⟨(l1),(0),bZ,H',⟨Nat.le_refl _⟩,⟨pR HO1.out⟩,⟨by repeat (first|(with_reducible first|exact HK.out|apply Kept.alloc|apply Kept.drewN|apply Kept.drew)|exact HK.out)⟩,⟨pB HB.out⟩⟩
 case round =>
  clear H'
  obtain ⟨x1_1,x9_1,rfl,HA,HK1,HO_1,HK,HB⟩:=hrel
  cases gk with
  | zero=>exact absurd HA.out (by simp [impl_apply.l0])
  | succ k1 =>
   have H:=HA.out;clear HA;simp only [impl_apply.l0] at H
   by_cases c3:x9_1<(l0.length:Int)
   ·rw [if_pos c3] at H;have c3b0:decide (x9_1<(l0.length:Int))=true:=decide_eq_true c3;clear c3
    by_cases c4:0≤x9_1
    ·rw [if_pos c4] at H;have c4b0:decide (0≤x9_1)=true:=decide_eq_true c4;clear c4
     by_cases c5:x9_1<(l0.length:Int)
     ·rw [if_pos c5] at H;have c5b0:decide (x9_1<(l0.length:Int))=true:=decide_eq_true c5;clear c5
      by_cases c6:x1_1.length<4398046511104
      ·rw [if_pos c6] at H;have LMc6:=mA c6;clear c6;obtain ⟨y377,hy377⟩:∃ y_:List (S61),y_=(x1_1 ++ [(⟨false,wrap64 (251+((rd_T81 l0 x9_1).f0)),(rd_T81 l0 x9_1).f1⟩:S61)]):=⟨_,rfl⟩
       replace H:(impl_apply.l0 k1 y377 l0 (l0.length:Int) (wrap64 (x9_1+1)))=some r:=qH hy377 H
       have Ny377:=mA hy377;clear hy377;have H':=mA H;clear H;have p375:0≤(x9_1:Int):=of_decide_eq_true bA;have q375:x9_1<(l0.length:Int):=of_decide_eq_true bA;obtain ⟨ad375,e375,hx375_0,hx375_1⟩:=at_T81 (Kd.C_kept_now HR0.out HK.out) x9_1 p375 q375;cases e375;replace p375:=eq_true p375;replace q375:=eq_true q375
       go_wp2_with (first|(refine bE 6 #[.int .i64 0,.string (⟨#[]⟩:ByteArray)] 81 ?_;intro gb376 hg w7 hbox hb;replace HO_1:=rB HO_1 hb;have BK376:=mA hbox;have GW376:=mA (by rw [hg];exact (by first|exact HK.out.1|exact (show Kept w _ (fun k_=>P1_ k_) from by repeat (first|(with_reducible first|exact HK.out|apply Kept.alloc|apply Kept.drewN|apply Kept.drew)|exact HK.out)).1):w.heap.size≤gb376);replace HK:=mA (Kept.below (S:=(fun k_=>P1_ k_)) (by repeat (first|(with_reducible first|exact HK.out|apply Kept.alloc|apply Kept.drewN|apply Kept.drew)|exact HK.out)) hb);have GE376:=gbpB HB hg;replace HB:=spB HB hb;clear hb hbox hg;obtain ⟨hcz8_0,hcz8_1,hfz8_0,hfz8_1⟩:=box2 BK376.out)|((with_reducible refine gate_builtin (b:=.append) (xs:=#[.tmp 13,.tmp 20]) rfl ?_);at_builtin;refine Kd.R_append k61 (w0:=w0) w0.heap.size rfl (.tmp 13) (.tmp 20) 38 61 (.agg #[(.bool false),(.int .i64 0),(.string ⟨#[]⟩)]) 32 rfl Try.underlying38 info61 rfl aD (by omega) u1 x1_1 (⟨false,wrap64 (251+((rd_T81 l0 x9_1).f0)),(rd_T81 l0 x9_1).f1⟩:S61) [.bool false,.int .i64 (wrap64 (251+((rd_T81 l0 x9_1).f0))),.string ((rd_T81 l0 x9_1).f1)] (fun k_=>(P1_ k_ ∨ w.heap.size≤k_)) (fun _=>False) rfl (by first|(go_simp;done)|(go_simp;rfl)) ?aP (fun _ hk=>hk.elim) ?aF ?aO ?aB ?aS ?aL ?_;(case aP=>exact k61_mkM _ _ _ (⟨false,wrap64 (251+((rd_T81 l0 x9_1).f0)),(rd_T81 l0 x9_1).f1⟩:S61));(case aB=>exact (pS HB.out));(case aF=>exact (fun k_ hk=>(.inr (Nat.le_trans (show Kept w _ (fun k_=>P1_ k_) from by repeat (first|(with_reducible first|exact HK.out|apply Kept.alloc|apply Kept.drewN|apply Kept.drew|refine Kept.setCell ?_ (.inr GW376.out) _)|exact HK.out)).1 hk))));(case aO=>exact (pG HO_1 BK376));(case aS=>exact (bpS HB));(case aL=>have:=LMc6.out;omega);intro v378 w9 ho hb hg hat;rw [← Ny377.out] at ho;have HO379:=mA ho;replace BK376:=mA (blk_grown (g:=gb376) (o:=.cells #[.int .i64 ((rd_T81 l0 x9_1).f0),.string ((rd_T81 l0 x9_1).f1)] 81 (0,0)) (pP BK376) hg (Kd.R_ne HO_1.out BK376.out aD));replace HB:=mA hb;replace HK:=mA (Kept.of_grown (S:=(fun k_=>P1_ k_)) hg (by repeat (first|(with_reducible first|exact HK.out|apply Kept.alloc|apply Kept.drewN|apply Kept.drew|refine Kept.setCell ?_ (.inr GW376.out) _)|exact HK.out)) (fun k_ e_=>(HO_1.out.1 k_ e_)));clear HO_1;clear ho hb hg hat))
       go_roundg k1
       case measure=>have:=HK1.out;omega
       case rel=>exact ⟨(y377),(wrap64 (x9_1+1)),bZ,H',⟨by have:=HK1.out;omega⟩,⟨pR HO379.out⟩,⟨by repeat (first|(with_reducible first|exact HK.out|apply Kept.alloc|apply Kept.drewN|apply Kept.drew|refine Kept.setCell ?_ (.inr GW376.out) _)|exact HK.out)⟩,⟨pS HB.out⟩⟩
      ·rw [if_neg c6] at H
       exact absurd H (by simp)
     ·rw [if_neg c5] at H
      exact absurd H (by simp)
    ·rw [if_neg c4] at H
     exact absurd H (by simp)
   ·rw [if_neg c3] at H;have c3b0:decide (x9_1<(l0.length:Int))=false:=decide_eq_false c3;clear c3;obtain ⟨y380,hy380⟩:∃ y_:List (S61),y_=(([(⟨true,0,(⟨#[]⟩:ByteArray)⟩:S61),(⟨false,0,(⟨#[]⟩:ByteArray)⟩:S61),(⟨true,0,(⟨#[]⟩:ByteArray)⟩:S61)]:List (S61))):=⟨_,rfl⟩
    replace H:(if x1_1.length+y380.length<4398046511104 then (some (x1_1 ++ y380)) else (none))=some r:=qH hy380 H
    have Ny380:=mA hy380;clear hy380
    by_cases c10:x1_1.length+y380.length<4398046511104
    ·rw [if_pos c10] at H;have LMc10:=mA c10;clear c10;obtain ⟨y383,hy383⟩:∃ y_:List (S61),y_=(x1_1 ++ y380):=⟨_,rfl⟩
     replace H:(some y383)=some r:=qH hy383 H
     have Ny383:=mA hy383;clear hy383;obtain rfl:=Option.some.inj H
     go_wp2_with (first|((with_reducible refine gate_dst (N:=27) rfl ?_);refine Kd.R_lit k61 _ 61 ?hg (N:=27) ?hd (xs:=([(⟨true,0,(⟨#[]⟩:ByteArray)⟩:S61),(⟨false,0,(⟨#[]⟩:ByteArray)⟩:S61),(⟨true,0,(⟨#[]⟩:ByteArray)⟩:S61)]:List (S61))) (inner:=[.bool true,.int .i64 0,.string (⟨#[]⟩:ByteArray),.bool false,.int .i64 0,.string (⟨#[]⟩:ByteArray),.bool true,.int .i64 0,.string (⟨#[]⟩:ByteArray)]) (ok:=fun _=>True) (okp:=fun _=>True) ?hr ?hp (fun _ hk=>hk) trivial (Below.refl _ _) (Nat.le_refl _) (by simp) ?_;(case hd=>rfl);(case hg=>rfl);(case hr=>first|(go_simp;done)|(go_simp;rfl));(case hp=>exact (Reps.c3 (show Kd.M k61 _ _ _ (⟨true,0,(⟨#[]⟩:ByteArray)⟩:S61) [.bool true,.int .i64 0,.string (⟨#[]⟩:ByteArray)] from (k61_mkM _ _ _ (⟨true,0,(⟨#[]⟩:ByteArray)⟩:S61) )) (Reps.c3 (show Kd.M k61 _ _ _ (⟨false,0,(⟨#[]⟩:ByteArray)⟩:S61) [.bool false,.int .i64 0,.string (⟨#[]⟩:ByteArray)] from (k61_mkM _ _ _ (⟨false,0,(⟨#[]⟩:ByteArray)⟩:S61) )) (Reps.c3 (show Kd.M k61 _ _ _ (⟨true,0,(⟨#[]⟩:ByteArray)⟩:S61) [.bool true,.int .i64 0,.string (⟨#[]⟩:ByteArray)] from (k61_mkM _ _ _ (⟨true,0,(⟨#[]⟩:ByteArray)⟩:S61) )) (Reps.none _ _)))));intro v381 w11 ho12 hb hg_ hnew_;clear hg_ hnew_;(first|rw [← Ny380.out] at ho12|(simp only [Int.reduceToNat] at ho12;rw [← Ny380.out] at ho12));have HO382:=mA (Kd.R_lower (Kd.R_new' (Kd.R_newM (M:=fun k_=>(P1_ k_ ∨ w.heap.size≤k_)) ho12 (by first|exact HK.out.1|exact (show Kept w _ (fun k_=>P1_ k_) from by repeat (first|(with_reducible first|exact HK.out|apply Kept.alloc|apply Kept.drewN|apply Kept.drew)|exact HK.out)).1) (fun k_ h_=>.inr h_)) (rL HO_1)) (bpB HB));replace HO_1:=rE HO_1 ho12 hb;replace HK:=mA (Kept.below (S:=(fun k_=>P1_ k_)) (by repeat (first|(with_reducible first|exact HK.out|apply Kept.alloc|apply Kept.drewN|apply Kept.drew)|exact HK.out)) hb);replace HB:=spB HB hb;clear hb ho12;obtain ⟨Ao14,co14,rfl⟩:=Kd.R_slice HO382.out)|((with_reducible refine gate_builtin (b:=.append) (xs:=#[.tmp 23,.tmp 27]) rfl ?_);at_builtin;refine Kd.R_append_rows k61 (w0:=w0) w0.heap.size rfl (.tmp 23) (.tmp 27) 38 61 (.agg #[(.bool false),(.int .i64 0),(.string ⟨#[]⟩)]) 32 rfl Try.underlying38 info61 rfl aD (by omega) u1 x1_1 y380 _ _ _ (fun k_=>(P1_ k_ ∨ w.heap.size≤k_)∧some k_≠(.slice Ao14 y380.length co14:Value).ownBlock) (fun _=>False) rfl rfl ?aO ?aR (fun _ _ h=>h) (fun _ h=>h.elim) ?aF ?aB ?aS ?aL ?_;(case aR=>exact cR HO382);(case aB=>exact (pB HB.out));(case aF=>exact (fun k_ hk=>⟨(.inr (Nat.le_trans (by first|exact HK.out.1|exact (show Kept w _ (fun k_=>P1_ k_) from by repeat (first|(with_reducible first|exact HK.out|apply Kept.alloc|apply Kept.drewN|apply Kept.drew)|exact HK.out)).1) hk)),Kd.fresh' (rL HO382) k_ hk⟩));(case aO=>exact (pR HO_1.out));(case aS=>exact (bpB HB));(case aL=>have:=LMc10.out;omega);intro v384 w13 ho hb hg hat;rw [← Ny383.out] at ho;replace HO382:=mA (Kd.R_after (ok:=(fun k_=>(P1_ k_ ∨ w.heap.size≤k_))) (pR (Kd.R_mono HO382.out (fun _ hk=>⟨hk.1.1,hk.2⟩))) hg hat);have HO385:=mA ho;replace HB:=mA hb;replace HK:=mA (Kept.of_grown (S:=(fun k_=>P1_ k_)) hg (by repeat (first|(with_reducible first|exact HK.out|apply Kept.alloc|apply Kept.drewN|apply Kept.drew)|exact HK.out)) (fun k_ e_=>(HO_1.out.1 k_ e_).1));clear HO_1;clear ho hb hg hat))
     go_ret
     exact ⟨_,by first|rfl|(simp [errW_none,errW_some]<;>rfl)|(simp [*,errW_none,errW_some]<;>rfl),pR (Kd.R_mono HO385.out (fun _ hk=>hk.1)),pB HB.out,by repeat (first|(with_reducible first|exact HK.out|apply Kept.alloc|apply Kept.drewN|apply Kept.drew)|exact HK.out)⟩
    ·rw [if_neg c10] at H
     exact absurd H (by simp)

end Go.Proofs.Ythjocaegapchaaa.P
