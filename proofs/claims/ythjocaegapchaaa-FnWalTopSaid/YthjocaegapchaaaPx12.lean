-- printed by pprint.py (this session's program over the kit's printer) out of the translation. Lean checks it.
import Derived.Test.YthjocaegapchaaaPx0
import Derived.Test.YthjocaegapchaaaPx2
import Derived.Test.YthjocaegapchaaaPx7
import Derived.Test.YthjocaegapchaaaPx11
namespace Go.Proofs.Ythjocaegapchaaa.P
open Go.RowKit Go.Proofs.YthjocaegapchaaaX Go.Proofs.YthjocaegapchaaaW.PrintWords Go.Proofs.YthjocaegapchaaaW.PrintLast Go.Proofs.YthjocaegapchaaaW.PrintMore
attribute [local go_sem] max2_int min2_int max_two min_two max_three min_three max_four min_four   -- for this text's walks alone
set_option linter.unusedVariables false
set_option linter.unusedSimpArgs false

/-! ### spec_l72Sec: function 87 -/
def spec_l72Sec.l0 : Nat → Int → List Int → Int → List ByteArray → List (S75) → Option (List ByteArray × (List (S75)) × Int)
 | 0,_,_,_,_,_=>none
 | k+1,x4,x1000,x1001,x847000,x847001=>if x4 > 0 then ((spec_l6Rd_pick.f k x1000 x1001 7).bind fun bt849=>((spec_l72Text.f k x1000 bt849.2 16).bind fun bt851=>((spec_SecPut.f k x847000 x847001 bt849.1 bt851.1).bind fun bt853=>((spec_l6Rd_pick.f k x1000 bt851.2 4).bind fun bt860=>(if bt860.1=0 then ((spec_SecFlush.f k bt853.1 bt853.2.1).bind fun bt862=>(spec_l72Sec.l0 k (wrap64 (x4 - 1)) x1000 bt860.2 bt862.1 bt862.2)) else (spec_l72Sec.l0 k (wrap64 (x4 - 1)) x1000 bt860.2 bt853.1 bt853.2.1)))))) else (some (x847000,x847001,x1001))
def spec_l72Sec.f (k : Nat) (s0_0 : List Int) (s0_1 : Int) : Option (List ByteArray × (List (S75)) × Int) := (spec_l6Rd_pick.f k s0_0 s0_1 7).bind fun bt838 => ((spec_SecNew.f bt838.1).bind fun bt840 => ((spec_l6Rd_pick.f k s0_0 bt838.2 8).bind fun bt847 => (spec_l72Sec.l0 k bt847.1 s0_0 bt847.2 bt840.1 bt840.2)))
theorem spec_l72Sec.mono_l : ∀ k, (∀ y0 y1 y2 y3 y4, LeO (spec_l72Sec.l0 k y0 y1 y2 y3 y4) (spec_l72Sec.l0 (k + 1) y0 y1 y2 y3 y4))
 | 0=>fun _ _ _ _ _ r h=>by simp [spec_l72Sec.l0] at h
 | k+1=>by
  have ih0:=spec_l72Sec.mono_l k
  ·intro y0 y1 y2 y3 y4
   unfold spec_l72Sec.l0
   repeat' first
   | (with_reducible first|exact ih0 _ _ _ _ _|exact spec_SecFlush.mono _ _ _|exact spec_SecPut.mono _ _ _ _ _|exact spec_l6Rd_pick.mono _ _ _ _|exact spec_l72Text.mono _ _ _ _|exact LeO.refl _|exact LeO.none _|refine LeO.ite ?_ ?_|refine LeO.bind ?_ (fun _=>?_))|exact ih0 _ _ _ _ _|exact spec_SecFlush.mono _ _ _|exact spec_SecPut.mono _ _ _ _ _|exact spec_l6Rd_pick.mono _ _ _ _|exact spec_l72Text.mono _ _ _ _|exact LeO.none _|refine LeO.ite ?_ ?_|refine LeO.bind ?_ (fun _=>?_)
theorem spec_l72Sec.mono : ∀ a0 a1 k, LeO (spec_l72Sec.f k a0 a1) (spec_l72Sec.f (k + 1) a0 a1) := by
 intro a0 a1 k;have ih0:=spec_l72Sec.mono_l k
 unfold spec_l72Sec.f
 repeat' first
   | (with_reducible first|exact ih0 _ _ _ _ _|exact spec_SecFlush.mono _ _ _|exact spec_SecPut.mono _ _ _ _ _|exact spec_l6Rd_pick.mono _ _ _ _|exact spec_l72Text.mono _ _ _ _|exact LeO.refl _|exact LeO.none _|refine LeO.ite ?_ ?_|refine LeO.bind ?_ (fun _=>?_))|exact ih0 _ _ _ _ _|exact spec_SecFlush.mono _ _ _|exact spec_SecPut.mono _ _ _ _ _|exact spec_l6Rd_pick.mono _ _ _ _|exact spec_l72Text.mono _ _ _ _|exact LeO.none _|refine LeO.ite ?_ ?_|refine LeO.bind ?_ (fun _=>?_)
def spec_l72Sec.T5 : Bool × List (List Nat × List Nat) := (true, [([], []), ([], []), ([1], [1]), ([], []), ([3, 2], [3]), ([0, 2, 4, 4], [0, 2, 4]), ([5], [5]), ([6], [6]), ([6], [6]), ([7, 5, 0, 1, 2, 3, 4, 5, 6, 7], [7])])
def spec_l72Sec.B5 : List Nat := [0, 0, 2, 0, 14, 31, 63, 127, 127, 255]
theorem spec_l72Sec.tab5 : rtab .any (opsOf Try.f87 5) = spec_l72Sec.T5 := by kernel_rfl
theorem spec_l72Sec.bits5 : waitsOk spec_l72Sec.T5.2 spec_l72Sec.B5 = true := by kernel_rfl
set_option maxHeartbeats 8000000 in
set_option maxRecDepth 100000 in
theorem spec_l72Sec.calls (k : Nat) (g : Nat) (s0_0 : List Int) (s0_1 : Int) (r1 : List ByteArray) (r2 : List (S75)) (r3 : Int) (w0 w : World) (hI : IsS110 w0 w g s0_0 s0_1) (hB : Below w0.heap.size w0 w) (h : spec_l72Sec.f k s0_0 s0_1 = some (r1, r2, r3)) :
  Calls Try.prog 87 #[.pointer (some ⟨g,0,none⟩)] w fun e w'=>∃ v0_ v1_:Value,e=.returned (.agg #[v0_,v1_])∧Kd.R Kd.string 9 w' w.heap.size (fun _=>True) v0_ r1∧Kd.R k75 75 w' w.heap.size (fun _=>True) v1_ r2∧IsS110 w0 w' g s0_0 r3∧Below w0.heap.size w0 w'∧KeepBut w w' g none:=by
 have hu31:=Try.underlying31;have HI0:=mA hI;have HK:=mA (KeepBut.refl w g none);have HL:=mA hB.size;clear hI;have HW0:=mA hB.size;have HB:=mA hB;clear hB;have H:((spec_l6Rd_pick.f k s0_0 s0_1 7).bind fun bt838=>((spec_SecNew.f bt838.1).bind fun bt840=>((spec_l6Rd_pick.f k s0_0 bt838.2 8).bind fun bt847=>(spec_l72Sec.l0 k bt847.1 s0_0 bt847.2 bt840.1 bt840.2))))=some (r1,r2,r3):=h;clear h;obtain ⟨⟨t838,t839⟩,A2,H⟩:=bI H;(try dsimp only at H);obtain ⟨⟨t840,t843⟩,A3,H⟩:=bI H;(try dsimp only at H);obtain ⟨⟨t847,t848⟩,A4,H⟩:=bI H;(try dsimp only at H);have H':=mA H;clear H
 go_enter Try.func87,Try.ntmps87
 go_wp2_with (first|(refine bE 2 #[.slice none 0 0,.slice none 0 0] 31 ?_;intro gb837 hg w5 hbox hb;replace HB:=mA (below_step (pQ HB (IsS110.ge HI0.out)) hb);have BK837:=mA hbox;have GW837:=mA (lG (kS HK) hg);have GE837:=mA (Nat.le_trans HW0.out (lG (kS HK) hg));replace HK:=mA (KeepBut.trans (pH HK) (KeepBut.of_below hb g none) (.inl rfl));have NB0_837:=mA (lN (IsS110.lt (show IsS110 w0 _ g s0_0 s0_1 from IsS110.p HI0)) hg);have NB837_0:=nS NB0_837;replace HI0:=mA (IsS110.below (IsS110.p HI0) hb);clear hb hbox hg)|(refine gL (some 6) Try.func75 #[.pointer (some ⟨g,0,none⟩),.int .i64 7] ?_;(with_reducible refine (spec_l6Rd_pick.calls k g s0_0 s0_1 7 t838 t839 w0 _ ?s1 ?s2 A2.out).mono ?_);(case s1=>exact IsS110.p HI0);(case s2=>exact pQ HB (IsS110.ge HI0.out));rintro e w6 ⟨rfl,hi,hb,hk⟩;refine ⟨_,rfl,?_⟩;replace BK837:=mA (kB hk (pK BK837.out) NB837_0);replace HK:=mA (KeepBut.trans (pH HK) hk (.inl rfl));replace HB:=mA hb;replace HI0:=mA hi;(try clear hb);(try clear hk);(try clear hi))|(refine gL (some 7) Try.func91 #[.int .i64 t838] ?_;(with_reducible refine (spec_SecNew.calls t838 t840 t843 _ A3.out).mono ?_);rintro e w7 ⟨v841,v844,rfl,ho0,ho1,hb⟩;refine ⟨_,rfl,?_⟩;have HO842:=mA (Kd.R_lower ho0 (kS HK));have HO845:=mA (Kd.R_lower ho1 (kS HK));replace BK837:=bK BK837 hb;replace HK:=mA (KeepBut.trans (pH HK) (KeepBut.of_below hb g none) (.inl rfl));replace HB:=mA (below_step (pQ HB (IsS110.ge HI0.out)) hb);replace HI0:=mA (IsS110.below (IsS110.p HI0) hb);(try clear hb);(try clear ho0);(try clear ho1))|(refine bE 3 #[.slice none 0 0,.slice none 0 0] 31 ?_;intro gb846 hg w8 hbox hb;replace HO842:=rB HO842 hb;replace HO845:=rB HO845 hb;replace HB:=mA (below_step (pQ HB (IsS110.ge HI0.out)) hb);have BK846:=mA hbox;have GW846:=mA (lG (kS HK) hg);have GE846:=mA (Nat.le_trans HW0.out (lG (kS HK) hg));replace HK:=mA (KeepBut.trans (pH HK) (KeepBut.of_below hb g none) (.inl rfl));have NB837_846:=mA (lN (blk_lt (pK BK837.out)) hg);have NB846_837:=nS NB837_846;replace BK837:=bK BK837 hb;have NB0_846:=mA (lN (IsS110.lt (show IsS110 w0 _ g s0_0 t839 from IsS110.p HI0)) hg);have NB846_0:=nS NB0_846;replace HI0:=mA (IsS110.below (IsS110.p HI0) hb);clear hb hbox hg;obtain ⟨Ao9,co9,rfl⟩:=Kd.R_slice HO842.out;have hnb10:=NB846_837.out;have hnc10:=NB837_846.out;have hnb11:=NB846_0.out;have hnc11:=NB0_846.out;obtain ⟨hcz12_0,hcz12_1,hfz12_0,hfz12_1⟩:=box2 BK846.out;obtain ⟨Ao13,co13,rfl⟩:=Kd.R_slice HO845.out)|(refine gL (some 9) Try.func75 #[.pointer (some ⟨g,0,none⟩),.int .i64 8] ?_;(with_reducible refine (spec_l6Rd_pick.calls k g s0_0 t839 8 t847 t848 w0 _ ?s1 ?s2 A4.out).mono ?_);(case s1=>exact IsS110.p HI0);(case s2=>exact pQ HB (IsS110.ge HI0.out));rintro e w14 ⟨rfl,hi,hb,hk⟩;refine ⟨_,rfl,?_⟩;replace HO842:=mA (rK (IsS110.apart (IsS110.p HI0) (pG HO842 BK846) aD) hk);replace HO845:=mA (rK (IsS110.apart (IsS110.p HI0) (pG HO845 BK846) aD) hk);replace BK837:=mA (kB hk (pF BK837.out) NB837_0);replace BK846:=mA (kP hk #[.slice Ao9 t840.length co9,.slice Ao13 t843.length co13] BK846 NB846_0);replace HK:=mA (KeepBut.trans (pH HK) hk (.inl rfl));replace HB:=mA hb;replace HI0:=mA hi;(try clear hb);(try clear hk);(try clear hi)))
 go_loopg [4] k (fun kq v4 w'=>∃ (x4_1:Int) (x1001_1:Int) (x847000_1:List ByteArray) (x847001_1:List (S75)) (u847000:Value) (u847001:Value),v4=.int .i64 x4_1∧Aside0 (spec_l72Sec.l0 kq x4_1 s0_0 x1001_1 x847000_1 x847001_1=some (r1,r2,r3))∧Aside0 (kq≤k)∧Aside0 (Kd.R Kd.string 9 w' w.heap.size (fun _=>True) u847000 x847000_1)∧Aside0 (Kd.R k75 75 w' w.heap.size (fun _=>True) u847001 x847001_1)∧Aside0 (w'.heap[gb837]?=some (.cells #[(.slice none 0 0),(.slice none 0 0)] 31 (0,0)))∧Aside0 (w'.heap[gb846]?=some (.cells #[u847000,u847001] 31 (0,0)))∧Aside0 (IsS110 w0 w' g s0_0 x1001_1)∧Aside0 (KeepBut w w' g none)∧Aside0 (Below w0.heap.size w0 w'))
 case atStart=>exact ⟨(t847),(t848),(t840),(t843),(.slice Ao9 t840.length co9),(.slice Ao13 t843.length co13),bZ,H',⟨Nat.le_refl _⟩,⟨pR HO842.out⟩,⟨pR HO845.out⟩,⟨pK BK837.out⟩,⟨pK BK846.out⟩,⟨IsS110.p HI0⟩,⟨pH HK⟩,⟨pQ HB (IsS110.ge HI0.out)⟩⟩
 case round =>
  clear H'
  (try clear hcz12_0);(try clear hcz12_1);(try clear hfz12_0);(try clear hfz12_1)
  obtain ⟨x4_1,x1001_1,x847000_1,x847001_1,u847000,u847001,rfl,HA,HK1,HO_847000,HO_847001,BK837,BK846,HI0,HK,HB⟩:=hrel
  cases gk with
  | zero=>exact absurd HA.out (by simp [spec_l72Sec.l0])
  | succ k1 =>
   have H:=HA.out;clear HA;simp only [spec_l72Sec.l0] at H
   by_cases c15:x4_1 > 0
   ·rw [if_pos c15] at H;have c15b0:decide (0<x4_1)=true:=decide_eq_true c15;clear c15;obtain ⟨⟨t849,t850⟩,A16,H⟩:=bI H;(try dsimp only at H);obtain ⟨⟨t851,t852⟩,A17,H⟩:=bI H;(try dsimp only at H);obtain ⟨⟨t853,t856,t859⟩,A18,H⟩:=bI H;(try dsimp only at H);obtain ⟨⟨t860,t861⟩,A19,H⟩:=bI H;(try dsimp only at H)
    by_cases c20:t860=0
    ·rw [if_pos c20] at H;obtain ⟨c20b0,c20b1⟩:=eqB c20;clear c20;obtain ⟨⟨t862,t865⟩,A21,H⟩:=bI H;(try dsimp only at H);have H':=mA H;clear H
     try go_wp2
     replace HO_847000:=rD HO_847000;replace HO_847001:=rD HO_847001;replace BK837:=mA (blk_drew BK837.out);replace BK846:=mA (blk_drew BK846.out);replace HI0:=mA (IsS110.drew HI0.out);replace HK:=mA (keep_drew HK.out);replace HB:=mA (below_drew1 HB.out)
     refine start_ (n:=10) (S:=fun w'=>w'.cell? ⟨gb846,0,none⟩=some (u847000)∧w'.cell? ⟨gb846,1,none⟩=some (u847001)) (ds:=[9]) _ aK rfl rfl ⟨eC BK846 0,eC BK846 1⟩ (fun hHeld=>?_);refine with_tabW spec_l72Sec.tab5 spec_l72Sec.bits5 (fun HT_ HW_=>?_)
     generalize wr.drew=w22 at HO_847000 HO_847001 BK837 BK846 HI0 HK HB hHeld ⊢
     refine pu_ 1 (some 16) (aT HT_) ?_
     refine pu_ 3 (some 18) (aT HT_) ?_
     refine ta2_ 0 (some 15) (tT HT_ HW_) hHeld ?_
     refine on_ 2 (some 17) (oT HT_) ?_;intro K hK
     refine gS Try.func75 #[.pointer (some ⟨g,0,none⟩),.int .i64 7] ?_
     with_reducible refine (spec_l6Rd_pick.calls k1 g s0_0 x1001_1 7 t849 t850 w0 _ ?s1 ?s2 A16.out).mono ?_
     (case s1=>exact IsS110.p HI0)
     (case s2=>exact pQ HB (IsS110.ge HI0.out))
     rintro e w23 ⟨rfl,hi,hb,hk⟩;refine ⟨_,rfl,?_⟩
     replace HO_847000:=mA (rK (IsS110.apart (IsS110.p HI0) (pR HO_847000.out) aD) hk);replace HO_847001:=mA (rK (IsS110.apart (IsS110.p HI0) (pR HO_847001.out) aD) hk);replace BK837:=mA (kB hk (pK BK837.out) NB837_0);replace BK846:=mA (kB hk (pK BK846.out) NB846_0);replace HK:=mA (KeepBut.trans (pH HK) hk (.inl rfl));replace HB:=mA hb;replace HI0:=mA hi
     (try clear hb);(try clear hk);(try clear hi)
     refine hK.out _ _ ⟨eC BK846 0,eC BK846 1⟩ (fun hHeld=>?_);clear hK K;refine no_ (some 17) ?_
     refine on_ 4 (some 19) (oT HT_) ?_;intro K hK
     refine gS Try.func78 #[.pointer (some ⟨g,0,none⟩),.int .i64 16] ?_
     with_reducible refine (spec_l72Text.calls k1 g s0_0 t850 16 t851 t852 w0 _ ?s1 ?s2 A17.out).mono ?_
     (case s1=>exact IsS110.p HI0)
     (case s2=>exact pQ HB (IsS110.ge HI0.out))
     rintro e w24 ⟨rfl,hi,hb,hk⟩;refine ⟨_,rfl,?_⟩
     replace HO_847000:=mA (rK (IsS110.apart (IsS110.p HI0) (pR HO_847000.out) aD) hk);replace HO_847001:=mA (rK (IsS110.apart (IsS110.p HI0) (pR HO_847001.out) aD) hk);replace BK837:=mA (kB hk (pK BK837.out) NB837_0);replace BK846:=mA (kB hk (pK BK846.out) NB846_0);replace HK:=mA (KeepBut.trans (pH HK) hk (.inl rfl));replace HB:=mA hb;replace HI0:=mA hi
     (try clear hb);(try clear hk);(try clear hi)
     obtain ⟨Ao25,co25,eo25⟩:=Kd.R_slice HO_847000.out
     (first|subst eo25|(injection eo25 with f1_ f2_ f3_;have f4_:=f1_.symm;have f5_:=f3_.symm;clear f1_ f2_ f3_;subst f4_;subst f5_))
     obtain ⟨Ao26,co26,eo26⟩:=Kd.R_slice HO_847001.out
     (first|subst eo26|(injection eo26 with f1_ f2_ f3_;have f4_:=f1_.symm;have f5_:=f3_.symm;clear f1_ f2_ f3_;subst f4_;subst f5_))
     refine hK.out _ _ ⟨eC BK846 0,eC BK846 1⟩ (fun hHeld=>?_);clear hK K;refine no_ (some 19) ?_
     refine on_ 5 (some 20) (oT HT_) ?_;intro K hK
     refine gS Try.func71 #[.agg #[.slice Ao25 x847000_1.length co25,.slice Ao26 x847001_1.length co26],.int .i64 t849,.string t851] ?_
     with_reducible refine (spec_SecPut.calls k1 _ _ x847000_1 _ _ x847001_1 t849 t851 t853 t856 t859 _ ?s1 ?s2 ?s3 ?s4 A18.out).mono ?_
     (case s1=>exact cR HO_847000)
     (case s2=>exact cL HO_847000)
     (case s3=>exact cR HO_847001)
     (case s4=>exact cL HO_847001)
     rintro e w27 ⟨v854,v857,rfl,ho0,ho1,hb⟩;refine ⟨_,rfl,?_⟩;have HO855:=mA (Kd.R_lower (Kd.R_new' ho0 (rL HO_847000)) (kS HK));replace HO_847000:=rE HO_847000 ho0 hb;have HO858:=mA (Kd.R_lower (Kd.R_new' ho1 (rL HO_847001)) (kS HK));replace HO_847001:=rE HO_847001 ho1 hb;replace BK837:=bK BK837 hb;replace BK846:=bK BK846 hb;replace HK:=mA (KeepBut.trans (pH HK) (KeepBut.of_below hb g none) (.inl rfl));replace HB:=mA (below_step (pQ HB (IsS110.ge HI0.out)) hb);replace HI0:=mA (IsS110.below (IsS110.p HI0) hb)
     (try clear hb);(try clear ho0);(try clear ho1)
     obtain ⟨Ao28,co28,eo28⟩:=Kd.R_slice HO855.out
     (first|subst eo28|(injection eo28 with f1_ f2_ f3_;have f4_:=f1_.symm;have f5_:=f3_.symm;clear f1_ f2_ f3_;subst f4_;subst f5_))
     obtain ⟨Ao30,co30,eo30⟩:=Kd.R_slice HO858.out
     (first|subst eo30|(injection eo30 with f1_ f2_ f3_;have f4_:=f1_.symm;have f5_:=f3_.symm;clear f1_ f2_ f3_;subst f4_;subst f5_))
     refine hK.out _ _ ⟨eC BK846 0,eC BK846 1⟩ (fun hHeld=>?_);clear hK K;refine no_ (some 20) ?_
     refine pu_ 6 (some 14) (aT HT_) ?_
     refine pu_ 7 (some 21) (aT HT_) ?_
     refine pu_ 8 (some 22) (aT HT_) ?_
     refine last_ (i:=9) (N:=none) #[true,true,true,true,true,true,true,true,true,true] rfl rfl (oT HT_) aD (fun K hK=>?_)
     have hs29:w27.cell? ⟨gb846,0,none⟩=some (.slice Ao25 x847000_1.length co25):=eC BK846 0;have hfs29:=blk_frozen BK846.out 0;have hns29_0:=NB837_846.out;have hms29_0:=NB846_837.out;have hs31:w27.cell? ⟨gb846,1,none⟩=some (.slice Ao26 x847001_1.length co26):=eC BK846 1;have hfs31:=blk_frozen BK846.out 1;have hns31_0:=NB837_846.out;have hms31_0:=NB846_837.out
     refine skip_ (w1:=?_) (by rfl) rfl ?_ ?_
     rotate_left
     ·go_simp;rfl
     refine hK.out _ _ ?_;clear hK K
     refine done_ (done_of HT_.out aK) ?_
     try go_wp2_with (first|(refine gL (some 24) Try.func75 #[.pointer (some ⟨g,0,none⟩),.int .i64 4] ?_;(with_reducible refine (spec_l6Rd_pick.calls k1 g s0_0 t852 4 t860 t861 w0 _ ?s1 ?s2 A19.out).mono ?_);(case s1=>exact IsS110.p HI0);(case s2=>exact pQ HB (IsS110.ge HI0.out));rintro e w32 ⟨rfl,hi,hb,hk⟩;refine ⟨_,rfl,?_⟩;replace HO_847000:=mA (rK (IsS110.apart (IsS110.p HI0) (pG HO_847000 BK846) aD) hk);replace HO_847001:=mA (rK (IsS110.apart (IsS110.p HI0) (pG HO_847001 BK846) aD) hk);replace HO855:=mA (rK (IsS110.apart (IsS110.p HI0) (pG HO855 BK846) aD) hk);replace HO858:=mA (rK (IsS110.apart (IsS110.p HI0) (pG HO858 BK846) aD) hk);replace BK837:=mA (kB hk (pF BK837.out) NB837_0);replace BK846:=mA (kP hk #[.slice Ao28 t853.length co28,.slice Ao30 t856.length co30] BK846 NB846_0);replace HK:=mA (KeepBut.trans (pH HK) hk (.inl rfl));replace HB:=mA hb;replace HI0:=mA hi;(try clear hb);(try clear hk);(try clear hi);have hnb33:=NB846_837.out;have hnc33:=NB837_846.out;have hnb34:=NB846_0.out;have hnc34:=NB0_846.out;obtain ⟨hcz35_0,hcz35_1,hfz35_0,hfz35_1⟩:=box2 BK846.out)|(refine gL (some 27) Try.func45 #[.agg #[.slice Ao28 t853.length co28,.slice Ao30 t856.length co30]] ?_;(with_reducible refine (spec_SecFlush.calls k1 _ _ t853 _ _ t856 t862 t865 _ ?s1 ?s2 ?s3 ?s4 A21.out).mono ?_);(case s1=>exact cR HO855);(case s2=>exact cL HO855);(case s3=>exact cR HO858);(case s4=>exact cL HO858);rintro e w36 ⟨v863,v866,rfl,ho0,ho1,hb⟩;refine ⟨_,rfl,?_⟩;have HO864:=mA (Kd.R_lower (Kd.R_new' (Kd.R_new' ho0 (rL HO_847000)) (rL HO855)) (kS HK));replace HO_847000:=rE HO_847000 ho0 hb;replace HO855:=rE HO855 ho0 hb;have HO867:=mA (Kd.R_lower (Kd.R_new' (Kd.R_new' ho1 (rL HO_847001)) (rL HO858)) (kS HK));replace HO_847001:=rE HO_847001 ho1 hb;replace HO858:=rE HO858 ho1 hb;replace BK837:=bK BK837 hb;replace BK846:=bK BK846 hb;replace HK:=mA (KeepBut.trans (pH HK) (KeepBut.of_below hb g none) (.inl rfl));replace HB:=mA (below_step (pQ HB (IsS110.ge HI0.out)) hb);replace HI0:=mA (IsS110.below (IsS110.p HI0) hb);(try clear hb);(try clear ho0);(try clear ho1);obtain ⟨Ao37,co37,rfl⟩:=Kd.R_slice HO864.out;obtain ⟨hcz38_0,hcz38_1,hfz38_0,hfz38_1⟩:=box2 BK846.out;obtain ⟨Ao39,co39,rfl⟩:=Kd.R_slice HO867.out))
     go_roundg k1
     case measure=>have:=HK1.out;omega
     case rel=>exact ⟨(wrap64 (x4_1 - 1)),(t861),(t862),(t865),(.slice Ao37 t862.length co37),(.slice Ao39 t865.length co39),bZ,H',⟨by have:=HK1.out;omega⟩,⟨pU HO864 BK846⟩,⟨pU HO867 BK846⟩,⟨pF BK837.out⟩,⟨pP BK846⟩,⟨IsS110.p HI0⟩,⟨pH HK⟩,⟨pQ HB (IsS110.ge HI0.out)⟩⟩
    ·rw [if_neg c20] at H;have c20b0:(t860 == 0)=false:=beq_eq_false_iff_ne.mpr c20;have c20b1:(t860 != 0)=true:=bne_iff_ne.mpr c20;have H':=mA H;clear H
     try go_wp2
     replace HO_847000:=rD HO_847000;replace HO_847001:=rD HO_847001;replace BK837:=mA (blk_drew BK837.out);replace BK846:=mA (blk_drew BK846.out);replace HI0:=mA (IsS110.drew HI0.out);replace HK:=mA (keep_drew HK.out);replace HB:=mA (below_drew1 HB.out)
     refine start_ (n:=10) (S:=fun w'=>w'.cell? ⟨gb846,0,none⟩=some (u847000)∧w'.cell? ⟨gb846,1,none⟩=some (u847001)) (ds:=[9]) _ aK rfl rfl ⟨eC BK846 0,eC BK846 1⟩ (fun hHeld=>?_);refine with_tabW spec_l72Sec.tab5 spec_l72Sec.bits5 (fun HT_ HW_=>?_)
     generalize wr.drew=w40 at HO_847000 HO_847001 BK837 BK846 HI0 HK HB hHeld ⊢
     refine pu_ 1 (some 16) (aT HT_) ?_
     refine pu_ 3 (some 18) (aT HT_) ?_
     refine ta2_ 0 (some 15) (tT HT_ HW_) hHeld ?_
     refine on_ 2 (some 17) (oT HT_) ?_;intro K hK
     refine gS Try.func75 #[.pointer (some ⟨g,0,none⟩),.int .i64 7] ?_
     with_reducible refine (spec_l6Rd_pick.calls k1 g s0_0 x1001_1 7 t849 t850 w0 _ ?s1 ?s2 A16.out).mono ?_
     (case s1=>exact IsS110.p HI0)
     (case s2=>exact pQ HB (IsS110.ge HI0.out))
     rintro e w41 ⟨rfl,hi,hb,hk⟩;refine ⟨_,rfl,?_⟩
     replace HO_847000:=mA (rK (IsS110.apart (IsS110.p HI0) (pR HO_847000.out) aD) hk);replace HO_847001:=mA (rK (IsS110.apart (IsS110.p HI0) (pR HO_847001.out) aD) hk);replace BK837:=mA (kB hk (pK BK837.out) NB837_0);replace BK846:=mA (kB hk (pK BK846.out) NB846_0);replace HK:=mA (KeepBut.trans (pH HK) hk (.inl rfl));replace HB:=mA hb;replace HI0:=mA hi
     (try clear hb);(try clear hk);(try clear hi)
     refine hK.out _ _ ⟨eC BK846 0,eC BK846 1⟩ (fun hHeld=>?_);clear hK K;refine no_ (some 17) ?_
     refine on_ 4 (some 19) (oT HT_) ?_;intro K hK
     refine gS Try.func78 #[.pointer (some ⟨g,0,none⟩),.int .i64 16] ?_
     with_reducible refine (spec_l72Text.calls k1 g s0_0 t850 16 t851 t852 w0 _ ?s1 ?s2 A17.out).mono ?_
     (case s1=>exact IsS110.p HI0)
     (case s2=>exact pQ HB (IsS110.ge HI0.out))
     rintro e w42 ⟨rfl,hi,hb,hk⟩;refine ⟨_,rfl,?_⟩
     replace HO_847000:=mA (rK (IsS110.apart (IsS110.p HI0) (pR HO_847000.out) aD) hk);replace HO_847001:=mA (rK (IsS110.apart (IsS110.p HI0) (pR HO_847001.out) aD) hk);replace BK837:=mA (kB hk (pK BK837.out) NB837_0);replace BK846:=mA (kB hk (pK BK846.out) NB846_0);replace HK:=mA (KeepBut.trans (pH HK) hk (.inl rfl));replace HB:=mA hb;replace HI0:=mA hi
     (try clear hb);(try clear hk);(try clear hi)
     obtain ⟨Ao43,co43,eo43⟩:=Kd.R_slice HO_847000.out
     (first|subst eo43|(injection eo43 with f1_ f2_ f3_;have f4_:=f1_.symm;have f5_:=f3_.symm;clear f1_ f2_ f3_;subst f4_;subst f5_))
     obtain ⟨Ao44,co44,eo44⟩:=Kd.R_slice HO_847001.out
     (first|subst eo44|(injection eo44 with f1_ f2_ f3_;have f4_:=f1_.symm;have f5_:=f3_.symm;clear f1_ f2_ f3_;subst f4_;subst f5_))
     refine hK.out _ _ ⟨eC BK846 0,eC BK846 1⟩ (fun hHeld=>?_);clear hK K;refine no_ (some 19) ?_
     refine on_ 5 (some 20) (oT HT_) ?_;intro K hK
     refine gS Try.func71 #[.agg #[.slice Ao43 x847000_1.length co43,.slice Ao44 x847001_1.length co44],.int .i64 t849,.string t851] ?_
     with_reducible refine (spec_SecPut.calls k1 _ _ x847000_1 _ _ x847001_1 t849 t851 t853 t856 t859 _ ?s1 ?s2 ?s3 ?s4 A18.out).mono ?_
     (case s1=>exact cR HO_847000)
     (case s2=>exact cL HO_847000)
     (case s3=>exact cR HO_847001)
     (case s4=>exact cL HO_847001)
     rintro e w45 ⟨v854,v857,rfl,ho0,ho1,hb⟩;refine ⟨_,rfl,?_⟩;have HO855:=mA (Kd.R_lower (Kd.R_new' ho0 (rL HO_847000)) (kS HK));replace HO_847000:=rE HO_847000 ho0 hb;have HO858:=mA (Kd.R_lower (Kd.R_new' ho1 (rL HO_847001)) (kS HK));replace HO_847001:=rE HO_847001 ho1 hb;replace BK837:=bK BK837 hb;replace BK846:=bK BK846 hb;replace HK:=mA (KeepBut.trans (pH HK) (KeepBut.of_below hb g none) (.inl rfl));replace HB:=mA (below_step (pQ HB (IsS110.ge HI0.out)) hb);replace HI0:=mA (IsS110.below (IsS110.p HI0) hb)
     (try clear hb);(try clear ho0);(try clear ho1)
     obtain ⟨Ao46,co46,eo46⟩:=Kd.R_slice HO855.out
     (first|subst eo46|(injection eo46 with f1_ f2_ f3_;have f4_:=f1_.symm;have f5_:=f3_.symm;clear f1_ f2_ f3_;subst f4_;subst f5_))
     obtain ⟨Ao48,co48,eo48⟩:=Kd.R_slice HO858.out
     (first|subst eo48|(injection eo48 with f1_ f2_ f3_;have f4_:=f1_.symm;have f5_:=f3_.symm;clear f1_ f2_ f3_;subst f4_;subst f5_))
     refine hK.out _ _ ⟨eC BK846 0,eC BK846 1⟩ (fun hHeld=>?_);clear hK K;refine no_ (some 20) ?_
     refine pu_ 6 (some 14) (aT HT_) ?_
     refine pu_ 7 (some 21) (aT HT_) ?_
     refine pu_ 8 (some 22) (aT HT_) ?_
     refine last_ (i:=9) (N:=none) #[true,true,true,true,true,true,true,true,true,true] rfl rfl (oT HT_) aD (fun K hK=>?_)
     have hs47:w45.cell? ⟨gb846,0,none⟩=some (.slice Ao43 x847000_1.length co43):=eC BK846 0;have hfs47:=blk_frozen BK846.out 0;have hns47_0:=NB837_846.out;have hms47_0:=NB846_837.out;have hs49:w45.cell? ⟨gb846,1,none⟩=some (.slice Ao44 x847001_1.length co44):=eC BK846 1;have hfs49:=blk_frozen BK846.out 1;have hns49_0:=NB837_846.out;have hms49_0:=NB846_837.out
     refine skip_ (w1:=?_) (by rfl) rfl ?_ ?_
     rotate_left
     ·go_simp;rfl
     refine hK.out _ _ ?_;clear hK K
     refine done_ (done_of HT_.out aK) ?_
     try go_wp2_with (first|(refine gL (some 24) Try.func75 #[.pointer (some ⟨g,0,none⟩),.int .i64 4] ?_;(with_reducible refine (spec_l6Rd_pick.calls k1 g s0_0 t852 4 t860 t861 w0 _ ?s1 ?s2 A19.out).mono ?_);(case s1=>exact IsS110.p HI0);(case s2=>exact pQ HB (IsS110.ge HI0.out));rintro e w50 ⟨rfl,hi,hb,hk⟩;refine ⟨_,rfl,?_⟩;replace HO_847000:=mA (rK (IsS110.apart (IsS110.p HI0) (pG HO_847000 BK846) aD) hk);replace HO_847001:=mA (rK (IsS110.apart (IsS110.p HI0) (pG HO_847001 BK846) aD) hk);replace HO855:=mA (rK (IsS110.apart (IsS110.p HI0) (pG HO855 BK846) aD) hk);replace HO858:=mA (rK (IsS110.apart (IsS110.p HI0) (pG HO858 BK846) aD) hk);replace BK837:=mA (kB hk (pF BK837.out) NB837_0);replace BK846:=mA (kP hk #[.slice Ao46 t853.length co46,.slice Ao48 t856.length co48] BK846 NB846_0);replace HK:=mA (KeepBut.trans (pH HK) hk (.inl rfl));replace HB:=mA hb;replace HI0:=mA hi;(try clear hb);(try clear hk);(try clear hi)))
     go_roundg k1
     case measure=>have:=HK1.out;omega
     case rel=>exact ⟨(wrap64 (x4_1 - 1)),(t861),(t853),(t856),(.slice Ao46 t853.length co46),(.slice Ao48 t856.length co48),bZ,H',⟨by have:=HK1.out;omega⟩,⟨pR (Kd.R_mono HO855.out (fun _ hk=>trivial))⟩,⟨pR (Kd.R_mono HO858.out (fun _ hk=>trivial))⟩,⟨pK BK837.out⟩,⟨pK BK846.out⟩,⟨IsS110.p HI0⟩,⟨pH HK⟩,⟨pQ HB (IsS110.ge HI0.out)⟩⟩
   ·rw [if_neg c15] at H;have c15b0:decide (0<x4_1)=false:=decide_eq_false c15;clear c15;simp only [Option.some.injEq,Prod.mk.injEq] at H;obtain ⟨rfl,rfl,rfl⟩:=H;have hnb51:=NB846_837.out;have hnc51:=NB837_846.out;have hnb52:=NB846_0.out;have hnc52:=NB0_846.out;obtain ⟨hcz53_0,hcz53_1,hfz53_0,hfz53_1⟩:=box2 BK846.out;obtain ⟨Ao54,co54,rfl⟩:=Kd.R_slice HO_847000.out;have hnb55:=NB837_0.out;have hnc55:=NB0_837.out;obtain ⟨hcz56_0,hcz56_1,hfz56_0,hfz56_1⟩:=box2 BK837.out;obtain ⟨Ao57,co57,rfl⟩:=Kd.R_slice HO_847001.out
    go_wp2
    refine bodyPost_ret (results_cell_row rfl _ _ gb837 31 #[.slice Ao54 x847000_1.length co54,.slice Ao57 x847001_1.length co57] (0,0) _ rfl (pP BK837) Try.underlying31 rfl aK) rfl ?_
    exact ⟨_,_,by first|rfl|(simp [errW_none,errW_some]<;>rfl)|(simp [*,errW_none,errW_some]<;>rfl),pU HO_847000 BK837,pU HO_847001 BK837,IsS110.p HI0,pQ HB (IsS110.ge HI0.out),pH HK⟩

/-! ### spec_l72WalAny: function 61 -/
def spec_l72WalAny.f (k : Nat) (s0_0 : List Int) (s0_1 : Int) : Option (List ByteArray × (List (S75)) × Int) := (spec_l72Wal.f k s0_0 s0_1).bind fun bt869 => ((spec_l6Rd_pick.f k s0_0 bt869.2.2 12).bind fun bt877 => (if bt877.1 = 0 then ((spec_l6Rd_of.f k s0_0 bt877.2 (([(⟨#[1]⟩ : ByteArray), (⟨#[255]⟩ : ByteArray), (⟨#[97, 98]⟩ : ByteArray), (⟨#[2]⟩ : ByteArray), (⟨#[0]⟩ : ByteArray)] : List ByteArray))).bind fun bt882 => (if 0 < (bt869.1.length : Int) then (some ((bt869.1.set (0 : Int).toNat bt882.1), bt869.2.1, bt882.2)) else (none))) else (if bt877.1 = 1 then ((spec_l6Rd_of.f k s0_0 bt877.2 (([(⟨#[]⟩ : ByteArray), (⟨#[255]⟩ : ByteArray), (⟨#[5, 120, 121, 122]⟩ : ByteArray)] : List ByteArray))).bind fun bt888 => (if 1 < (bt869.1.length : Int) then (some ((bt869.1.set (1 : Int).toNat bt888.1), bt869.2.1, bt888.2)) else (none))) else (if bt877.1 = 2 then ((spec_l72Sec.f k s0_0 bt877.2).bind fun bt891 => (some (bt891.1, bt891.2.1, bt891.2.2))) else (some (bt869.1, bt869.2.1, bt877.2))))))
theorem spec_l72WalAny.mono : ∀ a0 a1 k, LeO (spec_l72WalAny.f k a0 a1) (spec_l72WalAny.f (k + 1) a0 a1) := by
 intro a0 a1 k
 unfold spec_l72WalAny.f
 repeat' first
   | (with_reducible first|exact spec_l6Rd_of.mono _ _ _ _|exact spec_l6Rd_pick.mono _ _ _ _|exact spec_l72Sec.mono _ _ _|exact spec_l72Wal.mono _ _ _|exact LeO.refl _|exact LeO.none _|refine LeO.ite ?_ ?_|refine LeO.bind ?_ (fun _=>?_))|exact spec_l6Rd_of.mono _ _ _ _|exact spec_l6Rd_pick.mono _ _ _ _|exact spec_l72Sec.mono _ _ _|exact spec_l72Wal.mono _ _ _|exact LeO.none _|refine LeO.ite ?_ ?_|refine LeO.bind ?_ (fun _=>?_)
set_option maxHeartbeats 8000000 in
set_option maxRecDepth 100000 in
theorem spec_l72WalAny.calls (k : Nat) (g : Nat) (s0_0 : List Int) (s0_1 : Int) (r1 : List ByteArray) (r2 : List (S75)) (r3 : Int) (w0 w : World) (hI : IsS110 w0 w g s0_0 s0_1) (hB : Below w0.heap.size w0 w) (h : spec_l72WalAny.f k s0_0 s0_1 = some (r1, r2, r3)) :
  Calls Try.prog 61 #[.pointer (some ⟨g,0,none⟩)] w fun e w'=>∃ v0_ v1_:Value,e=.returned (.agg #[v0_,v1_])∧Kd.R Kd.string 9 w' w.heap.size (fun _=>True) v0_ r1∧Kd.R k75 75 w' w.heap.size (fun _=>True) v1_ r2∧IsS110 w0 w' g s0_0 r3∧Below w0.heap.size w0 w'∧KeepBut w w' g none:=by
 have hu31:=Try.underlying31;have HI0:=mA hI;have HK:=mA (KeepBut.refl w g none);have HL:=mA hB.size;clear hI;have HW0:=mA hB.size;have HB:=mA hB;clear hB;have H:((spec_l72Wal.f k s0_0 s0_1).bind fun bt869=>((spec_l6Rd_pick.f k s0_0 bt869.2.2 12).bind fun bt877=>(if bt877.1=0 then ((spec_l6Rd_of.f k s0_0 bt877.2 (([(⟨#[1]⟩:ByteArray),(⟨#[255]⟩:ByteArray),(⟨#[97,98]⟩:ByteArray),(⟨#[2]⟩:ByteArray),(⟨#[0]⟩:ByteArray)]:List ByteArray))).bind fun bt882=>(if 0<(bt869.1.length:Int) then (some ((bt869.1.set (0:Int).toNat bt882.1),bt869.2.1,bt882.2)) else (none))) else (if bt877.1=1 then ((spec_l6Rd_of.f k s0_0 bt877.2 (([(⟨#[]⟩:ByteArray),(⟨#[255]⟩:ByteArray),(⟨#[5,120,121,122]⟩:ByteArray)]:List ByteArray))).bind fun bt888=>(if 1<(bt869.1.length:Int) then (some ((bt869.1.set (1:Int).toNat bt888.1),bt869.2.1,bt888.2)) else (none))) else (if bt877.1=2 then ((spec_l72Sec.f k s0_0 bt877.2).bind fun bt891=>(some (bt891.1,bt891.2.1,bt891.2.2))) else (some (bt869.1,bt869.2.1,bt877.2)))))))=some (r1,r2,r3):=h;clear h;obtain ⟨⟨t869,t872,t875⟩,A2,H⟩:=bI H;(try dsimp only at H);obtain ⟨⟨t877,t878⟩,A3,H⟩:=bI H;(try dsimp only at H)
 by_cases c4:t877=0
 ·rw [if_pos c4] at H;obtain ⟨c4b0,c4b1⟩:=eqB c4;clear c4;obtain ⟨y879,hy879⟩:∃ y_:List ByteArray,y_=(([(⟨#[1]⟩:ByteArray),(⟨#[255]⟩:ByteArray),(⟨#[97,98]⟩:ByteArray),(⟨#[2]⟩:ByteArray),(⟨#[0]⟩:ByteArray)]:List ByteArray)):=⟨_,rfl⟩
  replace H:((spec_l6Rd_of.f k s0_0 t878 y879).bind fun bt882=>(if 0<(t869.length:Int) then (some ((t869.set (0:Int).toNat bt882.1),t872,bt882.2)) else (none)))=some (r1,r2,r3):=qH hy879 H
  have Ny879:=mA hy879;clear hy879;obtain ⟨⟨t882,t883⟩,A5,H⟩:=bI H;(try dsimp only at H)
  by_cases c6:0<(t869.length:Int)
  ·rw [if_pos c6] at H;have c6b0:decide (0<(t869.length:Int))=true:=decide_eq_true c6
   have c6b1:decide (0<t869.length)=true:=decide_eq_true (by omega)
   clear c6;obtain ⟨y884,hy884⟩:∃ y_:List ByteArray,y_=(t869.set (0:Int).toNat t882):=⟨_,rfl⟩
   replace H:(some (y884,t872,t883))=some (r1,r2,r3):=qH hy884 H
   have Ny884:=mA hy884;clear hy884;simp only [Option.some.injEq,Prod.mk.injEq] at H;obtain ⟨rfl,rfl,rfl⟩:=H
   go_enter Try.func61,Try.ntmps61
   try go_wp2_with (first|(refine bE 2 #[.slice none 0 0,.slice none 0 0] 31 ?_;intro gb868 hg w8 hbox hb;replace HB:=mA (below_step (pQ HB (IsS110.ge HI0.out)) hb);have BK868:=mA hbox;have GW868:=mA (lG (kS HK) hg);have GE868:=mA (Nat.le_trans HW0.out (lG (kS HK) hg));replace HK:=mA (KeepBut.trans (pH HK) (KeepBut.of_below hb g none) (.inl rfl));have NB0_868:=mA (lN (IsS110.lt (show IsS110 w0 _ g s0_0 s0_1 from IsS110.p HI0)) hg);have NB868_0:=nS NB0_868;replace HI0:=mA (IsS110.below (IsS110.p HI0) hb);clear hb hbox hg)|(refine gL (some 5) Try.func85 #[.pointer (some ⟨g,0,none⟩)] ?_;(with_reducible refine (spec_l72Wal.calls k g s0_0 s0_1 t869 t872 t875 w0 _ ?s1 ?s2 A2.out).mono ?_);(case s1=>exact IsS110.p HI0);(case s2=>exact pQ HB (IsS110.ge HI0.out));rintro e w9 ⟨v870,v873,rfl,ho0,ho1,hi,hb,hk⟩;refine ⟨_,rfl,?_⟩;have HO871:=mA (Kd.R_lower ho0 (kS HK));have HO874:=mA (Kd.R_lower ho1 (kS HK));replace BK868:=mA (kB hk (pK BK868.out) NB868_0);replace HK:=mA (KeepBut.trans (pH HK) hk (.inl rfl));replace HB:=mA hb;replace HI0:=mA hi;(try clear hb);(try clear hk);(try clear hi);(try clear ho0);(try clear ho1))|(refine bE 3 #[.slice none 0 0,.slice none 0 0] 31 ?_;intro gb876 hg w10 hbox hb;replace HO871:=rB HO871 hb;replace HO874:=rB HO874 hb;replace HB:=mA (below_step (pQ HB (IsS110.ge HI0.out)) hb);have BK876:=mA hbox;have GW876:=mA (lG (kS HK) hg);have GE876:=mA (Nat.le_trans HW0.out (lG (kS HK) hg));replace HK:=mA (KeepBut.trans (pH HK) (KeepBut.of_below hb g none) (.inl rfl));have NB868_876:=mA (lN (blk_lt (pK BK868.out)) hg);have NB876_868:=nS NB868_876;replace BK868:=bK BK868 hb;have NB0_876:=mA (lN (IsS110.lt (show IsS110 w0 _ g s0_0 t875 from IsS110.p HI0)) hg);have NB876_0:=nS NB0_876;replace HI0:=mA (IsS110.below (IsS110.p HI0) hb);clear hb hbox hg;obtain ⟨Ao11,co11,rfl⟩:=Kd.R_slice HO871.out;have hnb12:=NB876_868.out;have hnc12:=NB868_876.out;have hnb13:=NB876_0.out;have hnc13:=NB0_876.out;obtain ⟨hcz14_0,hcz14_1,hfz14_0,hfz14_1⟩:=box2 BK876.out;obtain ⟨Ao15,co15,rfl⟩:=Kd.R_slice HO874.out)|(refine gL (some 7) Try.func75 #[.pointer (some ⟨g,0,none⟩),.int .i64 12] ?_;(with_reducible refine (spec_l6Rd_pick.calls k g s0_0 t875 12 t877 t878 w0 _ ?s1 ?s2 A3.out).mono ?_);(case s1=>exact IsS110.p HI0);(case s2=>exact pQ HB (IsS110.ge HI0.out));rintro e w16 ⟨rfl,hi,hb,hk⟩;refine ⟨_,rfl,?_⟩;replace HO871:=mA (rK (IsS110.apart (IsS110.p HI0) (pG HO871 BK876) aD) hk);replace HO874:=mA (rK (IsS110.apart (IsS110.p HI0) (pG HO874 BK876) aD) hk);replace BK868:=mA (kB hk (pF BK868.out) NB868_0);replace BK876:=mA (kP hk #[.slice Ao11 t869.length co11,.slice Ao15 t872.length co15] BK876 NB876_0);replace HK:=mA (KeepBut.trans (pH HK) hk (.inl rfl));replace HB:=mA hb;replace HI0:=mA hi;(try clear hb);(try clear hk);(try clear hi)))
   replace HO871:=rD HO871;replace HO874:=rD HO874;replace BK868:=mA (blk_drew BK868.out);replace BK876:=mA (blk_drew BK876.out);replace HI0:=mA (IsS110.drew HI0.out);replace HK:=mA (keep_drew HK.out);replace HB:=mA (below_drew1 HB.out)
   refine start_ (n:=7) (S:=fun w'=>w'.cell? ⟨gb876,0,none⟩=some (.slice Ao11 t869.length co11)∧w'.cell? ⟨gb876,1,none⟩=some (.slice Ao15 t872.length co15)) (ds:=[6]) _ aK rfl rfl ⟨eC BK876 0,eC BK876 1⟩ (fun hHeld=>?_)
   generalize w16.drew=w17 at HO871 HO874 BK868 BK876 HI0 HK HB hHeld ⊢
   refine pu_ 0 (some 10) aK ?_
   refine pu_ 2 (some 12) aK ?_
   refine ta2_ 1 (some 11) aK hHeld ?_
   refine on_ 3 (some 13) aK ?_;intro K hK
   refine Kd.R_lit_step Kd.string _ 9 ?hg (N:=13) ?hd (xs:=([(⟨#[1]⟩:ByteArray),(⟨#[255]⟩:ByteArray),(⟨#[97,98]⟩:ByteArray),(⟨#[2]⟩:ByteArray),(⟨#[0]⟩:ByteArray)]:List ByteArray)) (inner:=[.string (⟨#[1]⟩:ByteArray),.string (⟨#[255]⟩:ByteArray),.string (⟨#[97,98]⟩:ByteArray),.string (⟨#[2]⟩:ByteArray),.string (⟨#[0]⟩:ByteArray)]) (ok:=fun _=>True) (okp:=fun _=>True) ?hr ?hp (fun _ hk=>hk) trivial (Below.refl _ _) (Nat.le_refl _) (by simp) ?_;(case hd=>rfl);(case hg=>rfl);(case hr=>first|(go_simp;done)|(go_simp;rfl));(case hp=>exact (Reps.one (show Kd.M Kd.string _ _ _ (⟨#[1]⟩:ByteArray) [.string (⟨#[1]⟩:ByteArray)] from rfl) (Reps.one (show Kd.M Kd.string _ _ _ (⟨#[255]⟩:ByteArray) [.string (⟨#[255]⟩:ByteArray)] from rfl) (Reps.one (show Kd.M Kd.string _ _ _ (⟨#[97,98]⟩:ByteArray) [.string (⟨#[97,98]⟩:ByteArray)] from rfl) (Reps.one (show Kd.M Kd.string _ _ _ (⟨#[2]⟩:ByteArray) [.string (⟨#[2]⟩:ByteArray)] from rfl) (Reps.one (show Kd.M Kd.string _ _ _ (⟨#[0]⟩:ByteArray) [.string (⟨#[0]⟩:ByteArray)] from rfl) (Reps.none _ _)))))))
   intro v880 w18 ho19 hb hg_ hnew_;clear hg_ hnew_
   (first|rw [← Ny879.out] at ho19|(simp only [Int.reduceToNat] at ho19;rw [← Ny879.out] at ho19))
   replace HO874:=rB HO874 hb;have HO881:=mA (Kd.R_lower (Kd.R_new' ho19 (rL HO871)) (kS HK));replace HO871:=rE HO871 ho19 hb;replace BK868:=bK BK868 hb;replace BK876:=bK BK876 hb;replace HK:=mA (KeepBut.trans (pH HK) (KeepBut.of_below hb g none) (.inl rfl));replace HB:=mA (below_step (pQ HB (IsS110.ge HI0.out)) hb);replace HI0:=mA (IsS110.below (IsS110.p HI0) hb);clear hb ho19;obtain ⟨Ao20,co20,eo20⟩:=Kd.R_slice HO881.out
   (first|subst eo20|(injection eo20 with f1_ f2_ f3_;have f4_:=f1_.symm;have f5_:=f3_.symm;clear f1_ f2_ f3_;subst f4_;subst f5_))
   refine hK.out _ _ ⟨eC BK876 0,eC BK876 1⟩ (fun hHeld=>?_);clear hK K;refine no_ (some 13) ?_
   refine on_ 4 (some 14) aK ?_;intro K hK
   refine gS Try.func86 #[.pointer (some ⟨g,0,none⟩),.slice Ao20 y879.length co20] ?_
   with_reducible refine (spec_l6Rd_of.calls k g s0_0 t878 _ _ y879 t882 t883 w0 _ ?s1 ?s2 ?s3 ?s4 ?s5 A5.out).mono ?_
   (case s1=>exact IsS110.p HI0)
   (case s2=>exact pQ HB (IsS110.ge HI0.out))
   (case s3=>exact cR HO881)
   (case s4=>exact cL HO881)
   (case s5=>exact far_slice (IsS110.own_ne HI0.out HO881.out aD))
   rintro e w21 ⟨rfl,hi,hb,hk⟩;refine ⟨_,rfl,?_⟩
   replace HO871:=mA (rK (IsS110.apart (IsS110.p HI0) (pR HO871.out) aD) hk);replace HO874:=mA (rK (IsS110.apart (IsS110.p HI0) (pR HO874.out) aD) hk);replace HO881:=mA (rK (IsS110.apart (IsS110.p HI0) (pR HO881.out) aD) hk);replace BK868:=mA (kB hk (pK BK868.out) NB868_0);replace BK876:=mA (kB hk (pK BK876.out) NB876_0);replace HK:=mA (KeepBut.trans (pH HK) hk (.inl rfl));replace HB:=mA hb;replace HI0:=mA hi
   (try clear hb);(try clear hk);(try clear hi)
   have p7:0≤(0:Int):=(by omega)
   have q7:(0:Int)<((t869.length:Int):Int):=of_decide_eq_true bA
   have qi7:(0<t869.length)=True:=eq_true (by omega)
   obtain ⟨go7,co7,eo7,gb7,gl7,cl7,HG7⟩:=Kd.R_form HO871.out (by omega)
   (first|cases eo7|(injection eo7 with ea_ en_ ec_;(first|subst ea_|(injection ea_ with ea_;subst ea_));subst ec_;clear en_))
   have GB7:=mA gb7;have GG7:=mA HG7;clear gb7 gl7 HG7;obtain ⟨hx7_0,hf7_0⟩:=Kd.R_celln (⟨#[]⟩:ByteArray) HO871.out (0:Int) p7 q7
   (try rw [show ((0:Int)).toNat=0 from rfl] at hx7_0)
   (try simp only [Nat.reduceMul,Nat.zero_mul,Nat.zero_add,Nat.reduceAdd] at hx7_0)
   (try rw [show ((0:Int)).toNat=0 from rfl] at hf7_0)
   (try simp only [Nat.reduceMul,Nat.zero_mul,Nat.zero_add,Nat.reduceAdd] at hf7_0)
   replace p7:=eq_true p7;replace q7:=eq_true q7
   have HN0_go7:=mA (show g≠go7 from by have h_:=IsS110.own_ne HI0.out HO871.out aD;intro e_;exact h_ (by rw [e_];rfl))
   have HP22:=Kd.R_putn HO871.out (0:Int) t882;rw [← Ny884.out] at HP22;have HQ22:=mA HP22;clear HP22;refine hK.out _ _ ⟨eC BK876 0,eC BK876 1⟩ (fun hHeld=>?_);clear hK K;refine no_ (some 14) ?_
   refine pu_ 5 (some 15) aK ?_
   refine last_ (i:=6) (N:=none) #[true,true,true,true,true,true,true] rfl rfl aK aD (fun K hK=>?_)
   refine skip_ (w1:=?_) (by rfl) rfl ?_ ?_
   rotate_left
   ·go_simp;rfl
   refine hK.out _ _ ?_;clear hK K
   refine done_ aK ?_
   have n0_:Aside0 (Kd.R Kd.string 9 (w21.setCell ⟨go7,0,none⟩ (.string t882)) w.heap.size (fun k_=>some k_≠(.slice Ao20 y879.length co20:Value).ownBlock) (.slice (some ⟨go7,0,none⟩) t869.length co11) y884):=⟨pR (Kd.R_mono HQ22.out (fun _ hk=>hk.2))⟩
   have n1_:Aside0 (Kd.R k75 75 (w21.setCell ⟨go7,0,none⟩ (.string t882)) w.heap.size (fun _=>True) (.slice Ao15 t872.length co15) t872):=⟨pU HO874 GG7⟩
   have n2_:Aside0 (Kd.R Kd.string 9 (w21.setCell ⟨go7,0,none⟩ (.string t882)) w.heap.size (fun k_=>some k_≠(.slice (some ⟨go7,0,none⟩) t869.length co11:Value).ownBlock) (.slice Ao20 y879.length co20) y879):=⟨pR (Kd.R_mono (Kd.R_far (p:=⟨go7,0,none⟩) (Kd.R_mono HO881.out (fun k_ hk=>(⟨hk,fun e_=>hk.2 (by rw [e_];rfl)⟩:_∧k_≠go7))) (fun _ hk=>hk.2) (.string t882)) (fun _ hk=>hk.1.2))⟩
   have n3_:Aside0 ((w21.setCell ⟨go7,0,none⟩ (.string t882)).heap[gb868]?=some (.cells #[.slice none 0 0,.slice none 0 0] 31 (0,0))):=⟨by (with_reducible repeat (first|refine blk_drewN ?_ _|refine blk_drew ?_|refine blk_alloc ?_ _));refine blk_far ?_ (by have h_:=Kd.R_ne HO871.out BK868.out aD;intro e_;exact h_ (by rw [e_];rfl)) _;(with_reducible repeat (first|refine blk_drewN ?_ _|refine blk_drew ?_|refine blk_alloc ?_ _));exact BK868.out⟩
   have n4_:Aside0 ((w21.setCell ⟨go7,0,none⟩ (.string t882)).heap[gb876]?=some (.cells #[.slice (some ⟨go7,0,none⟩) t869.length co11,.slice Ao15 t872.length co15] 31 (0,0))):=⟨by (with_reducible repeat (first|refine blk_drewN ?_ _|refine blk_drew ?_|refine blk_alloc ?_ _));refine blk_far ?_ (by have h_:=Kd.R_ne HO871.out BK876.out aD;intro e_;exact h_ (by rw [e_];rfl)) _;(with_reducible repeat (first|refine blk_drewN ?_ _|refine blk_drew ?_|refine blk_alloc ?_ _));exact BK876.out⟩
   have n5_:Aside0 (IsS110 w0 (w21.setCell ⟨go7,0,none⟩ (.string t882)) g s0_0 t883):=⟨by repeat (first|(with_reducible first|exact HI0.out|apply IsS110.alloc|apply IsS110.drewN|apply IsS110.drew|apply IsS110.set_1|refine IsS110.far ?_ HN0_go7.out _|refine IsS110.far ?_ NB0_868.out _|refine IsS110.far ?_ NB0_876.out _)|exact HI0.out)⟩
   have n6_:Aside0 (KeepBut w (w21.setCell ⟨go7,0,none⟩ (.string t882)) g none):=⟨by repeat (first|(with_reducible first|exact HK.out|apply KeepBut.set_|apply keep_drewN|apply keep_drew|apply keep_alloc|refine keep_far ?_ GB7.out _|refine keep_far ?_ GW868.out _|refine keep_far ?_ GW876.out _)|exact HK.out)⟩
   have n7_:Aside0 (Below w0.heap.size w0 (w21.setCell ⟨go7,0,none⟩ (.string t882))):=⟨by repeat (first|(with_reducible first|exact HB.out|apply below_alloc|apply pw_below_drewN|apply below_drew1|refine below_set ?_ (Nat.le_trans HL.out GB7.out)|refine below_set ?_ (IsS110.ge HI0.out)|refine below_set ?_ GE868.out|refine below_set ?_ GE876.out)|exact HB.out)⟩
   (try clear HO871);(try clear HO874);(try clear HO881);(try clear BK868);(try clear BK876);(try clear HI0);(try clear HK);(try clear HB)
   generalize (w21.setCell ⟨go7,0,none⟩ (.string t882))=w23 at n0_ n1_ n2_ n3_ n4_ n5_ n6_ n7_ ⊢
   have HO871:=n0_;have HO874:=n1_;have HO881:=n2_;have BK868:=n3_;have BK876:=n4_;have HI0:=n5_;have HK:=n6_;have HB:=n7_;clear n0_ n1_ n2_ n3_ n4_ n5_ n6_ n7_;obtain ⟨hcz24_0,hcz24_1,hfz24_0,hfz24_1⟩:=box2 BK876.out;have hnb25:=NB868_0.out;have hnc25:=NB0_868.out;obtain ⟨hcz26_0,hcz26_1,hfz26_0,hfz26_1⟩:=box2 BK868.out
   try go_wp2
   refine bodyPost_ret (results_cell_row rfl _ _ gb868 31 #[.slice (some ⟨go7,0,none⟩) t869.length co11,.slice Ao15 t872.length co15] (0,0) _ rfl (pP BK868) Try.underlying31 rfl aK) rfl ?_
   exact ⟨_,_,by first|rfl|(simp [errW_none,errW_some]<;>rfl)|(simp [*,errW_none,errW_some]<;>rfl),pU HO871 BK868,pU HO874 BK868,IsS110.p HI0,pQ HB (IsS110.ge HI0.out),pH HK⟩
  ·rw [if_neg c6] at H
   exact absurd H (by simp)
 ·rw [if_neg c4] at H;have c4b0:(t877 == 0)=false:=beq_eq_false_iff_ne.mpr c4;have c4b1:(t877 != 0)=true:=bne_iff_ne.mpr c4
  by_cases c27:t877=1
  ·rw [if_pos c27] at H;obtain ⟨c27b0,c27b1⟩:=eqB c27;clear c27;obtain ⟨y885,hy885⟩:∃ y_:List ByteArray,y_=(([(⟨#[]⟩:ByteArray),(⟨#[255]⟩:ByteArray),(⟨#[5,120,121,122]⟩:ByteArray)]:List ByteArray)):=⟨_,rfl⟩
   replace H:((spec_l6Rd_of.f k s0_0 t878 y885).bind fun bt888=>(if 1<(t869.length:Int) then (some ((t869.set (1:Int).toNat bt888.1),t872,bt888.2)) else (none)))=some (r1,r2,r3):=qH hy885 H
   have Ny885:=mA hy885;clear hy885;obtain ⟨⟨t888,t889⟩,A28,H⟩:=bI H;(try dsimp only at H)
   by_cases c29:1<(t869.length:Int)
   ·rw [if_pos c29] at H;have c29b0:decide (1<(t869.length:Int))=true:=decide_eq_true c29
    have c29b1:decide (1<t869.length)=true:=decide_eq_true (by omega)
    clear c29;obtain ⟨y890,hy890⟩:∃ y_:List ByteArray,y_=(t869.set (1:Int).toNat t888):=⟨_,rfl⟩
    replace H:(some (y890,t872,t889))=some (r1,r2,r3):=qH hy890 H
    have Ny890:=mA hy890;clear hy890;simp only [Option.some.injEq,Prod.mk.injEq] at H;obtain ⟨rfl,rfl,rfl⟩:=H
    go_enter Try.func61,Try.ntmps61
    try go_wp2_with (first|(refine bE 2 #[.slice none 0 0,.slice none 0 0] 31 ?_;intro gb868 hg w31 hbox hb;replace HB:=mA (below_step (pQ HB (IsS110.ge HI0.out)) hb);have BK868:=mA hbox;have GW868:=mA (lG (kS HK) hg);have GE868:=mA (Nat.le_trans HW0.out (lG (kS HK) hg));replace HK:=mA (KeepBut.trans (pH HK) (KeepBut.of_below hb g none) (.inl rfl));have NB0_868:=mA (lN (IsS110.lt (show IsS110 w0 _ g s0_0 s0_1 from IsS110.p HI0)) hg);have NB868_0:=nS NB0_868;replace HI0:=mA (IsS110.below (IsS110.p HI0) hb);clear hb hbox hg)|(refine gL (some 5) Try.func85 #[.pointer (some ⟨g,0,none⟩)] ?_;(with_reducible refine (spec_l72Wal.calls k g s0_0 s0_1 t869 t872 t875 w0 _ ?s1 ?s2 A2.out).mono ?_);(case s1=>exact IsS110.p HI0);(case s2=>exact pQ HB (IsS110.ge HI0.out));rintro e w32 ⟨v870,v873,rfl,ho0,ho1,hi,hb,hk⟩;refine ⟨_,rfl,?_⟩;have HO871:=mA (Kd.R_lower ho0 (kS HK));have HO874:=mA (Kd.R_lower ho1 (kS HK));replace BK868:=mA (kB hk (pK BK868.out) NB868_0);replace HK:=mA (KeepBut.trans (pH HK) hk (.inl rfl));replace HB:=mA hb;replace HI0:=mA hi;(try clear hb);(try clear hk);(try clear hi);(try clear ho0);(try clear ho1))|(refine bE 3 #[.slice none 0 0,.slice none 0 0] 31 ?_;intro gb876 hg w33 hbox hb;replace HO871:=rB HO871 hb;replace HO874:=rB HO874 hb;replace HB:=mA (below_step (pQ HB (IsS110.ge HI0.out)) hb);have BK876:=mA hbox;have GW876:=mA (lG (kS HK) hg);have GE876:=mA (Nat.le_trans HW0.out (lG (kS HK) hg));replace HK:=mA (KeepBut.trans (pH HK) (KeepBut.of_below hb g none) (.inl rfl));have NB868_876:=mA (lN (blk_lt (pK BK868.out)) hg);have NB876_868:=nS NB868_876;replace BK868:=bK BK868 hb;have NB0_876:=mA (lN (IsS110.lt (show IsS110 w0 _ g s0_0 t875 from IsS110.p HI0)) hg);have NB876_0:=nS NB0_876;replace HI0:=mA (IsS110.below (IsS110.p HI0) hb);clear hb hbox hg;obtain ⟨Ao34,co34,rfl⟩:=Kd.R_slice HO871.out;have hnb35:=NB876_868.out;have hnc35:=NB868_876.out;have hnb36:=NB876_0.out;have hnc36:=NB0_876.out;obtain ⟨hcz37_0,hcz37_1,hfz37_0,hfz37_1⟩:=box2 BK876.out;obtain ⟨Ao38,co38,rfl⟩:=Kd.R_slice HO874.out)|(refine gL (some 7) Try.func75 #[.pointer (some ⟨g,0,none⟩),.int .i64 12] ?_;(with_reducible refine (spec_l6Rd_pick.calls k g s0_0 t875 12 t877 t878 w0 _ ?s1 ?s2 A3.out).mono ?_);(case s1=>exact IsS110.p HI0);(case s2=>exact pQ HB (IsS110.ge HI0.out));rintro e w39 ⟨rfl,hi,hb,hk⟩;refine ⟨_,rfl,?_⟩;replace HO871:=mA (rK (IsS110.apart (IsS110.p HI0) (pG HO871 BK876) aD) hk);replace HO874:=mA (rK (IsS110.apart (IsS110.p HI0) (pG HO874 BK876) aD) hk);replace BK868:=mA (kB hk (pF BK868.out) NB868_0);replace BK876:=mA (kP hk #[.slice Ao34 t869.length co34,.slice Ao38 t872.length co38] BK876 NB876_0);replace HK:=mA (KeepBut.trans (pH HK) hk (.inl rfl));replace HB:=mA hb;replace HI0:=mA hi;(try clear hb);(try clear hk);(try clear hi)))
    replace HO871:=rD HO871;replace HO874:=rD HO874;replace BK868:=mA (blk_drew BK868.out);replace BK876:=mA (blk_drew BK876.out);replace HI0:=mA (IsS110.drew HI0.out);replace HK:=mA (keep_drew HK.out);replace HB:=mA (below_drew1 HB.out)
    refine start_ (n:=7) (S:=fun w'=>w'.cell? ⟨gb876,0,none⟩=some (.slice Ao34 t869.length co34)∧w'.cell? ⟨gb876,1,none⟩=some (.slice Ao38 t872.length co38)) (ds:=[6]) _ aK rfl rfl ⟨eC BK876 0,eC BK876 1⟩ (fun hHeld=>?_)
    generalize w39.drew=w40 at HO871 HO874 BK868 BK876 HI0 HK HB hHeld ⊢
    refine pu_ 0 (some 18) aK ?_
    refine pu_ 2 (some 20) aK ?_
    refine ta2_ 1 (some 19) aK hHeld ?_
    refine on_ 3 (some 21) aK ?_;intro K hK
    refine Kd.R_lit_step Kd.string _ 9 ?hg (N:=21) ?hd (xs:=([(⟨#[]⟩:ByteArray),(⟨#[255]⟩:ByteArray),(⟨#[5,120,121,122]⟩:ByteArray)]:List ByteArray)) (inner:=[.string (⟨#[]⟩:ByteArray),.string (⟨#[255]⟩:ByteArray),.string (⟨#[5,120,121,122]⟩:ByteArray)]) (ok:=fun _=>True) (okp:=fun _=>True) ?hr ?hp (fun _ hk=>hk) trivial (Below.refl _ _) (Nat.le_refl _) (by simp) ?_;(case hd=>rfl);(case hg=>rfl);(case hr=>first|(go_simp;done)|(go_simp;rfl));(case hp=>exact (Reps.one (show Kd.M Kd.string _ _ _ (⟨#[]⟩:ByteArray) [.string (⟨#[]⟩:ByteArray)] from rfl) (Reps.one (show Kd.M Kd.string _ _ _ (⟨#[255]⟩:ByteArray) [.string (⟨#[255]⟩:ByteArray)] from rfl) (Reps.one (show Kd.M Kd.string _ _ _ (⟨#[5,120,121,122]⟩:ByteArray) [.string (⟨#[5,120,121,122]⟩:ByteArray)] from rfl) (Reps.none _ _)))))
    intro v886 w41 ho42 hb hg_ hnew_;clear hg_ hnew_
    (first|rw [← Ny885.out] at ho42|(simp only [Int.reduceToNat] at ho42;rw [← Ny885.out] at ho42))
    replace HO874:=rB HO874 hb;have HO887:=mA (Kd.R_lower (Kd.R_new' ho42 (rL HO871)) (kS HK));replace HO871:=rE HO871 ho42 hb;replace BK868:=bK BK868 hb;replace BK876:=bK BK876 hb;replace HK:=mA (KeepBut.trans (pH HK) (KeepBut.of_below hb g none) (.inl rfl));replace HB:=mA (below_step (pQ HB (IsS110.ge HI0.out)) hb);replace HI0:=mA (IsS110.below (IsS110.p HI0) hb);clear hb ho42;obtain ⟨Ao43,co43,eo43⟩:=Kd.R_slice HO887.out
    (first|subst eo43|(injection eo43 with f1_ f2_ f3_;have f4_:=f1_.symm;have f5_:=f3_.symm;clear f1_ f2_ f3_;subst f4_;subst f5_))
    refine hK.out _ _ ⟨eC BK876 0,eC BK876 1⟩ (fun hHeld=>?_);clear hK K;refine no_ (some 21) ?_
    refine on_ 4 (some 22) aK ?_;intro K hK
    refine gS Try.func86 #[.pointer (some ⟨g,0,none⟩),.slice Ao43 y885.length co43] ?_
    with_reducible refine (spec_l6Rd_of.calls k g s0_0 t878 _ _ y885 t888 t889 w0 _ ?s1 ?s2 ?s3 ?s4 ?s5 A28.out).mono ?_
    (case s1=>exact IsS110.p HI0)
    (case s2=>exact pQ HB (IsS110.ge HI0.out))
    (case s3=>exact cR HO887)
    (case s4=>exact cL HO887)
    (case s5=>exact far_slice (IsS110.own_ne HI0.out HO887.out aD))
    rintro e w44 ⟨rfl,hi,hb,hk⟩;refine ⟨_,rfl,?_⟩
    replace HO871:=mA (rK (IsS110.apart (IsS110.p HI0) (pR HO871.out) aD) hk);replace HO874:=mA (rK (IsS110.apart (IsS110.p HI0) (pR HO874.out) aD) hk);replace HO887:=mA (rK (IsS110.apart (IsS110.p HI0) (pR HO887.out) aD) hk);replace BK868:=mA (kB hk (pK BK868.out) NB868_0);replace BK876:=mA (kB hk (pK BK876.out) NB876_0);replace HK:=mA (KeepBut.trans (pH HK) hk (.inl rfl));replace HB:=mA hb;replace HI0:=mA hi
    (try clear hb);(try clear hk);(try clear hi)
    have p30:0≤(1:Int):=(by omega)
    have q30:(1:Int)<((t869.length:Int):Int):=of_decide_eq_true bA
    have qi30:(1<t869.length)=True:=eq_true (by omega)
    obtain ⟨go30,co30,eo30,gb30,gl30,cl30,HG30⟩:=Kd.R_form HO871.out (by omega)
    (first|cases eo30|(injection eo30 with ea_ en_ ec_;(first|subst ea_|(injection ea_ with ea_;subst ea_));subst ec_;clear en_))
    have GB30:=mA gb30;have GG30:=mA HG30;clear gb30 gl30 HG30;obtain ⟨hx30_0,hf30_0⟩:=Kd.R_celln (⟨#[]⟩:ByteArray) HO871.out (1:Int) p30 q30
    (try rw [show ((1:Int)).toNat=1 from rfl] at hx30_0)
    (try simp only [Nat.reduceMul,Nat.zero_mul,Nat.zero_add,Nat.reduceAdd] at hx30_0)
    (try rw [show ((1:Int)).toNat=1 from rfl] at hf30_0)
    (try simp only [Nat.reduceMul,Nat.zero_mul,Nat.zero_add,Nat.reduceAdd] at hf30_0)
    replace p30:=eq_true p30;replace q30:=eq_true q30
    have HN0_go30:=mA (show g≠go30 from by have h_:=IsS110.own_ne HI0.out HO871.out aD;intro e_;exact h_ (by rw [e_];rfl))
    have HP45:=Kd.R_putn HO871.out (1:Int) t888;rw [← Ny890.out] at HP45;have HQ45:=mA HP45;clear HP45;refine hK.out _ _ ⟨eC BK876 0,eC BK876 1⟩ (fun hHeld=>?_);clear hK K;refine no_ (some 22) ?_
    refine pu_ 5 (some 23) aK ?_
    refine last_ (i:=6) (N:=none) #[true,true,true,true,true,true,true] rfl rfl aK aD (fun K hK=>?_)
    refine skip_ (w1:=?_) (by rfl) rfl ?_ ?_
    rotate_left
    ·go_simp;rfl
    refine hK.out _ _ ?_;clear hK K
    refine done_ aK ?_
    have n0_:Aside0 (Kd.R Kd.string 9 (w44.setCell ⟨go30,1,none⟩ (.string t888)) w.heap.size (fun k_=>some k_≠(.slice Ao43 y885.length co43:Value).ownBlock) (.slice (some ⟨go30,0,none⟩) t869.length co34) y890):=⟨pR (Kd.R_mono HQ45.out (fun _ hk=>hk.2))⟩
    have n1_:Aside0 (Kd.R k75 75 (w44.setCell ⟨go30,1,none⟩ (.string t888)) w.heap.size (fun _=>True) (.slice Ao38 t872.length co38) t872):=⟨pU HO874 GG30⟩
    have n2_:Aside0 (Kd.R Kd.string 9 (w44.setCell ⟨go30,1,none⟩ (.string t888)) w.heap.size (fun k_=>some k_≠(.slice (some ⟨go30,0,none⟩) t869.length co34:Value).ownBlock) (.slice Ao43 y885.length co43) y885):=⟨pR (Kd.R_mono (Kd.R_far (p:=⟨go30,1,none⟩) (Kd.R_mono HO887.out (fun k_ hk=>(⟨hk,fun e_=>hk.2 (by rw [e_];rfl)⟩:_∧k_≠go30))) (fun _ hk=>hk.2) (.string t888)) (fun _ hk=>hk.1.2))⟩
    have n3_:Aside0 ((w44.setCell ⟨go30,1,none⟩ (.string t888)).heap[gb868]?=some (.cells #[.slice none 0 0,.slice none 0 0] 31 (0,0))):=⟨by (with_reducible repeat (first|refine blk_drewN ?_ _|refine blk_drew ?_|refine blk_alloc ?_ _));refine blk_far ?_ (by have h_:=Kd.R_ne HO871.out BK868.out aD;intro e_;exact h_ (by rw [e_];rfl)) _;(with_reducible repeat (first|refine blk_drewN ?_ _|refine blk_drew ?_|refine blk_alloc ?_ _));exact BK868.out⟩
    have n4_:Aside0 ((w44.setCell ⟨go30,1,none⟩ (.string t888)).heap[gb876]?=some (.cells #[.slice (some ⟨go30,0,none⟩) t869.length co34,.slice Ao38 t872.length co38] 31 (0,0))):=⟨by (with_reducible repeat (first|refine blk_drewN ?_ _|refine blk_drew ?_|refine blk_alloc ?_ _));refine blk_far ?_ (by have h_:=Kd.R_ne HO871.out BK876.out aD;intro e_;exact h_ (by rw [e_];rfl)) _;(with_reducible repeat (first|refine blk_drewN ?_ _|refine blk_drew ?_|refine blk_alloc ?_ _));exact BK876.out⟩
    have n5_:Aside0 (IsS110 w0 (w44.setCell ⟨go30,1,none⟩ (.string t888)) g s0_0 t889):=⟨by repeat (first|(with_reducible first|exact HI0.out|apply IsS110.alloc|apply IsS110.drewN|apply IsS110.drew|apply IsS110.set_1|refine IsS110.far ?_ HN0_go30.out _|refine IsS110.far ?_ NB0_868.out _|refine IsS110.far ?_ NB0_876.out _)|exact HI0.out)⟩
    have n6_:Aside0 (KeepBut w (w44.setCell ⟨go30,1,none⟩ (.string t888)) g none):=⟨by repeat (first|(with_reducible first|exact HK.out|apply KeepBut.set_|apply keep_drewN|apply keep_drew|apply keep_alloc|refine keep_far ?_ GB30.out _|refine keep_far ?_ GW868.out _|refine keep_far ?_ GW876.out _)|exact HK.out)⟩
    have n7_:Aside0 (Below w0.heap.size w0 (w44.setCell ⟨go30,1,none⟩ (.string t888))):=⟨by repeat (first|(with_reducible first|exact HB.out|apply below_alloc|apply pw_below_drewN|apply below_drew1|refine below_set ?_ (Nat.le_trans HL.out GB30.out)|refine below_set ?_ (IsS110.ge HI0.out)|refine below_set ?_ GE868.out|refine below_set ?_ GE876.out)|exact HB.out)⟩
    (try clear HO871);(try clear HO874);(try clear HO887);(try clear BK868);(try clear BK876);(try clear HI0);(try clear HK);(try clear HB)
    generalize (w44.setCell ⟨go30,1,none⟩ (.string t888))=w46 at n0_ n1_ n2_ n3_ n4_ n5_ n6_ n7_ ⊢
    have HO871:=n0_;have HO874:=n1_;have HO887:=n2_;have BK868:=n3_;have BK876:=n4_;have HI0:=n5_;have HK:=n6_;have HB:=n7_;clear n0_ n1_ n2_ n3_ n4_ n5_ n6_ n7_;obtain ⟨hcz47_0,hcz47_1,hfz47_0,hfz47_1⟩:=box2 BK876.out;have hnb48:=NB868_0.out;have hnc48:=NB0_868.out;obtain ⟨hcz49_0,hcz49_1,hfz49_0,hfz49_1⟩:=box2 BK868.out
    try go_wp2
    refine bodyPost_ret (results_cell_row rfl _ _ gb868 31 #[.slice (some ⟨go30,0,none⟩) t869.length co34,.slice Ao38 t872.length co38] (0,0) _ rfl (pP BK868) Try.underlying31 rfl aK) rfl ?_
    exact ⟨_,_,by first|rfl|(simp [errW_none,errW_some]<;>rfl)|(simp [*,errW_none,errW_some]<;>rfl),pU HO871 BK868,pU HO874 BK868,IsS110.p HI0,pQ HB (IsS110.ge HI0.out),pH HK⟩
   ·rw [if_neg c29] at H
    exact absurd H (by simp)
  ·rw [if_neg c27] at H;have c27b0:(t877 == 1)=false:=beq_eq_false_iff_ne.mpr c27;have c27b1:(t877 != 1)=true:=bne_iff_ne.mpr c27
   by_cases c50:t877=2
   ·rw [if_pos c50] at H;obtain ⟨c50b0,c50b1⟩:=eqB c50;clear c50;obtain ⟨⟨t891,t894,t897⟩,A51,H⟩:=bI H;(try dsimp only at H);simp only [Option.some.injEq,Prod.mk.injEq] at H;obtain ⟨rfl,rfl,rfl⟩:=H
    go_enter Try.func61,Try.ntmps61
    go_wp2_with (first|(refine bE 2 #[.slice none 0 0,.slice none 0 0] 31 ?_;intro gb868 hg w52 hbox hb;replace HB:=mA (below_step (pQ HB (IsS110.ge HI0.out)) hb);have BK868:=mA hbox;have GW868:=mA (lG (kS HK) hg);have GE868:=mA (Nat.le_trans HW0.out (lG (kS HK) hg));replace HK:=mA (KeepBut.trans (pH HK) (KeepBut.of_below hb g none) (.inl rfl));have NB0_868:=mA (lN (IsS110.lt (show IsS110 w0 _ g s0_0 s0_1 from IsS110.p HI0)) hg);have NB868_0:=nS NB0_868;replace HI0:=mA (IsS110.below (IsS110.p HI0) hb);clear hb hbox hg)|(refine gL (some 5) Try.func85 #[.pointer (some ⟨g,0,none⟩)] ?_;(with_reducible refine (spec_l72Wal.calls k g s0_0 s0_1 t869 t872 t875 w0 _ ?s1 ?s2 A2.out).mono ?_);(case s1=>exact IsS110.p HI0);(case s2=>exact pQ HB (IsS110.ge HI0.out));rintro e w53 ⟨v870,v873,rfl,ho0,ho1,hi,hb,hk⟩;refine ⟨_,rfl,?_⟩;have HO871:=mA (Kd.R_lower ho0 (kS HK));have HO874:=mA (Kd.R_lower ho1 (kS HK));replace BK868:=mA (kB hk (pK BK868.out) NB868_0);replace HK:=mA (KeepBut.trans (pH HK) hk (.inl rfl));replace HB:=mA hb;replace HI0:=mA hi;(try clear hb);(try clear hk);(try clear hi);(try clear ho0);(try clear ho1))|(refine bE 3 #[.slice none 0 0,.slice none 0 0] 31 ?_;intro gb876 hg w54 hbox hb;replace HO871:=rB HO871 hb;replace HO874:=rB HO874 hb;replace HB:=mA (below_step (pQ HB (IsS110.ge HI0.out)) hb);have BK876:=mA hbox;have GW876:=mA (lG (kS HK) hg);have GE876:=mA (Nat.le_trans HW0.out (lG (kS HK) hg));replace HK:=mA (KeepBut.trans (pH HK) (KeepBut.of_below hb g none) (.inl rfl));have NB868_876:=mA (lN (blk_lt (pK BK868.out)) hg);have NB876_868:=nS NB868_876;replace BK868:=bK BK868 hb;have NB0_876:=mA (lN (IsS110.lt (show IsS110 w0 _ g s0_0 t875 from IsS110.p HI0)) hg);have NB876_0:=nS NB0_876;replace HI0:=mA (IsS110.below (IsS110.p HI0) hb);clear hb hbox hg;obtain ⟨Ao55,co55,rfl⟩:=Kd.R_slice HO871.out;have hnb56:=NB876_868.out;have hnc56:=NB868_876.out;have hnb57:=NB876_0.out;have hnc57:=NB0_876.out;obtain ⟨hcz58_0,hcz58_1,hfz58_0,hfz58_1⟩:=box2 BK876.out;obtain ⟨Ao59,co59,rfl⟩:=Kd.R_slice HO874.out)|(refine gL (some 7) Try.func75 #[.pointer (some ⟨g,0,none⟩),.int .i64 12] ?_;(with_reducible refine (spec_l6Rd_pick.calls k g s0_0 t875 12 t877 t878 w0 _ ?s1 ?s2 A3.out).mono ?_);(case s1=>exact IsS110.p HI0);(case s2=>exact pQ HB (IsS110.ge HI0.out));rintro e w60 ⟨rfl,hi,hb,hk⟩;refine ⟨_,rfl,?_⟩;replace HO871:=mA (rK (IsS110.apart (IsS110.p HI0) (pG HO871 BK876) aD) hk);replace HO874:=mA (rK (IsS110.apart (IsS110.p HI0) (pG HO874 BK876) aD) hk);replace BK868:=mA (kB hk (pF BK868.out) NB868_0);replace BK876:=mA (kP hk #[.slice Ao55 t869.length co55,.slice Ao59 t872.length co59] BK876 NB876_0);replace HK:=mA (KeepBut.trans (pH HK) hk (.inl rfl));replace HB:=mA hb;replace HI0:=mA hi;(try clear hb);(try clear hk);(try clear hi))|(refine gL (some 27) Try.func87 #[.pointer (some ⟨g,0,none⟩)] ?_;(with_reducible refine (spec_l72Sec.calls k g s0_0 t878 t891 t894 t897 w0 _ ?s1 ?s2 A51.out).mono ?_);(case s1=>exact IsS110.p HI0);(case s2=>exact pQ HB (IsS110.ge HI0.out));rintro e w61 ⟨v892,v895,rfl,ho0,ho1,hi,hb,hk⟩;refine ⟨_,rfl,?_⟩;have HO893:=mA (Kd.R_lower (Kd.R_new' ho0 (rL HO871)) (kS HK));replace HO871:=mA (Kd.R_mono (Kd.R_told (Kd.R_oldK (IsS110.apart (IsS110.p HI0) (pR HO871.out) aD) hk) (Kd.R_base ho0)) (fun _ h_=>h_.1));have HO896:=mA (Kd.R_lower (Kd.R_new' ho1 (rL HO874)) (kS HK));replace HO874:=mA (Kd.R_mono (Kd.R_told (Kd.R_oldK (IsS110.apart (IsS110.p HI0) (pR HO874.out) aD) hk) (Kd.R_base ho1)) (fun _ h_=>h_.1));replace BK868:=mA (kB hk (pK BK868.out) NB868_0);replace BK876:=mA (kB hk (pK BK876.out) NB876_0);replace HK:=mA (KeepBut.trans (pH HK) hk (.inl rfl));replace HB:=mA hb;replace HI0:=mA hi;(try clear hb);(try clear hk);(try clear hi);(try clear ho0);(try clear ho1);obtain ⟨Ao62,co62,rfl⟩:=Kd.R_slice HO893.out;obtain ⟨hcz63_0,hcz63_1,hfz63_0,hfz63_1⟩:=box2 BK876.out;obtain ⟨Ao64,co64,rfl⟩:=Kd.R_slice HO896.out;have hnb65:=NB868_0.out;have hnc65:=NB0_868.out;obtain ⟨hcz66_0,hcz66_1,hfz66_0,hfz66_1⟩:=box2 BK868.out))
    refine bodyPost_ret (results_cell_row rfl _ _ gb868 31 #[.slice Ao62 t891.length co62,.slice Ao64 t894.length co64] (0,0) _ rfl (pP BK868) Try.underlying31 rfl aK) rfl ?_
    exact ⟨_,_,by first|rfl|(simp [errW_none,errW_some]<;>rfl)|(simp [*,errW_none,errW_some]<;>rfl),pUU HO893 BK876 BK868,pUU HO896 BK876 BK868,IsS110.p HI0,pQ HB (IsS110.ge HI0.out),pH HK⟩
   ·rw [if_neg c50] at H;have c50b0:(t877 == 2)=false:=beq_eq_false_iff_ne.mpr c50;have c50b1:(t877 != 2)=true:=bne_iff_ne.mpr c50;simp only [Option.some.injEq,Prod.mk.injEq] at H;obtain ⟨rfl,rfl,rfl⟩:=H
    go_enter Try.func61,Try.ntmps61
    go_wp2_with (first|(refine bE 2 #[.slice none 0 0,.slice none 0 0] 31 ?_;intro gb868 hg w67 hbox hb;replace HB:=mA (below_step (pQ HB (IsS110.ge HI0.out)) hb);have BK868:=mA hbox;have GW868:=mA (lG (kS HK) hg);have GE868:=mA (Nat.le_trans HW0.out (lG (kS HK) hg));replace HK:=mA (KeepBut.trans (pH HK) (KeepBut.of_below hb g none) (.inl rfl));have NB0_868:=mA (lN (IsS110.lt (show IsS110 w0 _ g s0_0 s0_1 from IsS110.p HI0)) hg);have NB868_0:=nS NB0_868;replace HI0:=mA (IsS110.below (IsS110.p HI0) hb);clear hb hbox hg)|(refine gL (some 5) Try.func85 #[.pointer (some ⟨g,0,none⟩)] ?_;(with_reducible refine (spec_l72Wal.calls k g s0_0 s0_1 t869 t872 t875 w0 _ ?s1 ?s2 A2.out).mono ?_);(case s1=>exact IsS110.p HI0);(case s2=>exact pQ HB (IsS110.ge HI0.out));rintro e w68 ⟨v870,v873,rfl,ho0,ho1,hi,hb,hk⟩;refine ⟨_,rfl,?_⟩;have HO871:=mA (Kd.R_lower ho0 (kS HK));have HO874:=mA (Kd.R_lower ho1 (kS HK));replace BK868:=mA (kB hk (pK BK868.out) NB868_0);replace HK:=mA (KeepBut.trans (pH HK) hk (.inl rfl));replace HB:=mA hb;replace HI0:=mA hi;(try clear hb);(try clear hk);(try clear hi);(try clear ho0);(try clear ho1))|(refine bE 3 #[.slice none 0 0,.slice none 0 0] 31 ?_;intro gb876 hg w69 hbox hb;replace HO871:=rB HO871 hb;replace HO874:=rB HO874 hb;replace HB:=mA (below_step (pQ HB (IsS110.ge HI0.out)) hb);have BK876:=mA hbox;have GW876:=mA (lG (kS HK) hg);have GE876:=mA (Nat.le_trans HW0.out (lG (kS HK) hg));replace HK:=mA (KeepBut.trans (pH HK) (KeepBut.of_below hb g none) (.inl rfl));have NB868_876:=mA (lN (blk_lt (pK BK868.out)) hg);have NB876_868:=nS NB868_876;replace BK868:=bK BK868 hb;have NB0_876:=mA (lN (IsS110.lt (show IsS110 w0 _ g s0_0 t875 from IsS110.p HI0)) hg);have NB876_0:=nS NB0_876;replace HI0:=mA (IsS110.below (IsS110.p HI0) hb);clear hb hbox hg;obtain ⟨Ao70,co70,rfl⟩:=Kd.R_slice HO871.out;have hnb71:=NB876_868.out;have hnc71:=NB868_876.out;have hnb72:=NB876_0.out;have hnc72:=NB0_876.out;obtain ⟨hcz73_0,hcz73_1,hfz73_0,hfz73_1⟩:=box2 BK876.out;obtain ⟨Ao74,co74,rfl⟩:=Kd.R_slice HO874.out)|(refine gL (some 7) Try.func75 #[.pointer (some ⟨g,0,none⟩),.int .i64 12] ?_;(with_reducible refine (spec_l6Rd_pick.calls k g s0_0 t875 12 t877 t878 w0 _ ?s1 ?s2 A3.out).mono ?_);(case s1=>exact IsS110.p HI0);(case s2=>exact pQ HB (IsS110.ge HI0.out));rintro e w75 ⟨rfl,hi,hb,hk⟩;refine ⟨_,rfl,?_⟩;replace HO871:=mA (rK (IsS110.apart (IsS110.p HI0) (pG HO871 BK876) aD) hk);replace HO874:=mA (rK (IsS110.apart (IsS110.p HI0) (pG HO874 BK876) aD) hk);replace BK868:=mA (kB hk (pF BK868.out) NB868_0);replace BK876:=mA (kP hk #[.slice Ao70 t869.length co70,.slice Ao74 t872.length co74] BK876 NB876_0);replace HK:=mA (KeepBut.trans (pH HK) hk (.inl rfl));replace HB:=mA hb;replace HI0:=mA hi;(try clear hb);(try clear hk);(try clear hi);obtain ⟨hcz76_0,hcz76_1,hfz76_0,hfz76_1⟩:=box2 BK876.out;have hnb77:=NB868_0.out;have hnc77:=NB0_868.out;obtain ⟨hcz78_0,hcz78_1,hfz78_0,hfz78_1⟩:=box2 BK868.out))
    refine bodyPost_ret (results_cell_row rfl _ _ gb868 31 #[.slice Ao70 t869.length co70,.slice Ao74 t872.length co74] (0,0) _ rfl (pP BK868) Try.underlying31 rfl aK) rfl ?_
    exact ⟨_,_,by first|rfl|(simp [errW_none,errW_some]<;>rfl)|(simp [*,errW_none,errW_some]<;>rfl),pU HO871 BK868,pU HO874 BK868,IsS110.p HI0,pQ HB (IsS110.ge HI0.out),pH HK⟩

/-! ### spec_l6Open: function 62 -/
def spec_l6Open.f (l0 : List Int) : Option (List Int × Int) := if (l0.length : Int) > 2000 then (if 2000 ≤ (l0.length : Int) then (some (l0.take 2000, 0)) else (none)) else (some (l0, 0))
set_option maxHeartbeats 8000000 in
set_option maxRecDepth 100000 in
theorem spec_l6Open.calls (A0 : Option Addr) (c0 : Nat) (l0 : List Int) (r1 : List Int) (r2 : Int) (w0 w : World) (hB : Below w0.heap.size w0 w) (hr0 : Kd.C (Kd.int .u8) w0 A0 l0.length l0) (hc0 : l0.length ≤ c0) (h : spec_l6Open.f l0 = some (r1, r2)) :
  Calls Try.prog 62 #[.slice A0 l0.length c0] w fun e w'=>∃ g_:Nat,e=.returned (.pointer (some ⟨g_,0,none⟩))∧IsS110 w0 w' g_ r1 r2∧Below w0.heap.size w0 w'∧Below w.heap.size w w':=by
 have hu110:=Try.underlying110;have HR0:=mA hr0;have HC0:=mA hc0;clear hr0 hc0;have HBW:=mA (Below.refl w.heap.size w);have HW0:=mA hB.size;have HB:=mA hB;clear hB;have H:(if (l0.length:Int) > 2000 then (if 2000≤(l0.length:Int) then (some (l0.take 2000,0)) else (none)) else (some (l0,0)))=some (r1,r2):=h;clear h
 by_cases c2:(l0.length:Int) > 2000
 ·rw [if_pos c2] at H;have c2b0:decide (2000<(l0.length:Int))=true:=decide_eq_true c2
  have c2b1:decide (2000<l0.length)=true:=decide_eq_true (by omega)
  clear c2
  by_cases c3:2000≤(l0.length:Int)
  ·rw [if_pos c3] at H;have c3b0:=eq_true c3;have c3b1:decide (2000≤(l0.length:Int))=true:=decide_eq_true c3;clear c3;simp only [Option.some.injEq,Prod.mk.injEq] at H;obtain ⟨rfl,rfl⟩:=H;obtain ⟨i04,hi04,_,hsz4,_⟩:=info_parts info5
   obtain ⟨hcut4,hA4,hC4⟩:=print_take_of (P:=Try.prog) (Value.int .u8) 0 46 5 .i64 Try.underlying46 hi04 hsz4 A0 c0 l0 2000 (by omega) (of_decide_eq_true bA) HC0.out
   have HR898:=mA (Kd.C_of_reads (h1:=fun _=>rfl) (hA4 _ (Kd.reads_of_C HR0.out)));have HC898:=mA hC4;clear hA4 hC4 hi04 hsz4
   go_enter Try.func62,Try.ntmps62
   go_wp2_with (first|(refine bE 10 #[.slice A0 (l0.take 2000).length c0,.int .i64 0] 110 ?_;intro gb899 hg w5 hbox hb;replace HB:=spB HB hb;have BK899:=mA hbox;have GW899:=mA (lG (below_size (by repeat (first|(with_reducible first|exact HBW.out|apply below_alloc|apply pw_below_drewN|apply below_drew1)|exact HBW.out))) hg);have GE899:=mA (Nat.le_trans HW0.out (lG (below_size (by repeat (first|(with_reducible first|exact HBW.out|apply below_alloc|apply pw_below_drewN|apply below_drew1)|exact HBW.out))) hg));replace HBW:=mA (below_step HBW.out hb);clear hb hbox hg))
   go_ret
   exact ⟨_,rfl,(show IsS110 w0 _ gb899 (l0.take 2000) 0 from ⟨_,_,pK BK899.out,GE899.out,HR898.out⟩),pS HB.out,by repeat (first|(with_reducible first|exact HBW.out|apply below_alloc|apply pw_below_drewN|apply below_drew1|refine below_set ?_ GW899.out)|exact HBW.out)⟩
  ·rw [if_neg c3] at H
   exact absurd H (by simp)
 ·rw [if_neg c2] at H;have c2b0:decide (2000<(l0.length:Int))=false:=decide_eq_false c2
  have c2b1:decide (2000<l0.length)=false:=decide_eq_false (by omega)
  clear c2;simp only [Option.some.injEq,Prod.mk.injEq] at H;obtain ⟨rfl,rfl⟩:=H
  go_enter Try.func62,Try.ntmps62
  go_wp2_with (first|(refine bE 10 #[.slice A0 l0.length c0,.int .i64 0] 110 ?_;intro gb900 hg w6 hbox hb;replace HB:=spB HB hb;have BK900:=mA hbox;have GW900:=mA (lG (below_size (by repeat (first|(with_reducible first|exact HBW.out|apply below_alloc|apply pw_below_drewN|apply below_drew1)|exact HBW.out))) hg);have GE900:=mA (Nat.le_trans HW0.out (lG (below_size (by repeat (first|(with_reducible first|exact HBW.out|apply below_alloc|apply pw_below_drewN|apply below_drew1)|exact HBW.out))) hg));replace HBW:=mA (below_step HBW.out hb);clear hb hbox hg))
  go_ret
  exact ⟨_,rfl,(show IsS110 w0 _ gb900 l0 0 from ⟨_,_,pK BK900.out,GE900.out,HR0.out⟩),pS HB.out,by repeat (first|(with_reducible first|exact HBW.out|apply below_alloc|apply pw_below_drewN|apply below_drew1|refine below_set ?_ GW900.out)|exact HBW.out)⟩

/-! ### laws_lpTexts: function 31 -/
def laws_lpTexts.l0 : Nat → List ByteArray → List ByteArray → Int → Option (Bool)
 | 0,_,_,_=>none
 | k+1,x0,x1,x5=>if x5<(x0.length:Int) then (if 0≤x5 then (if x5<(x1.length:Int) then (if (rdOf ByteArray.empty x0 x5).toList=(rdOf ByteArray.empty x1 x5).toList then (laws_lpTexts.l0 k x0 x1 (wrap64 (x5+1))) else (some false)) else (none)) else (none)) else (some true)
def laws_lpTexts.f (k : Nat) (l0 : List ByteArray) (l1 : List ByteArray) : Option (Bool) := if (l0.length : Int) = (l1.length : Int) then (laws_lpTexts.l0 k l0 l1 0) else (some false)
theorem laws_lpTexts.mono_l : ∀ k, (∀ y0 y1 y2, LeO (laws_lpTexts.l0 k y0 y1 y2) (laws_lpTexts.l0 (k + 1) y0 y1 y2))
 | 0=>fun _ _ _ r h=>by simp [laws_lpTexts.l0] at h
 | k+1=>by
  have ih0:=laws_lpTexts.mono_l k
  ·intro y0 y1 y2
   unfold laws_lpTexts.l0
   repeat' first
   | (with_reducible first|exact ih0 _ _ _|exact LeO.refl _|exact LeO.none _|refine LeO.ite ?_ ?_|refine LeO.bind ?_ (fun _=>?_))|exact ih0 _ _ _|exact LeO.none _|refine LeO.ite ?_ ?_|refine LeO.bind ?_ (fun _=>?_)
theorem laws_lpTexts.mono : ∀ a0 a1 k, LeO (laws_lpTexts.f k a0 a1) (laws_lpTexts.f (k + 1) a0 a1) := by
 intro a0 a1 k;have ih0:=laws_lpTexts.mono_l k
 unfold laws_lpTexts.f
 repeat' first
   | (with_reducible first|exact ih0 _ _ _|exact LeO.refl _|exact LeO.none _|refine LeO.ite ?_ ?_|refine LeO.bind ?_ (fun _=>?_))|exact ih0 _ _ _|exact LeO.none _|refine LeO.ite ?_ ?_|refine LeO.bind ?_ (fun _=>?_)
set_option maxHeartbeats 8000000 in
set_option maxRecDepth 100000 in
theorem laws_lpTexts.calls (k : Nat) (A0 : Option Addr) (c0 : Nat) (l0 : List ByteArray) (A1 : Option Addr) (c1 : Nat) (l1 : List ByteArray) (r : Bool) (w : World) (hr0 : Kd.C Kd.string w A0 l0.length l0) (hc0 : l0.length ≤ c0) (hr1 : Kd.C Kd.string w A1 l1.length l1) (hc1 : l1.length ≤ c1) (h : laws_lpTexts.f k l0 l1 = some r) :
  Calls Try.prog 31 #[.slice A0 l0.length c0,.slice A1 l1.length c1] w fun e w'=>e=.returned (.bool r)∧Drawn0 w w':=by
 have HR0:=mA hr0;have HC0:=mA hc0;clear hr0 hc0;have HR1:=mA hr1;have HC1:=mA hc1;clear hr1 hc1;have H:(if (l0.length:Int)=(l1.length:Int) then (laws_lpTexts.l0 k l0 l1 0) else (some false))=some r:=h;clear h
 by_cases c3:(l0.length:Int)=(l1.length:Int)
 ·rw [if_pos c3] at H;have c3b0:((l0.length:Int) == (l1.length:Int))=true:=beq_iff_eq.mpr c3;have c3b1:((l0.length:Int) != (l1.length:Int))=false:=bne_eq_false_iff_eq.mpr c3
  have c3b2:(l0.length == l1.length)=true:=by first|simpa using c3|(simp at c3 ⊢;omega)
  clear c3;have H':=mA H;clear H
  go_enter Try.func31,Try.ntmps31
  go_wp2
  repeat (go_quiet (fail);try go_wp2)
  go_loopg [5] k (fun kq v5 w'=>∃ (x5_1:Int),v5=.int .i64 x5_1∧Aside0 (laws_lpTexts.l0 kq l0 l1 x5_1=some r)∧Aside0 (kq≤k)∧Drawn0 w w')
  case atStart=>exact ⟨(0),bZ,H',⟨Nat.le_refl _⟩,by repeat (first|exact Drawn0.refl _|apply Drawn0.step)⟩
  case round =>
   clear H'
   (try clear c3);(try clear c3b0);(try clear c3b1);(try clear c3b2)
   obtain ⟨x5_1,rfl,HA,HK1,⟨m1,rfl⟩⟩:=hrel
   cases gk with
   | zero=>exact absurd HA.out (by simp [laws_lpTexts.l0])
   | succ k1 =>
    have H:=HA.out;clear HA;simp only [laws_lpTexts.l0] at H
    by_cases c4:x5_1<(l0.length:Int)
    ·rw [if_pos c4] at H;have c4b0:decide (x5_1<(l0.length:Int))=true:=decide_eq_true c4;clear c4
     by_cases c5:0≤x5_1
     ·rw [if_pos c5] at H;have c5b0:decide (0≤x5_1)=true:=decide_eq_true c5;clear c5
      by_cases c6:x5_1<(l1.length:Int)
      ·rw [if_pos c6] at H;have c6b0:decide (x5_1<(l1.length:Int))=true:=decide_eq_true c6;clear c6
       by_cases c7:(rdOf ByteArray.empty l0 x5_1).toList=(rdOf ByteArray.empty l1 x5_1).toList
       ·rw [if_pos c7] at H;obtain ⟨c7b0,c7b1⟩:=eqB c7;clear c7;have H':=mA H;clear H;have p994:0≤(x5_1:Int):=of_decide_eq_true bA;have q994:x5_1<(l0.length:Int):=of_decide_eq_true bA;obtain ⟨ad994,e994,hx994_0⟩:=Kd.at_string HR0.out x5_1 p994 q994;cases e994;replace p994:=eq_true p994;replace q994:=eq_true q994;have p995:0≤(x5_1:Int):=of_decide_eq_true bA;have q995:x5_1<(l1.length:Int):=of_decide_eq_true bA;obtain ⟨ad995,e995,hx995_0⟩:=Kd.at_string HR1.out x5_1 p995 q995;cases e995;replace p995:=eq_true p995;replace q995:=eq_true q995
        go_wp2
        repeat (go_quiet (fail);try go_wp2)
        go_roundg k1
        case measure=>have:=HK1.out;omega
        case rel=>exact ⟨(wrap64 (x5_1+1)),bZ,H',⟨by have:=HK1.out;omega⟩,by repeat (first|exact Drawn0.refl _|apply Drawn0.step)⟩
       ·rw [if_neg c7] at H;have c7b0:((rdOf ByteArray.empty l0 x5_1).toList == (rdOf ByteArray.empty l1 x5_1).toList)=false:=beq_eq_false_iff_ne.mpr c7;have c7b1:((rdOf ByteArray.empty l0 x5_1).toList != (rdOf ByteArray.empty l1 x5_1).toList)=true:=bne_iff_ne.mpr c7;obtain rfl:=Option.some.inj H;have p994:0≤(x5_1:Int):=of_decide_eq_true bA;have q994:x5_1<(l0.length:Int):=of_decide_eq_true bA;obtain ⟨ad994,e994,hx994_0⟩:=Kd.at_string HR0.out x5_1 p994 q994;cases e994;replace p994:=eq_true p994;replace q994:=eq_true q994;have p995:0≤(x5_1:Int):=of_decide_eq_true bA;have q995:x5_1<(l1.length:Int):=of_decide_eq_true bA;obtain ⟨ad995,e995,hx995_0⟩:=Kd.at_string HR1.out x5_1 p995 q995;cases e995;replace p995:=eq_true p995;replace q995:=eq_true q995
        go_wp2
        repeat (go_quiet (fail);try go_wp2)
        go_ret
        exact ⟨by first|rfl|(simp;done)|(simp [*];done),by repeat (first|exact Drawn0.refl _|apply Drawn0.step)⟩
      ·rw [if_neg c6] at H
       exact absurd H (by simp)
     ·rw [if_neg c5] at H
      exact absurd H (by simp)
    ·rw [if_neg c4] at H;have c4b0:decide (x5_1<(l0.length:Int))=false:=decide_eq_false c4;clear c4;obtain rfl:=Option.some.inj H
     go_wp2
     repeat (go_quiet (fail);try go_wp2)
     go_ret
     exact ⟨by first|rfl|(simp;done)|(simp [*];done),by repeat (first|exact Drawn0.refl _|apply Drawn0.step)⟩
 ·rw [if_neg c3] at H;have c3b0:((l0.length:Int) == (l1.length:Int))=false:=beq_eq_false_iff_ne.mpr c3;have c3b1:((l0.length:Int) != (l1.length:Int))=true:=bne_iff_ne.mpr c3
  have c3b2:(l0.length == l1.length)=false:=by first|simpa using c3|(simp at c3 ⊢;omega)
  obtain rfl:=Option.some.inj H
  go_enter Try.func31,Try.ntmps31
  go_wp2
  repeat (go_quiet (fail);try go_wp2)
  go_ret
  exact ⟨by first|rfl|(simp;done)|(simp [*];done),by repeat (first|exact Drawn0.refl _|apply Drawn0.step)⟩

end Go.Proofs.Ythjocaegapchaaa.P
