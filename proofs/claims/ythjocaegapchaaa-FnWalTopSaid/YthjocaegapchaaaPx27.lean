-- printed by pprint.py (this session's program over the kit's printer) out of the translation. Lean checks it.
import Derived.Test.YthjocaegapchaaaPx0
import Derived.Test.YthjocaegapchaaaPx4
import Derived.Test.YthjocaegapchaaaPx6
import Derived.Test.YthjocaegapchaaaPx11
import Derived.Test.YthjocaegapchaaaPx12
namespace Go.Proofs.Ythjocaegapchaaa.P
open Go.RowKit Go.Proofs.YthjocaegapchaaaX Go.Proofs.YthjocaegapchaaaW.PrintWords Go.Proofs.YthjocaegapchaaaW.PrintLast Go.Proofs.YthjocaegapchaaaW.PrintMore
attribute [local go_sem] max2_int min2_int max_two min_two max_three min_three max_four min_four   -- for this text's walks alone
set_option linter.unusedVariables false
set_option linter.unusedSimpArgs false

/-! ### spec_DrawWalDo: function 41 -/
mutual
def spec_DrawWalDo.j0 : Nat → List (S61) → List Int → Int → List ByteArray → List (S75) → Option (List ByteArray × (List (S75)) × (List (S61)) × Bool × Int × List Int)
 | 0,_,_,_,_,_=>none
 | k+1,x11,x1276000,x1276001,x1284000,x1284001=>(spec_l6Rd_pick.f k x1276000 x1276001 40).bind fun bt1305=>(if bt1305.1=0 then ((spec_l6Rd_pick.f k x1276000 bt1305.2 2).bind fun bt1307=>(if 0≤(wrap64 (600+bt1307.1)) then (if (wrap64 (600+bt1307.1):Int).toNat≤8796093022208 then (spec_DrawWalDo.j1 k (List.replicate (wrap64 (600+bt1307.1):Int).toNat z61) x1276000 bt1307.2 x1284000 x1284001) else (none)) else (none))) else (spec_DrawWalDo.j1 k x11 x1276000 bt1305.2 x1284000 x1284001))
def spec_DrawWalDo.j1 : Nat → List (S61) → List Int → Int → List ByteArray → List (S75) → Option (List ByteArray × (List (S75)) × (List (S61)) × Bool × Int × List Int)
 | 0,_,_,_,_,_=>none
 | k+1,x11,x1276000,x1276001,x1284000,x1284001=>(spec_l6Rd_pick.f k x1276000 x1276001 2).bind fun bt1312=>((spec_l6Rd_pick.f k x1276000 bt1312.2 (wrap64 ((x11.length:Int)+3))).bind fun bt1314=>((spec_l72Bits.f k x1276000 bt1314.2 9).bind fun bt1316=>(some (x1284000,x1284001,x11,(bt1312.1 == 0),wrap64 (bt1314.1 - 1),bt1316.1))))
end
def spec_DrawWalDo.f (k : Nat) (l0 : List Int) : Option (List ByteArray × (List (S75)) × (List (S61)) × Bool × Int × List Int) := (spec_l6Open.f l0).bind fun bt1273 => ((spec_l72WalAny.f k bt1273.1 bt1273.2).bind fun bt1276 => ((spec_WalRead.f k bt1276.1 bt1276.2.1).bind fun bt1284 => ((spec_l72Homes.f k bt1273.1 bt1276.2.2 bt1284.1).bind fun bt1288 => ((spec_WalSteps.f k bt1276.1 bt1276.2.1 bt1288.1).bind fun bt1292 => ((spec_l6Rd_pick.f k bt1273.1 bt1288.2 4).bind fun bt1296 => (if bt1296.1 = 0 then ((spec_l6Rd_pick.f k bt1273.1 bt1296.2 9).bind fun bt1298 => ((spec_l72Text.f k bt1273.1 bt1298.2 17).bind fun bt1300 => (if bt1292.1.length < 4398046511104 then (spec_DrawWalDo.j0 k (bt1292.1 ++ [(⟨false, wrap64 (bt1298.1 - 1), bt1300.1⟩ : S61)]) bt1273.1 bt1300.2 bt1276.1 bt1276.2.1) else (none)))) else (spec_DrawWalDo.j0 k bt1292.1 bt1273.1 bt1296.2 bt1276.1 bt1276.2.1)))))))
theorem spec_DrawWalDo.mono_l : ∀ k, (∀ y0 y1 y2 y3 y4, LeO (spec_DrawWalDo.j0 k y0 y1 y2 y3 y4) (spec_DrawWalDo.j0 (k + 1) y0 y1 y2 y3 y4)) ∧ (∀ y0 y1 y2 y3 y4, LeO (spec_DrawWalDo.j1 k y0 y1 y2 y3 y4) (spec_DrawWalDo.j1 (k + 1) y0 y1 y2 y3 y4))
 | 0=>⟨fun _ _ _ _ _ r h=>by simp [spec_DrawWalDo.j0] at h,fun _ _ _ _ _ r h=>by simp [spec_DrawWalDo.j1] at h⟩
 | k+1=>by
  obtain ⟨ih0,ih1⟩:=spec_DrawWalDo.mono_l k;refine ⟨?_,?_⟩
  ·intro y0 y1 y2 y3 y4
   unfold spec_DrawWalDo.j0
   repeat' first
   | (with_reducible first|exact ih0 _ _ _ _ _|exact ih1 _ _ _ _ _|exact spec_WalRead.mono _ _ _|exact spec_WalSteps.mono _ _ _ _|exact spec_l6Rd_pick.mono _ _ _ _|exact spec_l72Bits.mono _ _ _ _|exact spec_l72Homes.mono _ _ _ _|exact spec_l72Text.mono _ _ _ _|exact spec_l72WalAny.mono _ _ _|exact LeO.refl _|exact LeO.none _|refine LeO.ite ?_ ?_|refine LeO.bind ?_ (fun _=>?_))|exact ih0 _ _ _ _ _|exact ih1 _ _ _ _ _|exact spec_WalRead.mono _ _ _|exact spec_WalSteps.mono _ _ _ _|exact spec_l6Rd_pick.mono _ _ _ _|exact spec_l72Bits.mono _ _ _ _|exact spec_l72Homes.mono _ _ _ _|exact spec_l72Text.mono _ _ _ _|exact spec_l72WalAny.mono _ _ _|exact LeO.none _|refine LeO.ite ?_ ?_|refine LeO.bind ?_ (fun _=>?_)
  ·intro y0 y1 y2 y3 y4
   unfold spec_DrawWalDo.j1
   repeat' first
   | (with_reducible first|exact ih0 _ _ _ _ _|exact ih1 _ _ _ _ _|exact spec_WalRead.mono _ _ _|exact spec_WalSteps.mono _ _ _ _|exact spec_l6Rd_pick.mono _ _ _ _|exact spec_l72Bits.mono _ _ _ _|exact spec_l72Homes.mono _ _ _ _|exact spec_l72Text.mono _ _ _ _|exact spec_l72WalAny.mono _ _ _|exact LeO.refl _|exact LeO.none _|refine LeO.ite ?_ ?_|refine LeO.bind ?_ (fun _=>?_))|exact ih0 _ _ _ _ _|exact ih1 _ _ _ _ _|exact spec_WalRead.mono _ _ _|exact spec_WalSteps.mono _ _ _ _|exact spec_l6Rd_pick.mono _ _ _ _|exact spec_l72Bits.mono _ _ _ _|exact spec_l72Homes.mono _ _ _ _|exact spec_l72Text.mono _ _ _ _|exact spec_l72WalAny.mono _ _ _|exact LeO.none _|refine LeO.ite ?_ ?_|refine LeO.bind ?_ (fun _=>?_)
theorem spec_DrawWalDo.mono : ∀ a0 k, LeO (spec_DrawWalDo.f k a0) (spec_DrawWalDo.f (k + 1) a0) := by
 intro a0 k;obtain ⟨ih0,ih1⟩:=spec_DrawWalDo.mono_l k
 unfold spec_DrawWalDo.f
 repeat' first
   | (with_reducible first|exact ih0 _ _ _ _ _|exact ih1 _ _ _ _ _|exact spec_WalRead.mono _ _ _|exact spec_WalSteps.mono _ _ _ _|exact spec_l6Rd_pick.mono _ _ _ _|exact spec_l72Bits.mono _ _ _ _|exact spec_l72Homes.mono _ _ _ _|exact spec_l72Text.mono _ _ _ _|exact spec_l72WalAny.mono _ _ _|exact LeO.refl _|exact LeO.none _|refine LeO.ite ?_ ?_|refine LeO.bind ?_ (fun _=>?_))|exact ih0 _ _ _ _ _|exact ih1 _ _ _ _ _|exact spec_WalRead.mono _ _ _|exact spec_WalSteps.mono _ _ _ _|exact spec_l6Rd_pick.mono _ _ _ _|exact spec_l72Bits.mono _ _ _ _|exact spec_l72Homes.mono _ _ _ _|exact spec_l72Text.mono _ _ _ _|exact spec_l72WalAny.mono _ _ _|exact LeO.none _|refine LeO.ite ?_ ?_|refine LeO.bind ?_ (fun _=>?_)
def spec_DrawWalDo.T4 : Bool × List (List Nat × List Nat) := (true, [([], []), ([], []), ([], []), ([1, 2], [1, 2]), ([0, 3, 3], [0, 3]), ([4], [4]), ([5], [5]), ([5], [5]), ([6, 4, 0, 1, 2, 3, 4, 5, 6], [6]), ([7, 8, 0, 1, 2, 3, 4, 5, 6, 7, 8], [7])])
def spec_DrawWalDo.B4 : List Nat := [0, 0, 0, 6, 15, 31, 63, 63, 127, 511]
theorem spec_DrawWalDo.tab4 : rtab .any (opsOf Try.f41 4) = spec_DrawWalDo.T4 := by kernel_rfl
theorem spec_DrawWalDo.bits4 : waitsOk spec_DrawWalDo.T4.2 spec_DrawWalDo.B4 = true := by kernel_rfl
def spec_DrawWalDo.T9 : Bool × List (List Nat × List Nat) := (true, [([], []), ([], []), ([], []), ([2], [2]), ([3], [3]), ([], []), ([], []), ([6], [6]), ([7], [7]), ([5, 8, 3], [5, 8]), ([9], [9]), ([], []), ([11, 9], [11]), ([0, 12, 0], [0]), ([1, 13, 0, 1, 13], [1]), ([4, 14, 0, 1, 2, 3, 4, 13, 14], [4]), ([10, 15, 0, 1, 2, 3, 4, 5, 6, 7, 8, 9, 10, 13, 14, 15], [10]), ([12, 16, 0, 1, 2, 3, 4, 5, 6, 7, 8, 9, 10, 11, 12, 13, 14, 15, 16], [12])])
def spec_DrawWalDo.B9 : List Nat := [0, 0, 0, 4, 12, 0, 0, 64, 192, 492, 1004, 0, 3052, 7149, 15343, 31743, 65535, 131071]
theorem spec_DrawWalDo.tab9 : rtab .any (opsOf Try.f41 9) = spec_DrawWalDo.T9 := by kernel_rfl
theorem spec_DrawWalDo.bits9 : waitsOk spec_DrawWalDo.T9.2 spec_DrawWalDo.B9 = true := by kernel_rfl
set_option maxHeartbeats 8000000 in
set_option maxRecDepth 100000 in
theorem spec_DrawWalDo.calls (k : Nat) (A0 : Option Addr) (c0 : Nat) (l0 : List Int) (r1 : List ByteArray) (r2 : List (S75)) (r3 : List (S61)) (r4 : Bool) (r5 : Int) (r6 : List Int) (w : World) (hr0 : Kd.C (Kd.int .u8) w A0 l0.length l0) (hc0 : l0.length ≤ c0) (h : spec_DrawWalDo.f k l0 = some (r1, r2, r3, r4, r5, r6)) :
  Calls Try.prog 41 #[.slice A0 l0.length c0] w fun e w'=>∃ v0_ v1_ v2_ v5_:Value,e=.returned (.tuple #[.agg #[v0_,v1_],v2_,.bool r4,.int .i64 r5,v5_])∧Kd.R Kd.string 9 w' w.heap.size (fun _=>True) v0_ r1∧Kd.R k75 75 w' w.heap.size (fun _=>True) v1_ r2∧Kd.R k61 61 w' w.heap.size (fun _=>True) v2_ r3∧Kd.R (Kd.int .i64) 3 w' w.heap.size (fun _=>True) v5_ r6∧Below w.heap.size w w':=by
 have hu31:=Try.underlying31;have hu61:=Try.underlying61;have HR0:=mA hr0;have HC0:=mA hc0;clear hr0 hc0;have HB:=mA (Below.refl w.heap.size w);have H:((spec_l6Open.f l0).bind fun bt1273=>((spec_l72WalAny.f k bt1273.1 bt1273.2).bind fun bt1276=>((spec_WalRead.f k bt1276.1 bt1276.2.1).bind fun bt1284=>((spec_l72Homes.f k bt1273.1 bt1276.2.2 bt1284.1).bind fun bt1288=>((spec_WalSteps.f k bt1276.1 bt1276.2.1 bt1288.1).bind fun bt1292=>((spec_l6Rd_pick.f k bt1273.1 bt1288.2 4).bind fun bt1296=>(if bt1296.1=0 then ((spec_l6Rd_pick.f k bt1273.1 bt1296.2 9).bind fun bt1298=>((spec_l72Text.f k bt1273.1 bt1298.2 17).bind fun bt1300=>(if bt1292.1.length<4398046511104 then (spec_DrawWalDo.j0 k (bt1292.1 ++ [(⟨false,wrap64 (bt1298.1 - 1),bt1300.1⟩:S61)]) bt1273.1 bt1300.2 bt1276.1 bt1276.2.1) else (none)))) else (spec_DrawWalDo.j0 k bt1292.1 bt1273.1 bt1296.2 bt1276.1 bt1276.2.1))))))))=some (r1,r2,r3,r4,r5,r6):=h;clear h;obtain ⟨⟨t1273,t1274⟩,A2,H⟩:=bI H;(try dsimp only at H);obtain ⟨⟨t1276,t1279,t1282⟩,A3,H⟩:=bI H;(try dsimp only at H);obtain ⟨⟨t1284,t1287⟩,A4,H⟩:=bI H;(try dsimp only at H);obtain ⟨⟨t1288,t1291⟩,A5,H⟩:=bI H;(try dsimp only at H);obtain ⟨⟨t1292,t1295⟩,A6,H⟩:=bI H;(try dsimp only at H);obtain ⟨⟨t1296,t1297⟩,A7,H⟩:=bI H;(try dsimp only at H);have HC8:=mA H;clear H
 go_enter Try.func41,Try.ntmps41
 try go_wp2_with (first|(refine bE 2 #[.slice none 0 0,.slice none 0 0] 31 ?_;intro gb1272 hg w9 hbox hb;have BK1272:=mA hbox;have GW1272:=gbpB HB hg;have GE1272:=gbpB HB hg;replace HB:=spB HB hb;clear hb hbox hg)|(refine gL (some 14) Try.func62 #[.slice A0 l0.length c0] ?_;(with_reducible refine (spec_l6Open.calls _ _ l0 t1273 t1274 w _ ?s1 ?s2 ?s3 A2.out).mono ?_);(case s1=>repeat (first|(with_reducible first|exact HB.out|apply below_alloc|apply pw_below_drewN|apply below_drew1|refine below_set ?_ GE1272.out)|exact HB.out));(case s2=>exact HR0.out);(case s3=>exact HC0.out);rintro e w10 ⟨g1275,rfl,hi,hb,hb2⟩;refine ⟨_,rfl,?_⟩;replace HB:=mA hb;have HI1275:=mA hi;have NB1275_1272:=mA (IsS110.ne_blk hi (blk_below (pK BK1272.out) hb2) aD);have NB1272_1275:=mA (Ne.symm (IsS110.ne_blk hi (blk_below (pK BK1272.out) hb2) aD));replace BK1272:=mA (blk_below (pK BK1272.out) hb2);(try clear hb);(try clear hb2);(try clear hi))|(refine gL (some 16) Try.func61 #[.pointer (some ⟨g1275,0,none⟩)] ?_;(with_reducible refine (spec_l72WalAny.calls k g1275 t1273 t1274 t1276 t1279 t1282 w _ ?s1 ?s2 A3.out).mono ?_);(case s1=>exact IsS110.p HI1275);(case s2=>exact pQ HB (IsS110.ge HI1275.out));rintro e w11 ⟨v1277,v1280,rfl,ho0,ho1,hi,hb,hk⟩;refine ⟨_,rfl,?_⟩;have HO1278:=mA (Kd.R_lower ho0 (below_size (pQ HB (IsS110.ge HI1275.out))));have HO1281:=mA (Kd.R_lower ho1 (below_size (pQ HB (IsS110.ge HI1275.out))));replace BK1272:=mA (kB hk (pK BK1272.out) NB1272_1275);replace HB:=mA hb;replace HI1275:=mA hi;(try clear hb);(try clear hk);(try clear hi);(try clear ho0);(try clear ho1))|(refine bE 8 #[.slice none 0 0,.slice none 0 0] 31 ?_;intro gb1283 hg w12 hbox hb;replace HO1278:=rB HO1278 hb;replace HO1281:=rB HO1281 hb;have BK1283:=mA hbox;have GW1283:=mA (lG (below_size (pQ HB (IsS110.ge HI1275.out))) hg);have GE1283:=mA (lG (below_size (pQ HB (IsS110.ge HI1275.out))) hg);replace HB:=mA (below_step (pQ HB (IsS110.ge HI1275.out)) hb);have NB1272_1283:=mA (lN (blk_lt (pK BK1272.out)) hg);have NB1283_1272:=nS NB1272_1283;replace BK1272:=bK BK1272 hb;have NB1275_1283:=mA (lN (IsS110.lt (show IsS110 w _ g1275 t1273 t1282 from IsS110.p HI1275)) hg);have NB1283_1275:=nS NB1275_1283;replace HI1275:=mA (IsS110.below (IsS110.p HI1275) hb);clear hb hbox hg;obtain ⟨Ao13,co13,rfl⟩:=Kd.R_slice HO1278.out;have hnb14:=NB1283_1272.out;have hnc14:=NB1272_1283.out;have hnb15:=NB1283_1275.out;have hnc15:=NB1275_1283.out;obtain ⟨hcz16_0,hcz16_1,hfz16_0,hfz16_1⟩:=box2 BK1283.out;obtain ⟨Ao17,co17,rfl⟩:=Kd.R_slice HO1281.out)|(refine gL (some 19) Try.func12 #[.agg #[.slice Ao13 t1276.length co13,.slice Ao17 t1279.length co17]] ?_;(with_reducible refine (spec_WalRead.calls k _ _ t1276 _ _ t1279 t1284 t1287 _ ?s1 ?s2 ?s3 ?s4 A4.out).mono ?_);(case s1=>refine (Kd.R_reads' (e:=9) (base:=w.heap.size) (ok:=fun k_=>True) (n:=t1276.length) (c:=co13) ?_).2.2;exact (pG HO1278 BK1283));(case s2=>exact cL HO1278);(case s3=>refine (Kd.R_reads' (e:=75) (base:=w.heap.size) (ok:=fun k_=>True) (n:=t1279.length) (c:=co17) ?_).2.2;exact (pG HO1281 BK1283));(case s4=>exact cL HO1281);rintro e w18 ⟨v1285,rfl,ho0,hb⟩;refine ⟨_,rfl,?_⟩;replace HO1281:=mA (Kd.R_below (pG HO1281 BK1283) hb);have HO1286:=mA (Kd.R_lower (Kd.R_new' ho0 (Kd.R_lt (pG HO1278 BK1283))) (below_size (pQ HB (IsS110.ge HI1275.out))));replace HO1278:=mA (Kd.R_elder' (pG HO1278 BK1283) (Kd.R_base ho0) hb);replace BK1272:=mA (blk_below (g:=gb1272) (o:=.cells #[.slice none 0 0,.slice none 0 0] 31 (0,0)) (pF BK1272.out) hb);replace BK1283:=mA (blk_below (g:=gb1283) (o:=.cells #[.slice Ao13 t1276.length co13,.slice Ao17 t1279.length co17] 31 (0,0)) (pP BK1283) hb);replace HB:=mA (below_step (pQ HB (IsS110.ge HI1275.out)) hb);replace HI1275:=mA (IsS110.below (show IsS110 w ((w12.setCell ⟨gb1283,0,none⟩ (.slice Ao13 t1276.length co13)).setCell ⟨gb1283,1,none⟩ (.slice Ao17 t1279.length co17)) g1275 t1273 t1282 from IsS110.p HI1275) hb);(try clear hb);(try clear ho0)))
 replace HO1278:=rD HO1278;replace HO1281:=rD HO1281;replace HO1286:=rD HO1286;replace BK1272:=mA (blk_drew BK1272.out);replace BK1283:=mA (blk_drew BK1283.out);replace HI1275:=mA (IsS110.drew HI1275.out);replace HB:=mA (below_drew1 HB.out);obtain ⟨Ao20,co20,eo20⟩:=Kd.R_slice HO1286.out
 (first|subst eo20|(injection eo20 with f1_ f2_ f3_;have f4_:=f1_.symm;have f5_:=f3_.symm;clear f1_ f2_ f3_;subst f4_;subst f5_))
 refine start_ (n:=10) (S:=fun w'=>w'.cell? ⟨gb1283,0,none⟩=some (.slice Ao13 t1276.length co13)∧w'.cell? ⟨gb1283,1,none⟩=some (.slice Ao17 t1279.length co17)) (ds:=[]) _ aK rfl rfl ⟨eC BK1283 0,eC BK1283 1⟩ (fun hHeld=>?_);refine with_tabW spec_DrawWalDo.tab4 spec_DrawWalDo.bits4 (fun HT_ HW_=>?_)
 generalize w18.drew=w19 at HO1278 HO1281 HO1286 BK1272 BK1283 HI1275 HB hHeld ⊢
 refine pu_ 1 (some 24) (aT HT_) ?_
 refine pu_ 2 (some 25) (aT HT_) ?_
 refine ta2_ 0 (some 23) (tT HT_ HW_) hHeld ?_
 refine on_ 3 (some 26) (oT HT_) ?_;intro K hK
 refine gS Try.func74 #[.pointer (some ⟨g1275,0,none⟩),.slice Ao20 t1284.length co20] ?_
 with_reducible refine (spec_l72Homes.calls k g1275 t1273 t1282 _ _ t1284 t1288 t1291 w _ ?s1 ?s2 ?s3 ?s4 ?s5 A5.out).mono ?_
 (case s1=>exact IsS110.p HI1275)
 (case s2=>exact pQ HB (IsS110.ge HI1275.out))
 (case s3=>exact cR HO1286)
 (case s4=>exact cL HO1286)
 (case s5=>exact far_slice (IsS110.own_ne HI1275.out HO1286.out aD))
 rintro e w21 ⟨v1289,rfl,ho0,hi,hb,hk⟩;refine ⟨_,rfl,?_⟩
 replace HO1281:=mA (rK (IsS110.apart (IsS110.p HI1275) (pR HO1281.out) aD) hk);have HO1290:=mA (Kd.R_lower (Kd.R_new' (Kd.R_new' ho0 (rL HO1278)) (rL HO1286)) (below_size (pQ HB (IsS110.ge HI1275.out))));replace HO1278:=mA (Kd.R_mono (Kd.R_told (Kd.R_oldK (IsS110.apart (IsS110.p HI1275) (pR HO1278.out) aD) hk) (Kd.R_base ho0)) (fun _ h_=>h_.1));replace HO1286:=mA (Kd.R_mono (Kd.R_told (Kd.R_oldK (IsS110.apart (IsS110.p HI1275) (pR HO1286.out) aD) hk) (Kd.R_base ho0)) (fun _ h_=>h_.1));replace BK1272:=mA (kB hk (pK BK1272.out) NB1272_1275);replace BK1283:=mA (kB hk (pK BK1283.out) NB1283_1275);replace HB:=mA hb;replace HI1275:=mA hi
 (try clear hb);(try clear hk);(try clear hi);(try clear ho0)
 obtain ⟨Ao22,co22,eo22⟩:=Kd.R_slice HO1290.out
 (first|subst eo22|(injection eo22 with f1_ f2_ f3_;have f4_:=f1_.symm;have f5_:=f3_.symm;clear f1_ f2_ f3_;subst f4_;subst f5_))
 refine hK.out _ _ ⟨eC BK1283 0,eC BK1283 1⟩ (fun hHeld=>?_);clear hK K;refine no_ (some 26) ?_
 refine on_ 4 (some 27) (oT HT_) ?_;intro K hK
 refine gS Try.func26 #[.agg #[.slice Ao13 t1276.length co13,.slice Ao17 t1279.length co17],.slice Ao22 t1288.length co22] ?_
 with_reducible refine (spec_WalSteps.calls k _ _ t1276 _ _ t1279 _ _ t1288 t1292 t1295 _ ?s1 ?s2 ?s3 ?s4 ?s5 ?s6 A6.out).mono ?_
 (case s1=>exact cR HO1278)
 (case s2=>exact cL HO1278)
 (case s3=>exact cR HO1281)
 (case s4=>exact cL HO1281)
 (case s5=>exact cR HO1290)
 (case s6=>exact cL HO1290)
 rintro e w23 ⟨v1293,rfl,ho0,hb⟩;refine ⟨_,rfl,?_⟩;replace HO1278:=rB HO1278 hb;replace HO1281:=rB HO1281 hb;replace HO1286:=rB HO1286 hb;replace HO1290:=rB HO1290 hb;have HO1294:=mA (Kd.R_lower ho0 (below_size (pQ HB (IsS110.ge HI1275.out))));replace BK1272:=bK BK1272 hb;replace BK1283:=bK BK1283 hb;replace HB:=mA (below_step (pQ HB (IsS110.ge HI1275.out)) hb);replace HI1275:=mA (IsS110.below (IsS110.p HI1275) hb)
 (try clear hb);(try clear ho0)
 refine hK.out _ _ ⟨eC BK1283 0,eC BK1283 1⟩ (fun hHeld=>?_);clear hK K;refine no_ (some 27) ?_
 refine pu_ 5 (some 22) (aT HT_) ?_
 refine pu_ 6 (some 28) (aT HT_) ?_
 refine pu_ 7 (some 29) (aT HT_) ?_
 refine pu_ 8 (some 11) (aT HT_) ?_
 refine pu_ 9 (some 12) (aT HT_) ?_
 refine done_ (done_of HT_.out aK) ?_
 go_upto_if 32 with (first|(refine gL (some 31) Try.func75 #[.pointer (some ⟨g1275,0,none⟩),.int .i64 4] ?_;(with_reducible refine (spec_l6Rd_pick.calls k g1275 t1273 t1291 4 t1296 t1297 w _ ?s1 ?s2 A7.out).mono ?_);(case s1=>exact IsS110.p HI1275);(case s2=>exact pQ HB (IsS110.ge HI1275.out));rintro e w24 ⟨rfl,hi,hb,hk⟩;refine ⟨_,rfl,?_⟩;replace HO1278:=mA (rK (IsS110.apart (IsS110.p HI1275) (pR HO1278.out) aD) hk);replace HO1281:=mA (rK (IsS110.apart (IsS110.p HI1275) (pR HO1281.out) aD) hk);replace HO1286:=mA (rK (IsS110.apart (IsS110.p HI1275) (pR HO1286.out) aD) hk);replace HO1290:=mA (rK (IsS110.apart (IsS110.p HI1275) (pR HO1290.out) aD) hk);replace HO1294:=mA (rK (IsS110.apart (IsS110.p HI1275) (pR HO1294.out) aD) hk);replace BK1272:=mA (kB hk (pK BK1272.out) NB1272_1275);replace BK1283:=mA (kB hk (pK BK1283.out) NB1283_1275);replace HB:=mA hb;replace HI1275:=mA hi;(try clear hb);(try clear hk);(try clear hi)))
 (try simp only [Act.put,List.setIfInBounds_toArray,List.set_cons_zero,List.set_cons_succ])
 go_cut [11] (fun v11 wc=>∃ (kq:Nat) (x11_7:List (S61)) (x1276001_7:Int),Aside0 (spec_DrawWalDo.j0 kq x11_7 t1273 x1276001_7 t1276 t1279=some (r1,r2,r3,r4,r5,r6))∧Aside0 (kq≤k)∧Aside0 (Kd.R k61 61 wc w.heap.size (fun _=>True) v11 x11_7)∧Aside0 (Kd.R Kd.string 9 wc w.heap.size (fun _=>True) (.slice Ao13 t1276.length co13) t1276)∧Aside0 (Kd.R k75 75 wc w.heap.size (fun _=>True) (.slice Ao17 t1279.length co17) t1279)∧Aside0 (wc.heap[gb1272]?=some (.cells #[(.slice none 0 0),(.slice none 0 0)] 31 (0,0)))∧Aside0 (wc.heap[gb1283]?=some (.cells #[(.slice Ao13 t1276.length co13),(.slice Ao17 t1279.length co17)] 31 (0,0)))∧Aside0 (IsS110 w wc g1275 t1273 x1276001_7)∧Aside0 (Below w.heap.size w wc))
 case first =>
  have H:=HC8.out;clear HC8
  by_cases c25:t1296=0
  ·rw [if_pos c25] at H;obtain ⟨c25b0,c25b1⟩:=eqB c25;clear c25
   (first|rw [c25b0]|(simp only [i64_w,i32_w];rw [c25b0])|skip)
   obtain ⟨⟨t1298,t1299⟩,A26,H⟩:=bI H;(try dsimp only at H);obtain ⟨⟨t1300,t1301⟩,A27,H⟩:=bI H;(try dsimp only at H)
   by_cases c28:t1292.length<4398046511104
   ·rw [if_pos c28] at H;have LMc28:=mA c28;clear c28;obtain ⟨y1302,hy1302⟩:∃ y_:List (S61),y_=(t1292 ++ [(⟨false,wrap64 (t1298 - 1),t1300⟩:S61)]):=⟨_,rfl⟩
    replace H:(spec_DrawWalDo.j0 k y1302 t1273 t1301 t1276 t1279)=some (r1,r2,r3,r4,r5,r6):=qH hy1302 H
    have Ny1302:=mA hy1302;clear hy1302;have H':=mA H;clear H
    go_wp2_with (first|(refine gL (some 35) Try.func75 #[.pointer (some ⟨g1275,0,none⟩),.int .i64 9] ?_;(with_reducible refine (spec_l6Rd_pick.calls k g1275 t1273 t1297 9 t1298 t1299 w _ ?s1 ?s2 A26.out).mono ?_);(case s1=>exact IsS110.p HI1275);(case s2=>exact pQ HB (IsS110.ge HI1275.out));rintro e w29 ⟨rfl,hi,hb,hk⟩;refine ⟨_,rfl,?_⟩;replace HO1278:=mA (rK (IsS110.apart (IsS110.p HI1275) (pR HO1278.out) aD) hk);replace HO1281:=mA (rK (IsS110.apart (IsS110.p HI1275) (pR HO1281.out) aD) hk);replace HO1286:=mA (rK (IsS110.apart (IsS110.p HI1275) (pR HO1286.out) aD) hk);replace HO1290:=mA (rK (IsS110.apart (IsS110.p HI1275) (pR HO1290.out) aD) hk);replace HO1294:=mA (rK (IsS110.apart (IsS110.p HI1275) (pR HO1294.out) aD) hk);replace BK1272:=mA (kB hk (pK BK1272.out) NB1272_1275);replace BK1283:=mA (kB hk (pK BK1283.out) NB1283_1275);replace HB:=mA hb;replace HI1275:=mA hi;(try clear hb);(try clear hk);(try clear hi))|(refine gL (some 38) Try.func78 #[.pointer (some ⟨g1275,0,none⟩),.int .i64 17] ?_;(with_reducible refine (spec_l72Text.calls k g1275 t1273 t1299 17 t1300 t1301 w _ ?s1 ?s2 A27.out).mono ?_);(case s1=>exact IsS110.p HI1275);(case s2=>exact pQ HB (IsS110.ge HI1275.out));rintro e w30 ⟨rfl,hi,hb,hk⟩;refine ⟨_,rfl,?_⟩;replace HO1278:=mA (rK (IsS110.apart (IsS110.p HI1275) (pR HO1278.out) aD) hk);replace HO1281:=mA (rK (IsS110.apart (IsS110.p HI1275) (pR HO1281.out) aD) hk);replace HO1286:=mA (rK (IsS110.apart (IsS110.p HI1275) (pR HO1286.out) aD) hk);replace HO1290:=mA (rK (IsS110.apart (IsS110.p HI1275) (pR HO1290.out) aD) hk);replace HO1294:=mA (rK (IsS110.apart (IsS110.p HI1275) (pR HO1294.out) aD) hk);replace BK1272:=mA (kB hk (pK BK1272.out) NB1272_1275);replace BK1283:=mA (kB hk (pK BK1283.out) NB1283_1275);replace HB:=mA hb;replace HI1275:=mA hi;(try clear hb);(try clear hk);(try clear hi))|((with_reducible refine gate_builtin (b:=.append) (xs:=#[.tmp 33,.tmp 40]) rfl ?_);at_builtin;refine Kd.R_append k61 (w0:=w) w.heap.size rfl (.tmp 33) (.tmp 40) 38 61 (.agg #[(.bool false),(.int .i64 0),(.string ⟨#[]⟩)]) 32 rfl Try.underlying38 info61 rfl aD (by omega) v1293 t1292 (⟨false,wrap64 (t1298 - 1),t1300⟩:S61) [.bool false,.int .i64 (wrap64 (t1298 - 1)),.string t1300] (fun _=>True) (fun _=>False) rfl rfl ?aP (fun _ hk=>hk.elim) ?aF ?aO ?aB ?aS ?aL ?_;(case aP=>exact k61_mkM _ _ _ (⟨false,wrap64 (t1298 - 1),t1300⟩:S61));(case aB=>exact (pQ HB (IsS110.ge HI1275.out)));(case aF=>exact (fun _ _=>trivial));(case aO=>exact (pR HO1294.out));(case aS=>exact (below_size (pQ HB (IsS110.ge HI1275.out))));(case aL=>have:=LMc28.out;omega);intro v1303 w31 ho hb hg hat;rw [← Ny1302.out] at ho;replace HO1278:=mA (Kd.R_over' (pR HO1278.out) (Kd.R_typed (pR HO1294.out)) aD hg);replace HO1281:=mA (Kd.R_over' (pR HO1281.out) (Kd.R_typed (pR HO1294.out)) aD hg);replace HO1286:=mA (Kd.R_over' (pR HO1286.out) (Kd.R_typed (pR HO1294.out)) aD hg);replace HO1290:=mA (Kd.R_over' (pR HO1290.out) (Kd.R_typed (pR HO1294.out)) aD hg);have HO1304:=mA ho;replace BK1272:=mA (blk_grown (pK BK1272.out) hg (rN HO1294 BK1272));replace HI1275:=mA (IsS110.grown (IsS110.p HI1275) hg (IsS110.own_ne HI1275.out HO1294.out aD));replace BK1283:=mA (blk_grown (pK BK1283.out) hg (rN HO1294 BK1283));replace HB:=mA hb;clear HO1294;clear ho hb hg hat))
    go_meet
    case rel=>exact ⟨_,(y1302),(t1301),H',⟨by first|omega|exact Nat.le_refl _⟩,⟨pR HO1304.out⟩,⟨pR (Kd.R_mono HO1278.out (fun _ hk=>trivial))⟩,⟨pR HO1281.out⟩,⟨pK BK1272.out⟩,⟨pK BK1283.out⟩,⟨IsS110.p HI1275⟩,⟨pQ HB (IsS110.ge HI1275.out)⟩⟩
   ·rw [if_neg c28] at H
    exact absurd H (by simp)
  ·rw [if_neg c25] at H;have c25b0:(t1296 == 0)=false:=beq_eq_false_iff_ne.mpr c25;have c25b1:(t1296 != 0)=true:=bne_iff_ne.mpr c25
   (first|rw [c25b0]|(simp only [i64_w,i32_w];rw [c25b0])|skip)
   have H':=mA H;clear H
   go_wp2
   go_meet
   case rel=>exact ⟨_,(t1292),(t1297),H',⟨by first|omega|exact Nat.le_refl _⟩,⟨pR HO1294.out⟩,⟨pR (Kd.R_mono HO1278.out (fun _ hk=>trivial))⟩,⟨pR HO1281.out⟩,⟨pK BK1272.out⟩,⟨pK BK1283.out⟩,⟨IsS110.p HI1275⟩,⟨pQ HB (IsS110.ge HI1275.out)⟩⟩
 case rest =>
  clear HC8
  (try clear hcz16_0);(try clear hcz16_1);(try clear hfz16_0);(try clear hfz16_1)
  obtain ⟨kq,x11_7,x1276001_7,HA,HJ7,HO_11,HO_1284000,HO_1284001,BK1272,BK1283,HI1275,HB⟩:=hcut
  cases kq with
  | zero=>exact absurd HA.out (by simp [spec_DrawWalDo.j0])
  | succ kj7 =>
   have H:=HA.out;clear HA;simp only [spec_DrawWalDo.j0] at H;obtain ⟨⟨t1305,t1306⟩,A32,H⟩:=bI H;(try dsimp only at H);have HC33:=mA H;clear H
   go_upto_if 44 with (first|(refine gL (some 43) Try.func75 #[.pointer (some ⟨g1275,0,none⟩),.int .i64 40] ?_;(with_reducible refine (spec_l6Rd_pick.calls kj7 g1275 t1273 x1276001_7 40 t1305 t1306 w _ ?s1 ?s2 A32.out).mono ?_);(case s1=>exact IsS110.p HI1275);(case s2=>exact pQ HB (IsS110.ge HI1275.out));rintro e w34 ⟨rfl,hi,hb,hk⟩;refine ⟨_,rfl,?_⟩;replace HO_11:=mA (rK (IsS110.apart (IsS110.p HI1275) (pR HO_11.out) aD) hk);replace HO_1284000:=mA (rK (IsS110.apart (IsS110.p HI1275) (pR HO_1284000.out) aD) hk);replace HO_1284001:=mA (rK (IsS110.apart (IsS110.p HI1275) (pR HO_1284001.out) aD) hk);replace BK1272:=mA (kB hk (pK BK1272.out) NB1272_1275);replace BK1283:=mA (kB hk (pK BK1283.out) NB1283_1275);replace HB:=mA hb;replace HI1275:=mA hi;(try clear hb);(try clear hk);(try clear hi)))
   (try simp only [Act.put,List.setIfInBounds_toArray,List.set_cons_zero,List.set_cons_succ])
   go_cut [11] (fun v11 wc=>∃ (kq:Nat) (x11_32:List (S61)) (x1276001_32:Int),Aside0 (spec_DrawWalDo.j1 kq x11_32 t1273 x1276001_32 t1276 t1279=some (r1,r2,r3,r4,r5,r6))∧Aside0 (kq≤kj7)∧Aside0 (Kd.R k61 61 wc w.heap.size (fun _=>True) v11 x11_32)∧Aside0 (Kd.R Kd.string 9 wc w.heap.size (fun _=>True) (.slice Ao13 t1276.length co13) t1276)∧Aside0 (Kd.R k75 75 wc w.heap.size (fun _=>True) (.slice Ao17 t1279.length co17) t1279)∧Aside0 (wc.heap[gb1272]?=some (.cells #[(.slice none 0 0),(.slice none 0 0)] 31 (0,0)))∧Aside0 (wc.heap[gb1283]?=some (.cells #[(.slice Ao13 t1276.length co13),(.slice Ao17 t1279.length co17)] 31 (0,0)))∧Aside0 (IsS110 w wc g1275 t1273 x1276001_32)∧Aside0 (Below w.heap.size w wc))
   case first =>
    have H:=HC33.out;clear HC33
    by_cases c35:t1305=0
    ·rw [if_pos c35] at H;obtain ⟨c35b0,c35b1⟩:=eqB c35;clear c35
     (first|rw [c35b0]|(simp only [i64_w,i32_w];rw [c35b0])|skip)
     obtain ⟨⟨t1307,t1308⟩,A36,H⟩:=bI H;(try dsimp only at H);obtain ⟨ji37,hji37⟩:∃ j_:Int,(wrap64 (600+t1307))=j_:=⟨_,rfl⟩
     replace H:(if 0≤(ji37) then (if (ji37:Int).toNat≤8796093022208 then (spec_DrawWalDo.j1 kj7 (List.replicate (ji37:Int).toNat z61) t1273 t1308 t1276 t1279) else (none)) else (none))=some (r1,r2,r3,r4,r5,r6):=by first|(rw [hji37] at H;exact H)|(simp only [hji37] at H ⊢;exact H)
     (try rw [hji37] at A36)
     have hji37w:(IntKind.i64.wrap (600+t1307))=ji37:=(i64_w _).trans hji37
     by_cases c38:0≤(ji37)
     ·rw [if_pos c38] at H;have c38b0:=eq_true c38;have c38b1:decide (0≤(ji37))=true:=decide_eq_true c38;clear c38
      by_cases c39:(ji37:Int).toNat≤8796093022208
      ·rw [if_pos c39] at H;have c39b0:=eq_true c39;have c39b1:decide ((ji37:Int).toNat≤8796093022208)=true:=decide_eq_true c39;clear c39;obtain ⟨y1309,hy1309⟩:∃ y_:List (S61),y_=(List.replicate (ji37:Int).toNat z61):=⟨_,rfl⟩
       replace H:(spec_DrawWalDo.j1 kj7 y1309 t1273 t1308 t1276 t1279)=some (r1,r2,r3,r4,r5,r6):=qH hy1309 H
       have Ny1309:=mA hy1309;clear hy1309;have H':=mA H;clear H
       go_wp2_with (first|(refine gL (some 46) Try.func75 #[.pointer (some ⟨g1275,0,none⟩),.int .i64 2] ?_;(with_reducible refine (spec_l6Rd_pick.calls kj7 g1275 t1273 t1306 2 t1307 t1308 w _ ?s1 ?s2 A36.out).mono ?_);(case s1=>exact IsS110.p HI1275);(case s2=>exact pQ HB (IsS110.ge HI1275.out));rintro e w40 ⟨rfl,hi,hb,hk⟩;refine ⟨_,rfl,?_⟩;replace HO_11:=mA (rK (IsS110.apart (IsS110.p HI1275) (pR HO_11.out) aD) hk);replace HO_1284000:=mA (rK (IsS110.apart (IsS110.p HI1275) (pR HO_1284000.out) aD) hk);replace HO_1284001:=mA (rK (IsS110.apart (IsS110.p HI1275) (pR HO_1284001.out) aD) hk);replace BK1272:=mA (kB hk (pK BK1272.out) NB1272_1275);replace BK1283:=mA (kB hk (pK BK1283.out) NB1283_1275);replace HB:=mA hb;replace HI1275:=mA hi;(try clear hb);(try clear hk);(try clear hi))|((with_reducible refine gate_dst (N:=48) rfl ?_);refine Kd.R_make k61 _ 61 rfl (N:=48) rfl 38 _ _ rfl ji37 rfl rfl Try.underlying38 (.agg #[(.bool false),(.int .i64 0),(.string ⟨#[]⟩)]) 32 info61 rfl aD (by omega) z61 (ok:=fun _=>True) (okp:=fun _=>True) (k61_mkM _ _ _ z61 ) (fun _ hk=>hk) trivial (of_decide_eq_true bA) (Nat.le_trans (Nat.mul_le_mul_right _ (of_decide_eq_true bA:ji37.toNat≤8796093022208)) (by omega)) (Below.refl _ _) (Nat.le_refl _) ?_;intro v1310 w41 ho42 hb hg_ hnew_;clear hg_ hnew_;(first|rw [← Ny1309.out] at ho42|(simp only [Int.reduceToNat] at ho42;rw [← Ny1309.out] at ho42));replace HO_1284000:=rB HO_1284000 hb;replace HO_1284001:=rB HO_1284001 hb;have HO1311:=mA (Kd.R_lower (Kd.R_new' ho42 (rL HO_11)) (below_size (pQ HB (IsS110.ge HI1275.out))));replace HO_11:=rE HO_11 ho42 hb;replace BK1272:=bK BK1272 hb;replace BK1283:=bK BK1283 hb;replace HB:=mA (below_step (pQ HB (IsS110.ge HI1275.out)) hb);replace HI1275:=mA (IsS110.below (IsS110.p HI1275) hb);clear hb ho42))
       go_meet
       case rel=>exact ⟨_,(y1309),(t1308),H',⟨by have:=HJ7.out;first|omega|exact Nat.le_refl _⟩,⟨pR (Kd.R_mono HO1311.out (fun _ hk=>trivial))⟩,⟨pR HO_1284000.out⟩,⟨pR HO_1284001.out⟩,⟨pK BK1272.out⟩,⟨pK BK1283.out⟩,⟨IsS110.p HI1275⟩,⟨pQ HB (IsS110.ge HI1275.out)⟩⟩
      ·rw [if_neg c39] at H
       exact absurd H (by simp)
     ·rw [if_neg c38] at H
      exact absurd H (by simp)
    ·rw [if_neg c35] at H;have c35b0:(t1305 == 0)=false:=beq_eq_false_iff_ne.mpr c35;have c35b1:(t1305 != 0)=true:=bne_iff_ne.mpr c35
     (first|rw [c35b0]|(simp only [i64_w,i32_w];rw [c35b0])|skip)
     have H':=mA H;clear H
     go_wp2
     go_meet
     case rel=>exact ⟨_,(x11_7),(t1306),H',⟨by have:=HJ7.out;first|omega|exact Nat.le_refl _⟩,⟨pR HO_11.out⟩,⟨pR HO_1284000.out⟩,⟨pR HO_1284001.out⟩,⟨pK BK1272.out⟩,⟨pK BK1283.out⟩,⟨IsS110.p HI1275⟩,⟨pQ HB (IsS110.ge HI1275.out)⟩⟩
   case rest =>
    clear HC33
    (try clear hcz16_0);(try clear hcz16_1);(try clear hfz16_0);(try clear hfz16_1)
    obtain ⟨kq,x11_32,x1276001_32,HA,HJ32,HO_11,HO_1284000,HO_1284001,BK1272,BK1283,HI1275,HB⟩:=hcut
    cases kq with
    | zero=>exact absurd HA.out (by simp [spec_DrawWalDo.j1])
    | succ kj32 =>
     have H:=HA.out;clear HA;simp only [spec_DrawWalDo.j1] at H;obtain ⟨⟨t1312,t1313⟩,A43,H⟩:=bI H;(try dsimp only at H);obtain ⟨⟨t1314,t1315⟩,A44,H⟩:=bI H;(try dsimp only at H);obtain ⟨⟨t1316,t1319⟩,A45,H⟩:=bI H;(try dsimp only at H);simp only [Option.some.injEq,Prod.mk.injEq] at H;obtain ⟨rfl,rfl,rfl,rfl,rfl,rfl⟩:=H
     try go_wp2
     replace HO_11:=rD HO_11;replace HO_1284000:=rD HO_1284000;replace HO_1284001:=rD HO_1284001;replace BK1272:=mA (blk_drew BK1272.out);replace BK1283:=mA (blk_drew BK1283.out);replace HI1275:=mA (IsS110.drew HI1275.out);replace HB:=mA (below_drew1 HB.out);obtain ⟨Ao47,co47,eo47⟩:=Kd.R_slice HO_11.out
     (first|subst eo47|(injection eo47 with f1_ f2_ f3_;have f4_:=f1_.symm;have f5_:=f3_.symm;clear f1_ f2_ f3_;subst f4_;subst f5_))
     refine start_ (n:=18) (S:=fun w'=>w'.cell? ⟨gb1283,0,none⟩=some (.slice Ao13 t1276.length co13)∧w'.cell? ⟨gb1283,1,none⟩=some (.slice Ao17 t1279.length co17)) (ds:=[]) _ aK rfl rfl ⟨eC BK1283 0,eC BK1283 1⟩ (fun hHeld=>?_);refine with_tabW spec_DrawWalDo.tab9 spec_DrawWalDo.bits9 (fun HT_ HW_=>?_)
     generalize wc.drew=w46 at HO_11 HO_1284000 HO_1284001 BK1272 BK1283 HI1275 HB hHeld ⊢
     refine pu_ 1 (some 50) (aT HT_) ?_
     refine pu_ 2 (some 51) (aT HT_) ?_
     refine pu_ 5 (some 54) (aT HT_) ?_
     refine pu_ 6 (some 55) (aT HT_) ?_
     refine pu_ 7 (some 56) (aT HT_) ?_
     refine pu_ 8 (some 57) (aT HT_) ?_
     refine pu_ 11 (some 60) (aT HT_) ?_
     refine ta2_ 0 (some 49) (tT HT_ HW_) hHeld ?_
     refine on_ 3 (some 52) (oT HT_) ?_;intro K hK
     refine gS Try.func75 #[.pointer (some ⟨g1275,0,none⟩),.int .i64 2] ?_
     with_reducible refine (spec_l6Rd_pick.calls kj32 g1275 t1273 x1276001_32 2 t1312 t1313 w _ ?s1 ?s2 A43.out).mono ?_
     (case s1=>exact IsS110.p HI1275)
     (case s2=>exact pQ HB (IsS110.ge HI1275.out))
     rintro e w48 ⟨rfl,hi,hb,hk⟩;refine ⟨_,rfl,?_⟩
     replace HO_11:=mA (rK (IsS110.apart (IsS110.p HI1275) (pR HO_11.out) aD) hk);replace HO_1284000:=mA (rK (IsS110.apart (IsS110.p HI1275) (pR HO_1284000.out) aD) hk);replace HO_1284001:=mA (rK (IsS110.apart (IsS110.p HI1275) (pR HO_1284001.out) aD) hk);replace BK1272:=mA (kB hk (pK BK1272.out) NB1272_1275);replace BK1283:=mA (kB hk (pK BK1283.out) NB1283_1275);replace HB:=mA hb;replace HI1275:=mA hi
     (try clear hb);(try clear hk);(try clear hi)
     refine hK.out _ _ ⟨eC BK1283 0,eC BK1283 1⟩ (fun hHeld=>?_);clear hK K;refine no_ (some 52) ?_
     refine pu_ 4 (some 53) (aT HT_) ?_
     refine on_ 9 (some 58) (oT HT_) ?_;intro K hK
     refine gS Try.func75 #[.pointer (some ⟨g1275,0,none⟩),.int .i64 (wrap64 ((x11_32.length:Int)+3))] ?_
     with_reducible refine (spec_l6Rd_pick.calls kj32 g1275 t1273 t1313 (wrap64 ((x11_32.length:Int)+3)) t1314 t1315 w _ ?s1 ?s2 A44.out).mono ?_
     (case s1=>exact IsS110.p HI1275)
     (case s2=>exact pQ HB (IsS110.ge HI1275.out))
     rintro e w49 ⟨rfl,hi,hb,hk⟩;refine ⟨_,rfl,?_⟩
     replace HO_11:=mA (rK (IsS110.apart (IsS110.p HI1275) (pR HO_11.out) aD) hk);replace HO_1284000:=mA (rK (IsS110.apart (IsS110.p HI1275) (pR HO_1284000.out) aD) hk);replace HO_1284001:=mA (rK (IsS110.apart (IsS110.p HI1275) (pR HO_1284001.out) aD) hk);replace BK1272:=mA (kB hk (pK BK1272.out) NB1272_1275);replace BK1283:=mA (kB hk (pK BK1283.out) NB1283_1275);replace HB:=mA hb;replace HI1275:=mA hi
     (try clear hb);(try clear hk);(try clear hi)
     refine hK.out _ _ ⟨eC BK1283 0,eC BK1283 1⟩ (fun hHeld=>?_);clear hK K;refine no_ (some 58) ?_
     refine pu_ 10 (some 59) (aT HT_) ?_
     refine on_ 12 (some 61) (oT HT_) ?_;intro K hK
     refine gS Try.func79 #[.pointer (some ⟨g1275,0,none⟩),.int .i64 9] ?_
     with_reducible refine (spec_l72Bits.calls kj32 g1275 t1273 t1315 9 t1316 t1319 w _ ?s1 ?s2 A45.out).mono ?_
     (case s1=>exact IsS110.p HI1275)
     (case s2=>exact pQ HB (IsS110.ge HI1275.out))
     rintro e w50 ⟨v1317,rfl,ho0,hi,hb,hk⟩;refine ⟨_,rfl,?_⟩
     replace HO_11:=mA (rK (IsS110.apart (IsS110.p HI1275) (pR HO_11.out) aD) hk);replace HO_1284000:=mA (rK (IsS110.apart (IsS110.p HI1275) (pR HO_1284000.out) aD) hk);replace HO_1284001:=mA (rK (IsS110.apart (IsS110.p HI1275) (pR HO_1284001.out) aD) hk);have HO1318:=mA (Kd.R_lower ho0 (below_size (pQ HB (IsS110.ge HI1275.out))));replace BK1272:=mA (kB hk (pK BK1272.out) NB1272_1275);replace BK1283:=mA (kB hk (pK BK1283.out) NB1283_1275);replace HB:=mA hb;replace HI1275:=mA hi
     (try clear hb);(try clear hk);(try clear hi);(try clear ho0)
     refine hK.out _ _ ⟨eC BK1283 0,eC BK1283 1⟩ (fun hHeld=>?_);clear hK K;refine no_ (some 61) ?_
     refine on_ 13 (none) (oT HT_) ?_;intro K hK
     have hs51:w50.cell? ⟨gb1272,0,none⟩=some (.slice none 0 0):=eC BK1272 0;have hfs51:=blk_frozen BK1272.out 0;have hns51_1:=NB1283_1272.out;have hms51_1:=NB1272_1283.out;have hs52:w50.cell? ⟨gb1272,1,none⟩=some (.slice none 0 0):=eC BK1272 1;have hfs52:=blk_frozen BK1272.out 1;have hns52_1:=NB1283_1272.out;have hms52_1:=NB1272_1283.out
     refine skip_ (w1:=?_) (by rfl) rfl ?_ ?_
     rotate_left
     ·go_simp;rfl
     refine hK.out _ _ ⟨((cell_far (p:=⟨gb1272,_,none⟩) NB1283_1272.out _).trans (((cell_far (p:=⟨gb1272,_,none⟩) NB1283_1272.out _).trans (hHeld.1)))),((cell_far (p:=⟨gb1272,_,none⟩) NB1283_1272.out _).trans (((cell_far (p:=⟨gb1272,_,none⟩) NB1283_1272.out _).trans (hHeld.2))))⟩ (fun hHeld=>?_);clear hK K
     refine pu_ 14 (some 3) (aT HT_) ?_
     refine pu_ 15 (some 4) (aT HT_) ?_
     refine pu_ 16 (some 5) (aT HT_) ?_
     refine pu_ 17 (some 6) (aT HT_) ?_
     refine done_ (done_of HT_.out aK) ?_
     try go_wp2
     refine bodyPost_ret (results_list (rs:=[.cell 2 31,.tmp 3,.tmp 4,.tmp 5,.tmp 6]) rfl (by simp) (.cell gb1272 31 #[.slice Ao13 t1276.length co13,.slice Ao17 t1279.length co17] (0,0) _ rfl (pP BK1272) Try.underlying31 rfl aK (.tmp (.tmp (.tmp (.tmp .nil)))))) rfl ?_
     exact ⟨_,_,_,_,by first|rfl|(simp [errW_none,errW_some]<;>rfl)|(simp [*,errW_none,errW_some]<;>rfl),pU HO_1284000 BK1272,pU HO_1284001 BK1272,pU HO_11 BK1272,pU HO1318 BK1272,pQ HB (IsS110.ge HI1275.out)⟩

/-! ### spec_l72SecAny: function 80 -/
def spec_l72SecAny.f (k : Nat) (s0_0 : List Int) (s0_1 : Int) : Option (List ByteArray × (List (S75)) × Int) := (spec_l72Sec.f k s0_0 s0_1).bind fun bt1321 => ((spec_l6Rd_pick.f k s0_0 bt1321.2.2 16).bind fun bt1329 => (if bt1329.1 = 0 then ((some (([(-1), (bt1321.1.length : Int)] : List Int) : List Int)).bind fun y1331 => ((spec_l6Rd_pick.f k s0_0 bt1329.2 2).bind fun bt1334 => (if 0 ≤ bt1334.1 then (if bt1334.1 < (y1331.length : Int) then (if bt1321.2.1.length < 5864062014805 then (some (bt1321.1, (bt1321.2.1 ++ [(⟨rd y1331 bt1334.1, (⟨#[]⟩ : ByteArray)⟩ : S75)]), bt1334.2)) else (none)) else (none)) else (none)))) else (if bt1329.1 = 1 then ((spec_l6Rd_pick.f k s0_0 bt1329.2 2).bind fun bt1340 => ((spec_l6Many.f k (⟨#[120]⟩ : ByteArray) (wrap64 (16 + bt1340.1))).bind fun t1342 => (if bt1321.2.1.length < 5864062014805 then (some (bt1321.1, (bt1321.2.1 ++ [(⟨0, t1342⟩ : S75)]), bt1340.2)) else (none)))) else (if bt1329.1 = 2 then ((spec_l6Rd_pick.f k s0_0 bt1329.2 2).bind fun bt1346 => ((spec_l6Many.f k (⟨#[120]⟩ : ByteArray) (wrap64 (16 + bt1346.1))).bind fun t1348 => (if bt1321.1.length < 8796093022208 then (some ((bt1321.1 ++ [t1348]), bt1321.2.1, bt1346.2)) else (none)))) else (if bt1329.1 = 3 then ((spec_l6Rd_pick.f k s0_0 bt1329.2 2).bind fun bt1352 => (if 0 ≤ (wrap64 (512 + bt1352.1)) then (if (wrap64 (512 + bt1352.1) : Int).toNat ≤ 17592186044416 then (some ((List.replicate (wrap64 (512 + bt1352.1) : Int).toNat (⟨#[]⟩ : ByteArray)), bt1321.2.1, bt1352.2)) else (none)) else (none))) else (some (bt1321.1, bt1321.2.1, bt1329.2)))))))
theorem spec_l72SecAny.mono : ∀ a0 a1 k, LeO (spec_l72SecAny.f k a0 a1) (spec_l72SecAny.f (k + 1) a0 a1) := by
 intro a0 a1 k
 unfold spec_l72SecAny.f
 repeat' first
   | (with_reducible first|exact spec_l6Many.mono _ _ _|exact spec_l6Rd_pick.mono _ _ _ _|exact spec_l72Sec.mono _ _ _|exact LeO.refl _|exact LeO.none _|refine LeO.ite ?_ ?_|refine LeO.bind ?_ (fun _=>?_))|exact spec_l6Many.mono _ _ _|exact spec_l6Rd_pick.mono _ _ _ _|exact spec_l72Sec.mono _ _ _|exact LeO.none _|refine LeO.ite ?_ ?_|refine LeO.bind ?_ (fun _=>?_)
def spec_l72SecAny.T4 : Bool × List (List Nat × List Nat) := (true, [([], []), ([0], [0]), ([], []), ([2], [2]), ([3], [3]), ([4], [4]), ([], []), ([6], [6]), ([5, 7], [5, 7]), ([8], [8]), ([9], [9]), ([10], [10]), ([1, 11, 7], [1, 11]), ([0, 1, 2, 3, 4, 5, 6, 7, 8, 9, 10, 11, 12], []), ([13, 12, 12, 0, 1, 2, 3, 4, 5, 6, 7, 8, 9, 10, 11, 12], [12, 13])])
def spec_l72SecAny.B4 : List Nat := [0, 1, 0, 4, 12, 28, 0, 64, 252, 508, 1020, 2044, 4095, 8191, 16383]
theorem spec_l72SecAny.tab4 : rtab .any (opsOf Try.f80 4) = spec_l72SecAny.T4 := by kernel_rfl
theorem spec_l72SecAny.bits4 : waitsOk spec_l72SecAny.T4.2 spec_l72SecAny.B4 = true := by kernel_rfl
def spec_l72SecAny.T6 : Bool × List (List Nat × List Nat) := (true, [([], []), ([0], [0]), ([], []), ([2], [2]), ([3], [3]), ([4, 3], [4]), ([5], [5]), ([6], [6]), ([1, 7, 5], [1, 7]), ([0, 1, 2, 3, 4, 5, 6, 7, 8], []), ([9, 8, 8, 0, 1, 2, 3, 4, 5, 6, 7, 8], [8, 9])])
def spec_l72SecAny.B6 : List Nat := [0, 1, 0, 4, 12, 28, 60, 124, 255, 511, 1023]
theorem spec_l72SecAny.tab6 : rtab .any (opsOf Try.f80 6) = spec_l72SecAny.T6 := by kernel_rfl
theorem spec_l72SecAny.bits6 : waitsOk spec_l72SecAny.T6.2 spec_l72SecAny.B6 = true := by kernel_rfl
def spec_l72SecAny.T8 : Bool × List (List Nat × List Nat) := (true, [([], []), ([0], [0]), ([], []), ([2], [2]), ([3], [3]), ([4, 3], [4]), ([5], [5]), ([1, 6, 5], [1, 6]), ([0, 1, 2, 3, 4, 5, 6, 7], []), ([8, 7, 7, 0, 1, 2, 3, 4, 5, 6, 7], [7, 8])])
def spec_l72SecAny.B8 : List Nat := [0, 1, 0, 4, 12, 28, 60, 127, 255, 511]
theorem spec_l72SecAny.tab8 : rtab .any (opsOf Try.f80 8) = spec_l72SecAny.T8 := by kernel_rfl
theorem spec_l72SecAny.bits8 : waitsOk spec_l72SecAny.T8.2 spec_l72SecAny.B8 = true := by kernel_rfl
set_option maxHeartbeats 8000000 in
set_option maxRecDepth 100000 in
theorem spec_l72SecAny.calls (k : Nat) (g : Nat) (s0_0 : List Int) (s0_1 : Int) (r1 : List ByteArray) (r2 : List (S75)) (r3 : Int) (w0 w : World) (hI : IsS110 w0 w g s0_0 s0_1) (hB : Below w0.heap.size w0 w) (h : spec_l72SecAny.f k s0_0 s0_1 = some (r1, r2, r3)) :
  Calls Try.prog 80 #[.pointer (some ⟨g,0,none⟩)] w fun e w'=>∃ v0_ v1_:Value,e=.returned (.agg #[v0_,v1_])∧Kd.R Kd.string 9 w' w.heap.size (fun _=>True) v0_ r1∧Kd.R k75 75 w' w.heap.size (fun _=>True) v1_ r2∧IsS110 w0 w' g s0_0 r3∧Below w0.heap.size w0 w'∧KeepBut w w' g none:=by
 have hu31:=Try.underlying31;have hu75:=Try.underlying75;have HI0:=mA hI;have HK:=mA (KeepBut.refl w g none);have HL:=mA hB.size;clear hI;have HW0:=mA hB.size;have HB:=mA hB;clear hB;have H:((spec_l72Sec.f k s0_0 s0_1).bind fun bt1321=>((spec_l6Rd_pick.f k s0_0 bt1321.2.2 16).bind fun bt1329=>(if bt1329.1=0 then ((some (([(-1),(bt1321.1.length:Int)]:List Int):List Int)).bind fun y1331=>((spec_l6Rd_pick.f k s0_0 bt1329.2 2).bind fun bt1334=>(if 0≤bt1334.1 then (if bt1334.1<(y1331.length:Int) then (if bt1321.2.1.length<5864062014805 then (some (bt1321.1,(bt1321.2.1 ++ [(⟨rd y1331 bt1334.1,(⟨#[]⟩:ByteArray)⟩:S75)]),bt1334.2)) else (none)) else (none)) else (none)))) else (if bt1329.1=1 then ((spec_l6Rd_pick.f k s0_0 bt1329.2 2).bind fun bt1340=>((spec_l6Many.f k (⟨#[120]⟩:ByteArray) (wrap64 (16+bt1340.1))).bind fun t1342=>(if bt1321.2.1.length<5864062014805 then (some (bt1321.1,(bt1321.2.1 ++ [(⟨0,t1342⟩:S75)]),bt1340.2)) else (none)))) else (if bt1329.1=2 then ((spec_l6Rd_pick.f k s0_0 bt1329.2 2).bind fun bt1346=>((spec_l6Many.f k (⟨#[120]⟩:ByteArray) (wrap64 (16+bt1346.1))).bind fun t1348=>(if bt1321.1.length<8796093022208 then (some ((bt1321.1 ++ [t1348]),bt1321.2.1,bt1346.2)) else (none)))) else (if bt1329.1=3 then ((spec_l6Rd_pick.f k s0_0 bt1329.2 2).bind fun bt1352=>(if 0≤(wrap64 (512+bt1352.1)) then (if (wrap64 (512+bt1352.1):Int).toNat≤17592186044416 then (some ((List.replicate (wrap64 (512+bt1352.1):Int).toNat (⟨#[]⟩:ByteArray)),bt1321.2.1,bt1352.2)) else (none)) else (none))) else (some (bt1321.1,bt1321.2.1,bt1329.2))))))))=some (r1,r2,r3):=h;clear h;obtain ⟨⟨t1321,t1324,t1327⟩,A2,H⟩:=bI H;(try dsimp only at H);obtain ⟨⟨t1329,t1330⟩,A3,H⟩:=bI H;(try dsimp only at H)
 by_cases c4:t1329=0
 ·rw [if_pos c4] at H;obtain ⟨c4b0,c4b1⟩:=eqB c4;clear c4;obtain ⟨y1331,hy1331⟩:∃ y_:List Int,y_=(([(-1),(t1321.length:Int)]:List Int)):=⟨_,rfl⟩
  replace H:((spec_l6Rd_pick.f k s0_0 t1330 2).bind fun bt1334=>(if 0≤bt1334.1 then (if bt1334.1<(y1331.length:Int) then (if t1324.length<5864062014805 then (some (t1321,(t1324 ++ [(⟨rd y1331 bt1334.1,(⟨#[]⟩:ByteArray)⟩:S75)]),bt1334.2)) else (none)) else (none)) else (none)))=some (r1,r2,r3):=qH hy1331 H
  have Ny1331:=mA hy1331;clear hy1331;obtain ⟨⟨t1334,t1335⟩,A5,H⟩:=bI H;(try dsimp only at H)
  by_cases c6:0≤t1334
  ·rw [if_pos c6] at H;have c6b0:decide (0≤t1334)=true:=decide_eq_true c6;clear c6
   by_cases c7:t1334<(y1331.length:Int)
   ·rw [if_pos c7] at H;have c7b0:decide (t1334<(y1331.length:Int))=true:=decide_eq_true c7;clear c7
    by_cases c8:t1324.length<5864062014805
    ·rw [if_pos c8] at H;have LMc8:=mA c8;clear c8;obtain ⟨y1337,hy1337⟩:∃ y_:List (S75),y_=(t1324 ++ [(⟨rd y1331 t1334,(⟨#[]⟩:ByteArray)⟩:S75)]):=⟨_,rfl⟩
     replace H:(some (t1321,y1337,t1335))=some (r1,r2,r3):=qH hy1337 H
     have Ny1337:=mA hy1337;clear hy1337;simp only [Option.some.injEq,Prod.mk.injEq] at H;obtain ⟨rfl,rfl,rfl⟩:=H
     go_enter Try.func80,Try.ntmps80
     try go_wp2_with (first|(refine bE 2 #[.slice none 0 0,.slice none 0 0] 31 ?_;intro gb1320 hg w9 hbox hb;replace HB:=mA (below_step (pQ HB (IsS110.ge HI0.out)) hb);have BK1320:=mA hbox;have GW1320:=mA (lG (kS HK) hg);have GE1320:=mA (Nat.le_trans HW0.out (lG (kS HK) hg));replace HK:=mA (KeepBut.trans (pH HK) (KeepBut.of_below hb g none) (.inl rfl));have NB0_1320:=mA (lN (IsS110.lt (show IsS110 w0 _ g s0_0 s0_1 from IsS110.p HI0)) hg);have NB1320_0:=nS NB0_1320;replace HI0:=mA (IsS110.below (IsS110.p HI0) hb);clear hb hbox hg)|(refine gL (some 5) Try.func87 #[.pointer (some ⟨g,0,none⟩)] ?_;(with_reducible refine (spec_l72Sec.calls k g s0_0 s0_1 t1321 t1324 t1327 w0 _ ?s1 ?s2 A2.out).mono ?_);(case s1=>exact IsS110.p HI0);(case s2=>exact pQ HB (IsS110.ge HI0.out));rintro e w10 ⟨v1322,v1325,rfl,ho0,ho1,hi,hb,hk⟩;refine ⟨_,rfl,?_⟩;have HO1323:=mA (Kd.R_lower ho0 (kS HK));have HO1326:=mA (Kd.R_lower ho1 (kS HK));replace BK1320:=mA (kB hk (pK BK1320.out) NB1320_0);replace HK:=mA (KeepBut.trans (pH HK) hk (.inl rfl));replace HB:=mA hb;replace HI0:=mA hi;(try clear hb);(try clear hk);(try clear hi);(try clear ho0);(try clear ho1))|(refine bE 3 #[.slice none 0 0,.slice none 0 0] 31 ?_;intro gb1328 hg w11 hbox hb;replace HO1323:=rB HO1323 hb;replace HO1326:=rB HO1326 hb;replace HB:=mA (below_step (pQ HB (IsS110.ge HI0.out)) hb);have BK1328:=mA hbox;have GW1328:=mA (lG (kS HK) hg);have GE1328:=mA (Nat.le_trans HW0.out (lG (kS HK) hg));replace HK:=mA (KeepBut.trans (pH HK) (KeepBut.of_below hb g none) (.inl rfl));have NB1320_1328:=mA (lN (blk_lt (pK BK1320.out)) hg);have NB1328_1320:=nS NB1320_1328;replace BK1320:=bK BK1320 hb;have NB0_1328:=mA (lN (IsS110.lt (show IsS110 w0 _ g s0_0 t1327 from IsS110.p HI0)) hg);have NB1328_0:=nS NB0_1328;replace HI0:=mA (IsS110.below (IsS110.p HI0) hb);clear hb hbox hg;obtain ⟨Ao12,co12,rfl⟩:=Kd.R_slice HO1323.out;have hnb13:=NB1328_1320.out;have hnc13:=NB1320_1328.out;have hnb14:=NB1328_0.out;have hnc14:=NB0_1328.out;obtain ⟨hcz15_0,hcz15_1,hfz15_0,hfz15_1⟩:=box2 BK1328.out;obtain ⟨Ao16,co16,rfl⟩:=Kd.R_slice HO1326.out)|(refine gL (some 7) Try.func75 #[.pointer (some ⟨g,0,none⟩),.int .i64 16] ?_;(with_reducible refine (spec_l6Rd_pick.calls k g s0_0 t1327 16 t1329 t1330 w0 _ ?s1 ?s2 A3.out).mono ?_);(case s1=>exact IsS110.p HI0);(case s2=>exact pQ HB (IsS110.ge HI0.out));rintro e w17 ⟨rfl,hi,hb,hk⟩;refine ⟨_,rfl,?_⟩;replace HO1323:=mA (rK (IsS110.apart (IsS110.p HI0) (pG HO1323 BK1328) aD) hk);replace HO1326:=mA (rK (IsS110.apart (IsS110.p HI0) (pG HO1326 BK1328) aD) hk);replace BK1320:=mA (kB hk (pF BK1320.out) NB1320_0);replace BK1328:=mA (kP hk #[.slice Ao12 t1321.length co12,.slice Ao16 t1324.length co16] BK1328 NB1328_0);replace HK:=mA (KeepBut.trans (pH HK) hk (.inl rfl));replace HB:=mA hb;replace HI0:=mA hi;(try clear hb);(try clear hk);(try clear hi)))
     have pi1336:(0≤(t1334:Int))=True:=eq_true (of_decide_eq_true bA);have qi1336:(t1334<(y1331.length:Int))=True:=eq_true (of_decide_eq_true bA);replace HO1323:=rD HO1323;replace HO1326:=rD HO1326;replace BK1320:=mA (blk_drew BK1320.out);replace BK1328:=mA (blk_drew BK1328.out);replace HI0:=mA (IsS110.drew HI0.out);replace HK:=mA (keep_drew HK.out);replace HB:=mA (below_drew1 HB.out)
     refine start_ (n:=15) (S:=fun w'=>w'.cell? ⟨gb1328,0,none⟩=some (.slice Ao12 t1321.length co12)∧w'.cell? ⟨gb1328,1,none⟩=some (.slice Ao16 t1324.length co16)) (ds:=[14]) _ aK rfl rfl ⟨eC BK1328 0,eC BK1328 1⟩ (fun hHeld=>?_);refine with_tabW spec_l72SecAny.tab4 spec_l72SecAny.bits4 (fun HT_ HW_=>?_)
     generalize w17.drew=w18 at HO1323 HO1326 BK1320 BK1328 HI0 HK HB hHeld ⊢
     refine pul_ 0 (some 10) #[true,false,false,false,false,false,false,false,false,false,false,false,false,false,false] (aT HT_) ?_
     refine pul_ 2 (some 12) #[true,false,true,false,false,false,false,false,false,false,false,false,false,false,false] (aT HT_) ?_
     refine pul_ 6 (some 16) #[true,false,true,false,false,false,true,false,false,false,false,false,false,false,false] (aT HT_) ?_
     refine ta2l_ 1 (some 11) #[true,true,true,false,false,false,true,false,false,false,false,false,false,false,false] (tT HT_ HW_) hHeld ?_
     refine ta2l_ 3 (some 13) #[true,true,true,true,false,false,true,false,false,false,false,false,false,false,false] (tT HT_ HW_) hHeld ?_
     refine pul_ 4 (some 14) #[true,true,true,true,true,false,true,false,false,false,false,false,false,false,false] (aT HT_) ?_
     refine join_ (σ:=Value × Addr) 7 #[true,true,true,true,true,true,true,true,false,false,false,false,false,false,false] (fun s_=>[(15,s_.1),(17,.int .i64 t1334)]) (fun s_ w'=>(w'.cell? ⟨gb1328,0,none⟩=some (.slice Ao12 t1321.length co12)∧w'.cell? ⟨gb1328,1,none⟩=some (.slice Ao16 t1324.length co16))∧(Kd.R Kd.string 9 w' w.heap.size (fun _=>True) (.slice Ao12 t1321.length co12) t1321)∧(Kd.R k75 75 w' w.heap.size (fun _=>True) (.slice Ao16 t1324.length co16) t1324)∧(Kd.R (Kd.int .i64) 3 w' w.heap.size (fun _=>True) s_.1 y1331)∧(∃ c_,(s_.1:Value)=.slice (some s_.2) y1331.length c_)∧(w'.heap[gb1320]?=some (.cells #[.slice none 0 0,.slice none 0 0] 31 (0,0)))∧(w'.heap[gb1328]?=some (.cells #[.slice Ao12 t1321.length co12,.slice Ao16 t1324.length co16] 31 (0,0)))∧(IsS110 w0 w' g s0_0 t1335)∧(KeepBut w w' g none)∧(Below w0.heap.size w0 w')) ?_ ?_;rotate_left
     ·intro hCont
      refine two_ (i:=5) (j:=7) (Ni:=some 15) (Nj:=some 17) #[true,true,true,true,true,true,true,false,false,false,false,false,false,false,false] #[true,true,true,true,true,false,true,true,false,false,false,false,false,false,false] rfl rfl rfl rfl (two_of HT_.out aK) aD aD (fun K hK=>?_) (fun K hK=>?_)
      ·skip
       refine Kd.R_lit_step (Kd.int .i64) _ 3 ?hg (N:=15) ?hd (xs:=([(-1),(t1321.length:Int)]:List Int)) (inner:=[.int .i64 (-1),.int .i64 (t1321.length:Int)]) (ok:=fun _=>True) (okp:=fun _=>True) ?hr ?hp (fun _ hk=>hk) trivial (Below.refl _ _) (Nat.le_refl _) (by simp) ?_;(case hd=>rfl);(case hg=>rfl);(case hr=>first|(go_simp;done)|(go_simp;rfl));(case hp=>exact (Reps.one (show Kd.M (Kd.int .i64) _ _ _ (-1) [.int .i64 (-1)] from rfl) (Reps.one (show Kd.M (Kd.int .i64) _ _ _ (t1321.length:Int) [.int .i64 (t1321.length:Int)] from rfl) (Reps.none _ _))))
       intro v1332 w19 ho20 hb hg_ hnew_;clear hg_ hnew_
       (first|rw [← Ny1331.out] at ho20|(simp only [Int.reduceToNat] at ho20;rw [← Ny1331.out] at ho20))
       replace HO1323:=rB HO1323 hb;replace HO1326:=rB HO1326 hb;have HO1333:=mA (Kd.R_lower ho20 (kS HK));replace BK1320:=bK BK1320 hb;replace BK1328:=bK BK1328 hb;replace HK:=mA (KeepBut.trans (pH HK) (KeepBut.of_below hb g none) (.inl rfl));replace HB:=mA (below_step (pQ HB (IsS110.ge HI0.out)) hb);replace HI0:=mA (IsS110.below (IsS110.p HI0) hb);clear hb ho20;obtain ⟨Ao21,co21,rfl⟩:=Kd.R_slice HO1333.out
       obtain ⟨ado21,fo21,_⟩:=Kd.at_int (Kd.R_reads' HO1333.out).2.2 0 aD (by rw [Ny1331.out];simp)
       cases fo21;refine hK.out _ _ ⟨eC BK1328 0,eC BK1328 1⟩ (fun hHeld=>?_);clear hK K;refine no_ (some 15) ?_
       refine one_ (i:=7) (N:=some 17) #[true,true,true,true,true,true,true,true,false,false,false,false,false,false,false] rfl rfl (oT HT_) aD (fun K hK=>?_)
       refine gS Try.func75 #[.pointer (some ⟨g,0,none⟩),.int .i64 2] ?_
       with_reducible refine (spec_l6Rd_pick.calls k g s0_0 t1330 2 t1334 t1335 w0 _ ?s1 ?s2 A5.out).mono ?_
       (case s1=>exact IsS110.p HI0)
       (case s2=>exact pQ HB (IsS110.ge HI0.out))
       rintro e w22 ⟨rfl,hi,hb,hk⟩;refine ⟨_,rfl,?_⟩
       replace HO1323:=mA (rK (IsS110.apart (IsS110.p HI0) (pR HO1323.out) aD) hk);replace HO1326:=mA (rK (IsS110.apart (IsS110.p HI0) (pR HO1326.out) aD) hk);replace HO1333:=mA (rK (IsS110.apart (IsS110.p HI0) (pR HO1333.out) aD) hk);replace BK1320:=mA (kB hk (pK BK1320.out) NB1320_0);replace BK1328:=mA (kB hk (pK BK1328.out) NB1328_0);replace HK:=mA (KeepBut.trans (pH HK) hk (.inl rfl));replace HB:=mA hb;replace HI0:=mA hi
       (try clear hb);(try clear hk);(try clear hi)
       refine hK.out _ _ ⟨eC BK1328 0,eC BK1328 1⟩ (fun hHeld=>?_);clear hK K;refine no_ (some 17) ?_
       exact norm_ (by simp only [putAll,Act.put,List.setIfInBounds_toArray,List.set_cons_zero,List.set_cons_succ]) (hCont (.slice (some ado21) y1331.length co21,ado21) _ ⟨hHeld,(pR HO1323.out),(pR HO1326.out),(pR HO1333.out),⟨_,rfl⟩,(pK BK1320.out),(pK BK1328.out),(IsS110.p HI0),(pH HK),(pQ HB (IsS110.ge HI0.out))⟩)
      ·skip
       refine gS Try.func75 #[.pointer (some ⟨g,0,none⟩),.int .i64 2] ?_
       with_reducible refine (spec_l6Rd_pick.calls k g s0_0 t1330 2 t1334 t1335 w0 _ ?s1 ?s2 A5.out).mono ?_
       (case s1=>exact IsS110.p HI0)
       (case s2=>exact pQ HB (IsS110.ge HI0.out))
       rintro e w19 ⟨rfl,hi,hb,hk⟩;refine ⟨_,rfl,?_⟩
       replace HO1323:=mA (rK (IsS110.apart (IsS110.p HI0) (pR HO1323.out) aD) hk);replace HO1326:=mA (rK (IsS110.apart (IsS110.p HI0) (pR HO1326.out) aD) hk);replace BK1320:=mA (kB hk (pK BK1320.out) NB1320_0);replace BK1328:=mA (kB hk (pK BK1328.out) NB1328_0);replace HK:=mA (KeepBut.trans (pH HK) hk (.inl rfl));replace HB:=mA hb;replace HI0:=mA hi
       (try clear hb);(try clear hk);(try clear hi)
       refine hK.out _ _ ⟨eC BK1328 0,eC BK1328 1⟩ (fun hHeld=>?_);clear hK K;refine no_ (some 17) ?_
       refine one_ (i:=5) (N:=some 15) #[true,true,true,true,true,true,true,true,false,false,false,false,false,false,false] rfl rfl (oT HT_) aD (fun K hK=>?_)
       refine Kd.R_lit_step (Kd.int .i64) _ 3 ?hg (N:=15) ?hd (xs:=([(-1),(t1321.length:Int)]:List Int)) (inner:=[.int .i64 (-1),.int .i64 (t1321.length:Int)]) (ok:=fun _=>True) (okp:=fun _=>True) ?hr ?hp (fun _ hk=>hk) trivial (Below.refl _ _) (Nat.le_refl _) (by simp) ?_;(case hd=>rfl);(case hg=>rfl);(case hr=>first|(go_simp;done)|(go_simp;rfl));(case hp=>exact (Reps.one (show Kd.M (Kd.int .i64) _ _ _ (-1) [.int .i64 (-1)] from rfl) (Reps.one (show Kd.M (Kd.int .i64) _ _ _ (t1321.length:Int) [.int .i64 (t1321.length:Int)] from rfl) (Reps.none _ _))))
       intro v1332 w20 ho21 hb hg_ hnew_;clear hg_ hnew_
       (first|rw [← Ny1331.out] at ho21|(simp only [Int.reduceToNat] at ho21;rw [← Ny1331.out] at ho21))
       replace HO1323:=rB HO1323 hb;replace HO1326:=rB HO1326 hb;have HO1333:=mA (Kd.R_lower ho21 (kS HK));replace BK1320:=bK BK1320 hb;replace BK1328:=bK BK1328 hb;replace HK:=mA (KeepBut.trans (pH HK) (KeepBut.of_below hb g none) (.inl rfl));replace HB:=mA (below_step (pQ HB (IsS110.ge HI0.out)) hb);replace HI0:=mA (IsS110.below (IsS110.p HI0) hb);clear hb ho21;obtain ⟨Ao22,co22,rfl⟩:=Kd.R_slice HO1333.out
       obtain ⟨ado22,fo22,_⟩:=Kd.at_int (Kd.R_reads' HO1333.out).2.2 0 aD (by rw [Ny1331.out];simp)
       cases fo22;refine hK.out _ _ ⟨eC BK1328 0,eC BK1328 1⟩ (fun hHeld=>?_);clear hK K;refine no_ (some 15) ?_
       exact norm_ (by simp only [putAll,Act.put,List.setIfInBounds_toArray,List.set_cons_zero,List.set_cons_succ]) (hCont (.slice (some ado22) y1331.length co22,ado22) _ ⟨hHeld,(pR HO1323.out),(pR HO1326.out),(pR HO1333.out),⟨_,rfl⟩,(pK BK1320.out),(pK BK1328.out),(IsS110.p HI0),(pH HK),(pQ HB (IsS110.ge HI0.out))⟩)
     rintro ⟨v1332,adz_v1332⟩ w23 ⟨hS_,h0_,h1_,h2_,h3_,h4_,h5_,h6_,h7_,h8_⟩;have n0_:Aside0 (Kd.R Kd.string 9 w23 w.heap.size (fun _=>True) (.slice Ao12 t1321.length co12) t1321):=⟨h0_⟩;have n1_:Aside0 (Kd.R k75 75 w23 w.heap.size (fun _=>True) (.slice Ao16 t1324.length co16) t1324):=⟨h1_⟩;have n2_:Aside0 (Kd.R (Kd.int .i64) 3 w23 w.heap.size (fun _=>True) v1332 y1331):=⟨h2_⟩;have n3_:Aside0 (∃ c_,(v1332:Value)=.slice (some adz_v1332) y1331.length c_):=⟨h3_⟩;have n4_:Aside0 (w23.heap[gb1320]?=some (.cells #[.slice none 0 0,.slice none 0 0] 31 (0,0))):=⟨h4_⟩;have n5_:Aside0 (w23.heap[gb1328]?=some (.cells #[.slice Ao12 t1321.length co12,.slice Ao16 t1324.length co16] 31 (0,0))):=⟨h5_⟩;have n6_:Aside0 (IsS110 w0 w23 g s0_0 t1335):=⟨h6_⟩;have n7_:Aside0 (KeepBut w w23 g none):=⟨h7_⟩;have n8_:Aside0 (Below w0.heap.size w0 w23):=⟨h8_⟩;clear HO1323;clear HO1326;clear BK1320;clear BK1328;clear HI0;clear HK;clear HB;clear h0_ h1_ h2_ h3_ h4_ h5_ h6_ h7_ h8_;have HO1323:=n0_;have HO1326:=n1_;have HO1333:=n2_;have HA_HO1333:=n3_;have BK1320:=n4_;have BK1328:=n5_;have HI0:=n6_;have HK:=n7_;have HB:=n8_;clear n0_ n1_ n2_ n3_ n4_ n5_ n6_ n7_ n8_;have hHeld:w23.cell? ⟨gb1328,0,none⟩=some (.slice Ao12 t1321.length co12)∧w23.cell? ⟨gb1328,1,none⟩=some (.slice Ao16 t1324.length co16):=hS_;obtain ⟨co24,eo24⟩:=HA_HO1333.out;clear HA_HO1333;subst eo24;refine norm_ (a':=?_) ?_ ?_;rotate_left
     ·simp only [putAll,Act.put,List.setIfInBounds_toArray,List.set_cons_zero,List.set_cons_succ];rfl
     refine pul_ 8 (some 18) #[true,true,true,true,true,true,true,true,true,false,false,false,false,false,false] (aT HT_) ?_
     refine one_ (i:=9) (N:=some 19) #[true,true,true,true,true,true,true,true,true,true,false,false,false,false,false] rfl rfl (oT HT_) aD (fun K hK=>?_)
     (have p1336:0≤(t1334:Int):=of_decide_eq_true bA;have q1336:t1334<(y1331.length:Int):=of_decide_eq_true bA;obtain ⟨ad1336,e1336,hx1336_0⟩:=Kd.at_int (Kd.R_reads' HO1333.out).2.2 t1334 p1336 q1336;obtain rfl:adz_v1332=ad1336:=(by injection e1336))
     refine value_ (w1:=?_) (v:=?_) (by rfl) rfl ?_ ?_
     rotate_left 2
     ·go_simp
      constructor
      ·rfl
      ·rfl
     clear hx1336_0;refine hK.out _ _ ⟨eC BK1328 0,eC BK1328 1⟩ (fun hHeld=>?_);clear hK K;refine no_ (some 19) ?_
     refine pul_ 10 (some 20) #[true,true,true,true,true,true,true,true,true,true,true,false,false,false,false] (aT HT_) ?_
     refine one_ (i:=11) (N:=some 21) #[true,true,true,true,true,true,true,true,true,true,true,true,false,false,false] rfl rfl (oT HT_) aD (fun K hK=>?_)
     refine value_ (w1:=?_) (v:=?_) (by rfl) rfl ?_ ?_
     rotate_left 2
     ·go_simp
      constructor
      ·rfl
      ·rfl
     refine hK.out _ _ ⟨(blk_cell (blk_alloc BK1328.out _) 0).trans rfl,(blk_cell (blk_alloc BK1328.out _) 1).trans rfl⟩ (fun hHeld=>?_);clear hK K;refine no_ (some 21) ?_
     refine one_ (i:=12) (N:=some 22) #[true,true,true,true,true,true,true,true,true,true,true,true,true,false,false] rfl rfl (oT HT_) aD (fun K hK=>?_)
     refine Kd.R_append_step k75 w.heap.size (by rfl) (.tmp 11) (.tmp 21) 29 75 (.agg #[(.int .i64 0),(.string ⟨#[]⟩)]) 24 rfl Try.underlying29 info75 rfl aD (by omega) (.slice Ao16 t1324.length co16) t1324 (⟨rd y1331 t1334,(⟨#[]⟩:ByteArray)⟩:S75) [.int .i64 (rd y1331 t1334),.string (⟨#[]⟩:ByteArray)] (fun _=>True) (fun _=>False) rfl rfl ?aP (fun _ hk=>hk.elim) ?aF ?aO (Below.refl _ _) ?aS ?aL ?_
     (case aP=>exact k75_mkM _ _ _ (⟨rd y1331 t1334,(⟨#[]⟩:ByteArray)⟩:S75))
     (case aF=>exact (fun _ _=>trivial))
     (case aO=>exact (pR HO1326.out))
     (case aS=>exact (kS HK))
     (case aL=>have:=LMc8.out;omega)
     intro v1338 w25 ho hb hg hat;rw [← Ny1337.out] at ho
     replace HO1323:=mA (Kd.R_over' (pR HO1323.out) (Kd.R_typed (pR HO1326.out)) aD hg);replace HO1333:=mA (Kd.R_over' (pR HO1333.out) (Kd.R_typed (pR HO1326.out)) aD hg);have HO1339:=mA ho;replace BK1320:=mA (blk_grown (pK BK1320.out) hg (rN HO1326 BK1320));replace BK1328:=mA (blk_grown (pK BK1328.out) hg (rN HO1326 BK1328));replace HB:=mA (below_weaken (pQ HB (IsS110.ge HI0.out)) HL.out hb);replace HI0:=mA (IsS110.grown (IsS110.p HI0) hg (IsS110.own_ne HI0.out HO1326.out aD));replace HK:=mA (KeepBut.trans (pH HK) (KeepBut.of_grown hg g) (Kd.R_base2 HO1326.out));clear HO1326;clear ho hb hg hat;obtain ⟨Ao26,co26,eo26⟩:=Kd.R_slice HO1339.out
     (first|subst eo26|(injection eo26 with f1_ f2_ f3_;have f4_:=f1_.symm;have f5_:=f3_.symm;clear f1_ f2_ f3_;subst f4_;subst f5_))
     refine hK.out _ _ ⟨eC BK1328 0,eC BK1328 1⟩ (fun hHeld=>?_);clear hK K;refine no_ (some 22) ?_
     refine pul_ 13 (some 23) #[true,true,true,true,true,true,true,true,true,true,true,true,true,true,false] (aT HT_) ?_
     refine last_ (i:=14) (N:=none) #[true,true,true,true,true,true,true,true,true,true,true,true,true,true,true] rfl rfl (oT HT_) aD (fun K hK=>?_)
     have hs27:w25.cell? ⟨gb1328,1,none⟩=some (.slice Ao16 t1324.length co16):=eC BK1328 1;have hfs27:=blk_frozen BK1328.out 1;have hns27_0:=NB1320_1328.out;have hms27_0:=NB1328_1320.out
     refine skip_ (w1:=?_) (by rfl) rfl ?_ ?_
     rotate_left
     ·go_simp;rfl
     refine hK.out _ _ ?_;clear hK K
     refine done_ (done_of HT_.out aK) ?_
     obtain ⟨hcz28_0,hcz28_1,hfz28_0,hfz28_1⟩:=box2 BK1328.out;have hnb29:=NB1320_0.out;have hnc29:=NB0_1320.out;obtain ⟨hcz30_0,hcz30_1,hfz30_0,hfz30_1⟩:=box2 BK1320.out
     try go_wp2
     refine bodyPost_ret (results_cell_row rfl _ _ gb1320 31 #[.slice Ao12 t1321.length co12,.slice Ao26 y1337.length co26] (0,0) _ rfl (pP BK1320) Try.underlying31 rfl aK) rfl ?_
     exact ⟨_,_,by first|rfl|(simp [errW_none,errW_some]<;>rfl)|(simp [*,errW_none,errW_some]<;>rfl),pUU HO1323 BK1328 BK1320,pUU HO1339 BK1328 BK1320,IsS110.p HI0,pQ HB (IsS110.ge HI0.out),pH HK⟩
    ·rw [if_neg c8] at H
     exact absurd H (by simp)
   ·rw [if_neg c7] at H
    exact absurd H (by simp)
  ·rw [if_neg c6] at H
   exact absurd H (by simp)
 ·rw [if_neg c4] at H;have c4b0:(t1329 == 0)=false:=beq_eq_false_iff_ne.mpr c4;have c4b1:(t1329 != 0)=true:=bne_iff_ne.mpr c4
  by_cases c31:t1329=1
  ·rw [if_pos c31] at H;obtain ⟨c31b0,c31b1⟩:=eqB c31;clear c31;obtain ⟨⟨t1340,t1341⟩,A32,H⟩:=bI H;(try dsimp only at H);obtain ⟨t1342,A33,H⟩:=bI H;(try dsimp only at H)
   by_cases c34:t1324.length<5864062014805
   ·rw [if_pos c34] at H;have LMc34:=mA c34;clear c34;obtain ⟨y1343,hy1343⟩:∃ y_:List (S75),y_=(t1324 ++ [(⟨0,t1342⟩:S75)]):=⟨_,rfl⟩
    replace H:(some (t1321,y1343,t1341))=some (r1,r2,r3):=qH hy1343 H
    have Ny1343:=mA hy1343;clear hy1343;simp only [Option.some.injEq,Prod.mk.injEq] at H;obtain ⟨rfl,rfl,rfl⟩:=H
    go_enter Try.func80,Try.ntmps80
    try go_wp2_with (first|(refine bE 2 #[.slice none 0 0,.slice none 0 0] 31 ?_;intro gb1320 hg w35 hbox hb;replace HB:=mA (below_step (pQ HB (IsS110.ge HI0.out)) hb);have BK1320:=mA hbox;have GW1320:=mA (lG (kS HK) hg);have GE1320:=mA (Nat.le_trans HW0.out (lG (kS HK) hg));replace HK:=mA (KeepBut.trans (pH HK) (KeepBut.of_below hb g none) (.inl rfl));have NB0_1320:=mA (lN (IsS110.lt (show IsS110 w0 _ g s0_0 s0_1 from IsS110.p HI0)) hg);have NB1320_0:=nS NB0_1320;replace HI0:=mA (IsS110.below (IsS110.p HI0) hb);clear hb hbox hg)|(refine gL (some 5) Try.func87 #[.pointer (some ⟨g,0,none⟩)] ?_;(with_reducible refine (spec_l72Sec.calls k g s0_0 s0_1 t1321 t1324 t1327 w0 _ ?s1 ?s2 A2.out).mono ?_);(case s1=>exact IsS110.p HI0);(case s2=>exact pQ HB (IsS110.ge HI0.out));rintro e w36 ⟨v1322,v1325,rfl,ho0,ho1,hi,hb,hk⟩;refine ⟨_,rfl,?_⟩;have HO1323:=mA (Kd.R_lower ho0 (kS HK));have HO1326:=mA (Kd.R_lower ho1 (kS HK));replace BK1320:=mA (kB hk (pK BK1320.out) NB1320_0);replace HK:=mA (KeepBut.trans (pH HK) hk (.inl rfl));replace HB:=mA hb;replace HI0:=mA hi;(try clear hb);(try clear hk);(try clear hi);(try clear ho0);(try clear ho1))|(refine bE 3 #[.slice none 0 0,.slice none 0 0] 31 ?_;intro gb1328 hg w37 hbox hb;replace HO1323:=rB HO1323 hb;replace HO1326:=rB HO1326 hb;replace HB:=mA (below_step (pQ HB (IsS110.ge HI0.out)) hb);have BK1328:=mA hbox;have GW1328:=mA (lG (kS HK) hg);have GE1328:=mA (Nat.le_trans HW0.out (lG (kS HK) hg));replace HK:=mA (KeepBut.trans (pH HK) (KeepBut.of_below hb g none) (.inl rfl));have NB1320_1328:=mA (lN (blk_lt (pK BK1320.out)) hg);have NB1328_1320:=nS NB1320_1328;replace BK1320:=bK BK1320 hb;have NB0_1328:=mA (lN (IsS110.lt (show IsS110 w0 _ g s0_0 t1327 from IsS110.p HI0)) hg);have NB1328_0:=nS NB0_1328;replace HI0:=mA (IsS110.below (IsS110.p HI0) hb);clear hb hbox hg;obtain ⟨Ao38,co38,rfl⟩:=Kd.R_slice HO1323.out;have hnb39:=NB1328_1320.out;have hnc39:=NB1320_1328.out;have hnb40:=NB1328_0.out;have hnc40:=NB0_1328.out;obtain ⟨hcz41_0,hcz41_1,hfz41_0,hfz41_1⟩:=box2 BK1328.out;obtain ⟨Ao42,co42,rfl⟩:=Kd.R_slice HO1326.out)|(refine gL (some 7) Try.func75 #[.pointer (some ⟨g,0,none⟩),.int .i64 16] ?_;(with_reducible refine (spec_l6Rd_pick.calls k g s0_0 t1327 16 t1329 t1330 w0 _ ?s1 ?s2 A3.out).mono ?_);(case s1=>exact IsS110.p HI0);(case s2=>exact pQ HB (IsS110.ge HI0.out));rintro e w43 ⟨rfl,hi,hb,hk⟩;refine ⟨_,rfl,?_⟩;replace HO1323:=mA (rK (IsS110.apart (IsS110.p HI0) (pG HO1323 BK1328) aD) hk);replace HO1326:=mA (rK (IsS110.apart (IsS110.p HI0) (pG HO1326 BK1328) aD) hk);replace BK1320:=mA (kB hk (pF BK1320.out) NB1320_0);replace BK1328:=mA (kP hk #[.slice Ao38 t1321.length co38,.slice Ao42 t1324.length co42] BK1328 NB1328_0);replace HK:=mA (KeepBut.trans (pH HK) hk (.inl rfl));replace HB:=mA hb;replace HI0:=mA hi;(try clear hb);(try clear hk);(try clear hi)))
    replace HO1323:=rD HO1323;replace HO1326:=rD HO1326;replace BK1320:=mA (blk_drew BK1320.out);replace BK1328:=mA (blk_drew BK1328.out);replace HI0:=mA (IsS110.drew HI0.out);replace HK:=mA (keep_drew HK.out);replace HB:=mA (below_drew1 HB.out)
    refine start_ (n:=11) (S:=fun w'=>w'.cell? ⟨gb1328,0,none⟩=some (.slice Ao38 t1321.length co38)∧w'.cell? ⟨gb1328,1,none⟩=some (.slice Ao42 t1324.length co42)) (ds:=[10]) _ aK rfl rfl ⟨eC BK1328 0,eC BK1328 1⟩ (fun hHeld=>?_);refine with_tabW spec_l72SecAny.tab6 spec_l72SecAny.bits6 (fun HT_ HW_=>?_)
    generalize w43.drew=w44 at HO1323 HO1326 BK1320 BK1328 HI0 HK HB hHeld ⊢
    refine pul_ 0 (some 26) #[true,false,false,false,false,false,false,false,false,false,false] (aT HT_) ?_
    refine pul_ 2 (some 28) #[true,false,true,false,false,false,false,false,false,false,false] (aT HT_) ?_
    refine ta2l_ 1 (some 27) #[true,true,true,false,false,false,false,false,false,false,false] (tT HT_ HW_) hHeld ?_
    refine one_ (i:=3) (N:=some 29) #[true,true,true,true,false,false,false,false,false,false,false] rfl rfl (oT HT_) aD (fun K hK=>?_)
    refine gS Try.func75 #[.pointer (some ⟨g,0,none⟩),.int .i64 2] ?_
    with_reducible refine (spec_l6Rd_pick.calls k g s0_0 t1330 2 t1340 t1341 w0 _ ?s1 ?s2 A32.out).mono ?_
    (case s1=>exact IsS110.p HI0)
    (case s2=>exact pQ HB (IsS110.ge HI0.out))
    rintro e w45 ⟨rfl,hi,hb,hk⟩;refine ⟨_,rfl,?_⟩
    replace HO1323:=mA (rK (IsS110.apart (IsS110.p HI0) (pR HO1323.out) aD) hk);replace HO1326:=mA (rK (IsS110.apart (IsS110.p HI0) (pR HO1326.out) aD) hk);replace BK1320:=mA (kB hk (pK BK1320.out) NB1320_0);replace BK1328:=mA (kB hk (pK BK1328.out) NB1328_0);replace HK:=mA (KeepBut.trans (pH HK) hk (.inl rfl));replace HB:=mA hb;replace HI0:=mA hi
    (try clear hb);(try clear hk);(try clear hi)
    refine hK.out _ _ ⟨eC BK1328 0,eC BK1328 1⟩ (fun hHeld=>?_);clear hK K;refine no_ (some 29) ?_
    refine pul_ 4 (some 30) #[true,true,true,true,true,false,false,false,false,false,false] (aT HT_) ?_
    refine one_ (i:=5) (N:=some 31) #[true,true,true,true,true,true,false,false,false,false,false] rfl rfl (oT HT_) aD (fun K hK=>?_)
    refine gS Try.func76 #[.string (⟨#[120]⟩:ByteArray),.int .i64 (wrap64 (16+t1340))] ?_
    with_reducible refine (spec_l6Many.calls k (⟨#[120]⟩:ByteArray) (wrap64 (16+t1340)) t1342 _ A33.out).mono ?_
    rintro e w' ⟨rfl,⟨nd,rfl⟩⟩;refine ⟨_,rfl,?_⟩;refine hK.out _ _ ⟨eC BK1328 0,eC BK1328 1⟩ (fun hHeld=>?_);clear hK K;refine no_ (some 31) ?_
    refine pul_ 6 (some 32) #[true,true,true,true,true,true,true,false,false,false,false] (aT HT_) ?_
    refine one_ (i:=7) (N:=some 33) #[true,true,true,true,true,true,true,true,false,false,false] rfl rfl (oT HT_) aD (fun K hK=>?_)
    refine value_ (w1:=?_) (v:=?_) (by rfl) rfl ?_ ?_
    rotate_left 2
    ·go_simp
     constructor
     ·rfl
     ·rfl
    refine hK.out _ _ ⟨(blk_cell (blk_alloc BK1328.out _) 0).trans rfl,(blk_cell (blk_alloc BK1328.out _) 1).trans rfl⟩ (fun hHeld=>?_);clear hK K;refine no_ (some 33) ?_
    refine one_ (i:=8) (N:=some 34) #[true,true,true,true,true,true,true,true,true,false,false] rfl rfl (oT HT_) aD (fun K hK=>?_)
    refine Kd.R_append_step k75 w.heap.size (by rfl) (.tmp 27) (.tmp 33) 29 75 (.agg #[(.int .i64 0),(.string ⟨#[]⟩)]) 24 rfl Try.underlying29 info75 rfl aD (by omega) (.slice Ao42 t1324.length co42) t1324 (⟨0,t1342⟩:S75) [.int .i64 0,.string t1342] (fun _=>True) (fun _=>False) rfl rfl ?aP (fun _ hk=>hk.elim) ?aF ?aO (Below.refl _ _) ?aS ?aL ?_
    (case aP=>exact k75_mkM _ _ _ (⟨0,t1342⟩:S75))
    (case aF=>exact (fun _ _=>trivial))
    (case aO=>exact (pR HO1326.out))
    (case aS=>exact (kS HK))
    (case aL=>have:=LMc34.out;omega)
    intro v1344 w46 ho hb hg hat;rw [← Ny1343.out] at ho
    replace HO1323:=mA (Kd.R_over' (pR HO1323.out) (Kd.R_typed (pR HO1326.out)) aD hg);have HO1345:=mA ho;replace BK1320:=mA (blk_grown (pK BK1320.out) hg (rN HO1326 BK1320));replace BK1328:=mA (blk_grown (pK BK1328.out) hg (rN HO1326 BK1328));replace HB:=mA (below_weaken (pQ HB (IsS110.ge HI0.out)) HL.out hb);replace HI0:=mA (IsS110.grown (IsS110.p HI0) hg (IsS110.own_ne HI0.out HO1326.out aD));replace HK:=mA (KeepBut.trans (pH HK) (KeepBut.of_grown hg g) (Kd.R_base2 HO1326.out));clear HO1326;clear ho hb hg hat;obtain ⟨Ao47,co47,eo47⟩:=Kd.R_slice HO1345.out
    (first|subst eo47|(injection eo47 with f1_ f2_ f3_;have f4_:=f1_.symm;have f5_:=f3_.symm;clear f1_ f2_ f3_;subst f4_;subst f5_))
    refine hK.out _ _ ⟨eC BK1328 0,eC BK1328 1⟩ (fun hHeld=>?_);clear hK K;refine no_ (some 34) ?_
    refine pul_ 9 (some 35) #[true,true,true,true,true,true,true,true,true,true,false] (aT HT_) ?_
    refine last_ (i:=10) (N:=none) #[true,true,true,true,true,true,true,true,true,true,true] rfl rfl (oT HT_) aD (fun K hK=>?_)
    have hs48:w46.cell? ⟨gb1328,1,none⟩=some (.slice Ao42 t1324.length co42):=eC BK1328 1;have hfs48:=blk_frozen BK1328.out 1;have hns48_0:=NB1320_1328.out;have hms48_0:=NB1328_1320.out
    refine skip_ (w1:=?_) (by rfl) rfl ?_ ?_
    rotate_left
    ·go_simp;rfl
    refine hK.out _ _ ?_;clear hK K
    refine done_ (done_of HT_.out aK) ?_
    obtain ⟨hcz49_0,hcz49_1,hfz49_0,hfz49_1⟩:=box2 BK1328.out;have hnb50:=NB1320_0.out;have hnc50:=NB0_1320.out;obtain ⟨hcz51_0,hcz51_1,hfz51_0,hfz51_1⟩:=box2 BK1320.out
    try go_wp2
    refine bodyPost_ret (results_cell_row rfl _ _ gb1320 31 #[.slice Ao38 t1321.length co38,.slice Ao47 y1343.length co47] (0,0) _ rfl (pP BK1320) Try.underlying31 rfl aK) rfl ?_
    exact ⟨_,_,by first|rfl|(simp [errW_none,errW_some]<;>rfl)|(simp [*,errW_none,errW_some]<;>rfl),pUU HO1323 BK1328 BK1320,pUU HO1345 BK1328 BK1320,IsS110.p HI0,pQ HB (IsS110.ge HI0.out),pH HK⟩
   ·rw [if_neg c34] at H
    exact absurd H (by simp)
  ·rw [if_neg c31] at H;have c31b0:(t1329 == 1)=false:=beq_eq_false_iff_ne.mpr c31;have c31b1:(t1329 != 1)=true:=bne_iff_ne.mpr c31
   by_cases c52:t1329=2
   ·rw [if_pos c52] at H;obtain ⟨c52b0,c52b1⟩:=eqB c52;clear c52;obtain ⟨⟨t1346,t1347⟩,A53,H⟩:=bI H;(try dsimp only at H);obtain ⟨t1348,A54,H⟩:=bI H;(try dsimp only at H)
    by_cases c55:t1321.length<8796093022208
    ·rw [if_pos c55] at H;have LMc55:=mA c55;clear c55;obtain ⟨y1349,hy1349⟩:∃ y_:List ByteArray,y_=(t1321 ++ [t1348]):=⟨_,rfl⟩
     replace H:(some (y1349,t1324,t1347))=some (r1,r2,r3):=qH hy1349 H
     have Ny1349:=mA hy1349;clear hy1349;simp only [Option.some.injEq,Prod.mk.injEq] at H;obtain ⟨rfl,rfl,rfl⟩:=H
     go_enter Try.func80,Try.ntmps80
     try go_wp2_with (first|(refine bE 2 #[.slice none 0 0,.slice none 0 0] 31 ?_;intro gb1320 hg w56 hbox hb;replace HB:=mA (below_step (pQ HB (IsS110.ge HI0.out)) hb);have BK1320:=mA hbox;have GW1320:=mA (lG (kS HK) hg);have GE1320:=mA (Nat.le_trans HW0.out (lG (kS HK) hg));replace HK:=mA (KeepBut.trans (pH HK) (KeepBut.of_below hb g none) (.inl rfl));have NB0_1320:=mA (lN (IsS110.lt (show IsS110 w0 _ g s0_0 s0_1 from IsS110.p HI0)) hg);have NB1320_0:=nS NB0_1320;replace HI0:=mA (IsS110.below (IsS110.p HI0) hb);clear hb hbox hg)|(refine gL (some 5) Try.func87 #[.pointer (some ⟨g,0,none⟩)] ?_;(with_reducible refine (spec_l72Sec.calls k g s0_0 s0_1 t1321 t1324 t1327 w0 _ ?s1 ?s2 A2.out).mono ?_);(case s1=>exact IsS110.p HI0);(case s2=>exact pQ HB (IsS110.ge HI0.out));rintro e w57 ⟨v1322,v1325,rfl,ho0,ho1,hi,hb,hk⟩;refine ⟨_,rfl,?_⟩;have HO1323:=mA (Kd.R_lower ho0 (kS HK));have HO1326:=mA (Kd.R_lower ho1 (kS HK));replace BK1320:=mA (kB hk (pK BK1320.out) NB1320_0);replace HK:=mA (KeepBut.trans (pH HK) hk (.inl rfl));replace HB:=mA hb;replace HI0:=mA hi;(try clear hb);(try clear hk);(try clear hi);(try clear ho0);(try clear ho1))|(refine bE 3 #[.slice none 0 0,.slice none 0 0] 31 ?_;intro gb1328 hg w58 hbox hb;replace HO1323:=rB HO1323 hb;replace HO1326:=rB HO1326 hb;replace HB:=mA (below_step (pQ HB (IsS110.ge HI0.out)) hb);have BK1328:=mA hbox;have GW1328:=mA (lG (kS HK) hg);have GE1328:=mA (Nat.le_trans HW0.out (lG (kS HK) hg));replace HK:=mA (KeepBut.trans (pH HK) (KeepBut.of_below hb g none) (.inl rfl));have NB1320_1328:=mA (lN (blk_lt (pK BK1320.out)) hg);have NB1328_1320:=nS NB1320_1328;replace BK1320:=bK BK1320 hb;have NB0_1328:=mA (lN (IsS110.lt (show IsS110 w0 _ g s0_0 t1327 from IsS110.p HI0)) hg);have NB1328_0:=nS NB0_1328;replace HI0:=mA (IsS110.below (IsS110.p HI0) hb);clear hb hbox hg;obtain ⟨Ao59,co59,rfl⟩:=Kd.R_slice HO1323.out;have hnb60:=NB1328_1320.out;have hnc60:=NB1320_1328.out;have hnb61:=NB1328_0.out;have hnc61:=NB0_1328.out;obtain ⟨hcz62_0,hcz62_1,hfz62_0,hfz62_1⟩:=box2 BK1328.out;obtain ⟨Ao63,co63,rfl⟩:=Kd.R_slice HO1326.out)|(refine gL (some 7) Try.func75 #[.pointer (some ⟨g,0,none⟩),.int .i64 16] ?_;(with_reducible refine (spec_l6Rd_pick.calls k g s0_0 t1327 16 t1329 t1330 w0 _ ?s1 ?s2 A3.out).mono ?_);(case s1=>exact IsS110.p HI0);(case s2=>exact pQ HB (IsS110.ge HI0.out));rintro e w64 ⟨rfl,hi,hb,hk⟩;refine ⟨_,rfl,?_⟩;replace HO1323:=mA (rK (IsS110.apart (IsS110.p HI0) (pG HO1323 BK1328) aD) hk);replace HO1326:=mA (rK (IsS110.apart (IsS110.p HI0) (pG HO1326 BK1328) aD) hk);replace BK1320:=mA (kB hk (pF BK1320.out) NB1320_0);replace BK1328:=mA (kP hk #[.slice Ao59 t1321.length co59,.slice Ao63 t1324.length co63] BK1328 NB1328_0);replace HK:=mA (KeepBut.trans (pH HK) hk (.inl rfl));replace HB:=mA hb;replace HI0:=mA hi;(try clear hb);(try clear hk);(try clear hi)))
     replace HO1323:=rD HO1323;replace HO1326:=rD HO1326;replace BK1320:=mA (blk_drew BK1320.out);replace BK1328:=mA (blk_drew BK1328.out);replace HI0:=mA (IsS110.drew HI0.out);replace HK:=mA (keep_drew HK.out);replace HB:=mA (below_drew1 HB.out)
     refine start_ (n:=10) (S:=fun w'=>w'.cell? ⟨gb1328,0,none⟩=some (.slice Ao59 t1321.length co59)∧w'.cell? ⟨gb1328,1,none⟩=some (.slice Ao63 t1324.length co63)) (ds:=[9]) _ aK rfl rfl ⟨eC BK1328 0,eC BK1328 1⟩ (fun hHeld=>?_);refine with_tabW spec_l72SecAny.tab8 spec_l72SecAny.bits8 (fun HT_ HW_=>?_)
     generalize w64.drew=w65 at HO1323 HO1326 BK1320 BK1328 HI0 HK HB hHeld ⊢
     refine pul_ 0 (some 38) #[true,false,false,false,false,false,false,false,false,false] (aT HT_) ?_
     refine pul_ 2 (some 40) #[true,false,true,false,false,false,false,false,false,false] (aT HT_) ?_
     refine ta2l_ 1 (some 39) #[true,true,true,false,false,false,false,false,false,false] (tT HT_ HW_) hHeld ?_
     refine one_ (i:=3) (N:=some 41) #[true,true,true,true,false,false,false,false,false,false] rfl rfl (oT HT_) aD (fun K hK=>?_)
     refine gS Try.func75 #[.pointer (some ⟨g,0,none⟩),.int .i64 2] ?_
     with_reducible refine (spec_l6Rd_pick.calls k g s0_0 t1330 2 t1346 t1347 w0 _ ?s1 ?s2 A53.out).mono ?_
     (case s1=>exact IsS110.p HI0)
     (case s2=>exact pQ HB (IsS110.ge HI0.out))
     rintro e w66 ⟨rfl,hi,hb,hk⟩;refine ⟨_,rfl,?_⟩
     replace HO1323:=mA (rK (IsS110.apart (IsS110.p HI0) (pR HO1323.out) aD) hk);replace HO1326:=mA (rK (IsS110.apart (IsS110.p HI0) (pR HO1326.out) aD) hk);replace BK1320:=mA (kB hk (pK BK1320.out) NB1320_0);replace BK1328:=mA (kB hk (pK BK1328.out) NB1328_0);replace HK:=mA (KeepBut.trans (pH HK) hk (.inl rfl));replace HB:=mA hb;replace HI0:=mA hi
     (try clear hb);(try clear hk);(try clear hi)
     refine hK.out _ _ ⟨eC BK1328 0,eC BK1328 1⟩ (fun hHeld=>?_);clear hK K;refine no_ (some 41) ?_
     refine pul_ 4 (some 42) #[true,true,true,true,true,false,false,false,false,false] (aT HT_) ?_
     refine one_ (i:=5) (N:=some 43) #[true,true,true,true,true,true,false,false,false,false] rfl rfl (oT HT_) aD (fun K hK=>?_)
     refine gS Try.func76 #[.string (⟨#[120]⟩:ByteArray),.int .i64 (wrap64 (16+t1346))] ?_
     with_reducible refine (spec_l6Many.calls k (⟨#[120]⟩:ByteArray) (wrap64 (16+t1346)) t1348 _ A54.out).mono ?_
     rintro e w' ⟨rfl,⟨nd,rfl⟩⟩;refine ⟨_,rfl,?_⟩;refine hK.out _ _ ⟨eC BK1328 0,eC BK1328 1⟩ (fun hHeld=>?_);clear hK K;refine no_ (some 43) ?_
     refine one_ (i:=6) (N:=some 44) #[true,true,true,true,true,true,true,false,false,false] rfl rfl (oT HT_) aD (fun K hK=>?_)
     refine value_ (w1:=?_) (v:=?_) (by rfl) rfl ?_ ?_
     rotate_left 2
     ·go_simp
      constructor
      ·rfl
      ·rfl
     refine hK.out _ _ ⟨(blk_cell (blk_alloc BK1328.out _) 0).trans rfl,(blk_cell (blk_alloc BK1328.out _) 1).trans rfl⟩ (fun hHeld=>?_);clear hK K;refine no_ (some 44) ?_
     refine one_ (i:=7) (N:=some 45) #[true,true,true,true,true,true,true,true,false,false] rfl rfl (oT HT_) aD (fun K hK=>?_)
     refine Kd.R_append_step Kd.string w.heap.size (by rfl) (.tmp 39) (.tmp 44) 22 9 (.string ⟨#[]⟩) 16 rfl Try.underlying22 info9 rfl aD (by omega) (.slice Ao59 t1321.length co59) t1321 t1348 [.string t1348] (fun _=>True) (fun _=>False) rfl rfl ?aP (fun _ hk=>hk.elim) ?aF ?aO (Below.refl _ _) ?aS ?aL ?_
     (case aP=>exact rfl)
     (case aF=>exact (fun _ _=>trivial))
     (case aO=>exact (pR HO1323.out))
     (case aS=>exact (kS HK))
     (case aL=>have:=LMc55.out;omega)
     intro v1350 w67 ho hb hg hat;rw [← Ny1349.out] at ho
     replace HO1326:=mA (Kd.R_over' (pR HO1326.out) (Kd.R_typed (pR HO1323.out)) aD hg);have HO1351:=mA ho;replace BK1320:=mA (blk_grown (pK BK1320.out) hg (rN HO1323 BK1320));replace BK1328:=mA (blk_grown (pK BK1328.out) hg (rN HO1323 BK1328));replace HB:=mA (below_weaken (pQ HB (IsS110.ge HI0.out)) HL.out hb);replace HI0:=mA (IsS110.grown (IsS110.p HI0) hg (IsS110.own_ne HI0.out HO1323.out aD));replace HK:=mA (KeepBut.trans (pH HK) (KeepBut.of_grown hg g) (Kd.R_base2 HO1323.out));clear HO1323;clear ho hb hg hat;obtain ⟨Ao68,co68,eo68⟩:=Kd.R_slice HO1351.out
     (first|subst eo68|(injection eo68 with f1_ f2_ f3_;have f4_:=f1_.symm;have f5_:=f3_.symm;clear f1_ f2_ f3_;subst f4_;subst f5_))
     refine hK.out _ _ ⟨eC BK1328 0,eC BK1328 1⟩ (fun hHeld=>?_);clear hK K;refine no_ (some 45) ?_
     refine pul_ 8 (some 46) #[true,true,true,true,true,true,true,true,true,false] (aT HT_) ?_
     refine last_ (i:=9) (N:=none) #[true,true,true,true,true,true,true,true,true,true] rfl rfl (oT HT_) aD (fun K hK=>?_)
     have hs69:w67.cell? ⟨gb1328,0,none⟩=some (.slice Ao59 t1321.length co59):=eC BK1328 0;have hfs69:=blk_frozen BK1328.out 0;have hns69_0:=NB1320_1328.out;have hms69_0:=NB1328_1320.out
     refine skip_ (w1:=?_) (by rfl) rfl ?_ ?_
     rotate_left
     ·go_simp;rfl
     refine hK.out _ _ ?_;clear hK K
     refine done_ (done_of HT_.out aK) ?_
     obtain ⟨hcz70_0,hcz70_1,hfz70_0,hfz70_1⟩:=box2 BK1328.out;have hnb71:=NB1320_0.out;have hnc71:=NB0_1320.out;obtain ⟨hcz72_0,hcz72_1,hfz72_0,hfz72_1⟩:=box2 BK1320.out
     try go_wp2
     refine bodyPost_ret (results_cell_row rfl _ _ gb1320 31 #[.slice Ao68 y1349.length co68,.slice Ao63 t1324.length co63] (0,0) _ rfl (pP BK1320) Try.underlying31 rfl aK) rfl ?_
     exact ⟨_,_,by first|rfl|(simp [errW_none,errW_some]<;>rfl)|(simp [*,errW_none,errW_some]<;>rfl),pUU HO1351 BK1328 BK1320,pUU HO1326 BK1328 BK1320,IsS110.p HI0,pQ HB (IsS110.ge HI0.out),pH HK⟩
    ·rw [if_neg c55] at H
     exact absurd H (by simp)
   ·rw [if_neg c52] at H;have c52b0:(t1329 == 2)=false:=beq_eq_false_iff_ne.mpr c52;have c52b1:(t1329 != 2)=true:=bne_iff_ne.mpr c52
    by_cases c73:t1329=3
    ·rw [if_pos c73] at H;obtain ⟨c73b0,c73b1⟩:=eqB c73;clear c73;obtain ⟨⟨t1352,t1353⟩,A74,H⟩:=bI H;(try dsimp only at H);obtain ⟨ji75,hji75⟩:∃ j_:Int,(wrap64 (512+t1352))=j_:=⟨_,rfl⟩
     replace H:(if 0≤(ji75) then (if (ji75:Int).toNat≤17592186044416 then (some ((List.replicate (ji75:Int).toNat (⟨#[]⟩:ByteArray)),t1324,t1353)) else (none)) else (none))=some (r1,r2,r3):=by first|(rw [hji75] at H;exact H)|(simp only [hji75] at H ⊢;exact H)
     (try rw [hji75] at A2)
     (try rw [hji75] at A3)
     (try rw [hji75] at A74)
     have hji75w:(IntKind.i64.wrap (512+t1352))=ji75:=(i64_w _).trans hji75
     by_cases c76:0≤(ji75)
     ·rw [if_pos c76] at H;have c76b0:=eq_true c76;have c76b1:decide (0≤(ji75))=true:=decide_eq_true c76;clear c76
      by_cases c77:(ji75:Int).toNat≤17592186044416
      ·rw [if_pos c77] at H;have c77b0:=eq_true c77;have c77b1:decide ((ji75:Int).toNat≤17592186044416)=true:=decide_eq_true c77;clear c77;obtain ⟨y1354,hy1354⟩:∃ y_:List ByteArray,y_=(List.replicate (ji75:Int).toNat (⟨#[]⟩:ByteArray)):=⟨_,rfl⟩
       replace H:(some (y1354,t1324,t1353))=some (r1,r2,r3):=qH hy1354 H
       have Ny1354:=mA hy1354;clear hy1354;simp only [Option.some.injEq,Prod.mk.injEq] at H;obtain ⟨rfl,rfl,rfl⟩:=H
       go_enter Try.func80,Try.ntmps80
       go_wp2_with (first|(refine bE 2 #[.slice none 0 0,.slice none 0 0] 31 ?_;intro gb1320 hg w78 hbox hb;replace HB:=mA (below_step (pQ HB (IsS110.ge HI0.out)) hb);have BK1320:=mA hbox;have GW1320:=mA (lG (kS HK) hg);have GE1320:=mA (Nat.le_trans HW0.out (lG (kS HK) hg));replace HK:=mA (KeepBut.trans (pH HK) (KeepBut.of_below hb g none) (.inl rfl));have NB0_1320:=mA (lN (IsS110.lt (show IsS110 w0 _ g s0_0 s0_1 from IsS110.p HI0)) hg);have NB1320_0:=nS NB0_1320;replace HI0:=mA (IsS110.below (IsS110.p HI0) hb);clear hb hbox hg)|(refine gL (some 5) Try.func87 #[.pointer (some ⟨g,0,none⟩)] ?_;(with_reducible refine (spec_l72Sec.calls k g s0_0 s0_1 t1321 t1324 t1327 w0 _ ?s1 ?s2 A2.out).mono ?_);(case s1=>exact IsS110.p HI0);(case s2=>exact pQ HB (IsS110.ge HI0.out));rintro e w79 ⟨v1322,v1325,rfl,ho0,ho1,hi,hb,hk⟩;refine ⟨_,rfl,?_⟩;have HO1323:=mA (Kd.R_lower ho0 (kS HK));have HO1326:=mA (Kd.R_lower ho1 (kS HK));replace BK1320:=mA (kB hk (pK BK1320.out) NB1320_0);replace HK:=mA (KeepBut.trans (pH HK) hk (.inl rfl));replace HB:=mA hb;replace HI0:=mA hi;(try clear hb);(try clear hk);(try clear hi);(try clear ho0);(try clear ho1))|(refine bE 3 #[.slice none 0 0,.slice none 0 0] 31 ?_;intro gb1328 hg w80 hbox hb;replace HO1323:=rB HO1323 hb;replace HO1326:=rB HO1326 hb;replace HB:=mA (below_step (pQ HB (IsS110.ge HI0.out)) hb);have BK1328:=mA hbox;have GW1328:=mA (lG (kS HK) hg);have GE1328:=mA (Nat.le_trans HW0.out (lG (kS HK) hg));replace HK:=mA (KeepBut.trans (pH HK) (KeepBut.of_below hb g none) (.inl rfl));have NB1320_1328:=mA (lN (blk_lt (pK BK1320.out)) hg);have NB1328_1320:=nS NB1320_1328;replace BK1320:=bK BK1320 hb;have NB0_1328:=mA (lN (IsS110.lt (show IsS110 w0 _ g s0_0 t1327 from IsS110.p HI0)) hg);have NB1328_0:=nS NB0_1328;replace HI0:=mA (IsS110.below (IsS110.p HI0) hb);clear hb hbox hg;obtain ⟨Ao81,co81,rfl⟩:=Kd.R_slice HO1323.out;have hnb82:=NB1328_1320.out;have hnc82:=NB1320_1328.out;have hnb83:=NB1328_0.out;have hnc83:=NB0_1328.out;obtain ⟨hcz84_0,hcz84_1,hfz84_0,hfz84_1⟩:=box2 BK1328.out;obtain ⟨Ao85,co85,rfl⟩:=Kd.R_slice HO1326.out)|(refine gL (some 7) Try.func75 #[.pointer (some ⟨g,0,none⟩),.int .i64 16] ?_;(with_reducible refine (spec_l6Rd_pick.calls k g s0_0 t1327 16 t1329 t1330 w0 _ ?s1 ?s2 A3.out).mono ?_);(case s1=>exact IsS110.p HI0);(case s2=>exact pQ HB (IsS110.ge HI0.out));rintro e w86 ⟨rfl,hi,hb,hk⟩;refine ⟨_,rfl,?_⟩;replace HO1323:=mA (rK (IsS110.apart (IsS110.p HI0) (pG HO1323 BK1328) aD) hk);replace HO1326:=mA (rK (IsS110.apart (IsS110.p HI0) (pG HO1326 BK1328) aD) hk);replace BK1320:=mA (kB hk (pF BK1320.out) NB1320_0);replace BK1328:=mA (kP hk #[.slice Ao81 t1321.length co81,.slice Ao85 t1324.length co85] BK1328 NB1328_0);replace HK:=mA (KeepBut.trans (pH HK) hk (.inl rfl));replace HB:=mA hb;replace HI0:=mA hi;(try clear hb);(try clear hk);(try clear hi))|(refine gL (some 50) Try.func75 #[.pointer (some ⟨g,0,none⟩),.int .i64 2] ?_;(with_reducible refine (spec_l6Rd_pick.calls k g s0_0 t1330 2 t1352 t1353 w0 _ ?s1 ?s2 A74.out).mono ?_);(case s1=>exact IsS110.p HI0);(case s2=>exact pQ HB (IsS110.ge HI0.out));rintro e w87 ⟨rfl,hi,hb,hk⟩;refine ⟨_,rfl,?_⟩;replace HO1323:=mA (rK (IsS110.apart (IsS110.p HI0) (pR HO1323.out) aD) hk);replace HO1326:=mA (rK (IsS110.apart (IsS110.p HI0) (pR HO1326.out) aD) hk);replace BK1320:=mA (kB hk (pK BK1320.out) NB1320_0);replace BK1328:=mA (kB hk (pK BK1328.out) NB1328_0);replace HK:=mA (KeepBut.trans (pH HK) hk (.inl rfl));replace HB:=mA hb;replace HI0:=mA hi;(try clear hb);(try clear hk);(try clear hi))|((with_reducible refine gate_dst (N:=52) rfl ?_);refine Kd.R_make Kd.string _ 9 rfl (N:=52) rfl 22 _ _ rfl ji75 rfl rfl Try.underlying22 (.string ⟨#[]⟩) 16 info9 rfl aD (by omega) (⟨#[]⟩:ByteArray) (ok:=fun _=>True) (okp:=fun _=>True) rfl (fun _ hk=>hk) trivial (of_decide_eq_true bA) (Nat.le_trans (Nat.mul_le_mul_right _ (of_decide_eq_true bA:ji75.toNat≤17592186044416)) (by omega)) (Below.refl _ _) (Nat.le_refl _) ?_;intro v1355 w88 ho89 hb hg_ hnew_;clear hg_ hnew_;(first|rw [← Ny1354.out] at ho89|(simp only [Int.reduceToNat] at ho89;rw [← Ny1354.out] at ho89));replace HO1326:=rB HO1326 hb;have HO1356:=mA (Kd.R_lower (Kd.R_new' ho89 (rL HO1323)) (kS HK));replace HO1323:=rE HO1323 ho89 hb;replace BK1320:=bK BK1320 hb;replace BK1328:=bK BK1328 hb;replace HK:=mA (KeepBut.trans (pH HK) (KeepBut.of_below hb g none) (.inl rfl));replace HB:=mA (below_step (pQ HB (IsS110.ge HI0.out)) hb);replace HI0:=mA (IsS110.below (IsS110.p HI0) hb);clear hb ho89;obtain ⟨Ao90,co90,rfl⟩:=Kd.R_slice HO1356.out;obtain ⟨hcz91_0,hcz91_1,hfz91_0,hfz91_1⟩:=box2 BK1328.out;have hnb92:=NB1320_0.out;have hnc92:=NB0_1320.out;obtain ⟨hcz93_0,hcz93_1,hfz93_0,hfz93_1⟩:=box2 BK1320.out))
       refine bodyPost_ret (results_cell_row rfl _ _ gb1320 31 #[.slice Ao90 y1354.length co90,.slice Ao85 t1324.length co85] (0,0) _ rfl (pP BK1320) Try.underlying31 rfl aK) rfl ?_
       exact ⟨_,_,by first|rfl|(simp [errW_none,errW_some]<;>rfl)|(simp only [← hji75];first|rfl|(simp [errW_none,errW_some]<;>rfl))|(simp [*,errW_none,errW_some]<;>rfl),pUU HO1356 BK1328 BK1320,pUU HO1326 BK1328 BK1320,IsS110.p HI0,pQ HB (IsS110.ge HI0.out),pH HK⟩
      ·rw [if_neg c77] at H
       exact absurd H (by simp)
     ·rw [if_neg c76] at H
      exact absurd H (by simp)
    ·rw [if_neg c73] at H;have c73b0:(t1329 == 3)=false:=beq_eq_false_iff_ne.mpr c73;have c73b1:(t1329 != 3)=true:=bne_iff_ne.mpr c73;simp only [Option.some.injEq,Prod.mk.injEq] at H;obtain ⟨rfl,rfl,rfl⟩:=H
     go_enter Try.func80,Try.ntmps80
     go_wp2_with (first|(refine bE 2 #[.slice none 0 0,.slice none 0 0] 31 ?_;intro gb1320 hg w94 hbox hb;replace HB:=mA (below_step (pQ HB (IsS110.ge HI0.out)) hb);have BK1320:=mA hbox;have GW1320:=mA (lG (kS HK) hg);have GE1320:=mA (Nat.le_trans HW0.out (lG (kS HK) hg));replace HK:=mA (KeepBut.trans (pH HK) (KeepBut.of_below hb g none) (.inl rfl));have NB0_1320:=mA (lN (IsS110.lt (show IsS110 w0 _ g s0_0 s0_1 from IsS110.p HI0)) hg);have NB1320_0:=nS NB0_1320;replace HI0:=mA (IsS110.below (IsS110.p HI0) hb);clear hb hbox hg)|(refine gL (some 5) Try.func87 #[.pointer (some ⟨g,0,none⟩)] ?_;(with_reducible refine (spec_l72Sec.calls k g s0_0 s0_1 t1321 t1324 t1327 w0 _ ?s1 ?s2 A2.out).mono ?_);(case s1=>exact IsS110.p HI0);(case s2=>exact pQ HB (IsS110.ge HI0.out));rintro e w95 ⟨v1322,v1325,rfl,ho0,ho1,hi,hb,hk⟩;refine ⟨_,rfl,?_⟩;have HO1323:=mA (Kd.R_lower ho0 (kS HK));have HO1326:=mA (Kd.R_lower ho1 (kS HK));replace BK1320:=mA (kB hk (pK BK1320.out) NB1320_0);replace HK:=mA (KeepBut.trans (pH HK) hk (.inl rfl));replace HB:=mA hb;replace HI0:=mA hi;(try clear hb);(try clear hk);(try clear hi);(try clear ho0);(try clear ho1))|(refine bE 3 #[.slice none 0 0,.slice none 0 0] 31 ?_;intro gb1328 hg w96 hbox hb;replace HO1323:=rB HO1323 hb;replace HO1326:=rB HO1326 hb;replace HB:=mA (below_step (pQ HB (IsS110.ge HI0.out)) hb);have BK1328:=mA hbox;have GW1328:=mA (lG (kS HK) hg);have GE1328:=mA (Nat.le_trans HW0.out (lG (kS HK) hg));replace HK:=mA (KeepBut.trans (pH HK) (KeepBut.of_below hb g none) (.inl rfl));have NB1320_1328:=mA (lN (blk_lt (pK BK1320.out)) hg);have NB1328_1320:=nS NB1320_1328;replace BK1320:=bK BK1320 hb;have NB0_1328:=mA (lN (IsS110.lt (show IsS110 w0 _ g s0_0 t1327 from IsS110.p HI0)) hg);have NB1328_0:=nS NB0_1328;replace HI0:=mA (IsS110.below (IsS110.p HI0) hb);clear hb hbox hg;obtain ⟨Ao97,co97,rfl⟩:=Kd.R_slice HO1323.out;have hnb98:=NB1328_1320.out;have hnc98:=NB1320_1328.out;have hnb99:=NB1328_0.out;have hnc99:=NB0_1328.out;obtain ⟨hcz100_0,hcz100_1,hfz100_0,hfz100_1⟩:=box2 BK1328.out;obtain ⟨Ao101,co101,rfl⟩:=Kd.R_slice HO1326.out)|(refine gL (some 7) Try.func75 #[.pointer (some ⟨g,0,none⟩),.int .i64 16] ?_;(with_reducible refine (spec_l6Rd_pick.calls k g s0_0 t1327 16 t1329 t1330 w0 _ ?s1 ?s2 A3.out).mono ?_);(case s1=>exact IsS110.p HI0);(case s2=>exact pQ HB (IsS110.ge HI0.out));rintro e w102 ⟨rfl,hi,hb,hk⟩;refine ⟨_,rfl,?_⟩;replace HO1323:=mA (rK (IsS110.apart (IsS110.p HI0) (pG HO1323 BK1328) aD) hk);replace HO1326:=mA (rK (IsS110.apart (IsS110.p HI0) (pG HO1326 BK1328) aD) hk);replace BK1320:=mA (kB hk (pF BK1320.out) NB1320_0);replace BK1328:=mA (kP hk #[.slice Ao97 t1321.length co97,.slice Ao101 t1324.length co101] BK1328 NB1328_0);replace HK:=mA (KeepBut.trans (pH HK) hk (.inl rfl));replace HB:=mA hb;replace HI0:=mA hi;(try clear hb);(try clear hk);(try clear hi);obtain ⟨hcz103_0,hcz103_1,hfz103_0,hfz103_1⟩:=box2 BK1328.out;have hnb104:=NB1320_0.out;have hnc104:=NB0_1320.out;obtain ⟨hcz105_0,hcz105_1,hfz105_0,hfz105_1⟩:=box2 BK1320.out))
     refine bodyPost_ret (results_cell_row rfl _ _ gb1320 31 #[.slice Ao97 t1321.length co97,.slice Ao101 t1324.length co101] (0,0) _ rfl (pP BK1320) Try.underlying31 rfl aK) rfl ?_
     exact ⟨_,_,by first|rfl|(simp [errW_none,errW_some]<;>rfl)|(simp [*,errW_none,errW_some]<;>rfl),pU HO1323 BK1320,pU HO1326 BK1320,IsS110.p HI0,pQ HB (IsS110.ge HI0.out),pH HK⟩

/-! ### spec_DrawSecCut: function 42 -/
def spec_DrawSecCut.f (k : Nat) (l0 : List Int) : Option (List ByteArray × (List (S75)) × List Int) := (spec_l6Open.f l0).bind fun bt1358 => ((spec_l72SecAny.f k bt1358.1 bt1358.2).bind fun bt1361 => ((spec_l72Bits.f k bt1358.1 bt1361.2.2 9).bind fun bt1368 => (some (bt1361.1, bt1361.2.1, bt1368.1))))
theorem spec_DrawSecCut.mono : ∀ a0 k, LeO (spec_DrawSecCut.f k a0) (spec_DrawSecCut.f (k + 1) a0) := by
 intro a0 k
 unfold spec_DrawSecCut.f
 repeat' first
   | (with_reducible first|exact spec_l72Bits.mono _ _ _ _|exact spec_l72SecAny.mono _ _ _|exact LeO.refl _|exact LeO.none _|refine LeO.ite ?_ ?_|refine LeO.bind ?_ (fun _=>?_))|exact spec_l72Bits.mono _ _ _ _|exact spec_l72SecAny.mono _ _ _|exact LeO.none _|refine LeO.ite ?_ ?_|refine LeO.bind ?_ (fun _=>?_)
set_option maxHeartbeats 8000000 in
set_option maxRecDepth 100000 in
theorem spec_DrawSecCut.calls (k : Nat) (A0 : Option Addr) (c0 : Nat) (l0 : List Int) (r1 : List ByteArray) (r2 : List (S75)) (r3 : List Int) (w : World) (hr0 : Kd.C (Kd.int .u8) w A0 l0.length l0) (hc0 : l0.length ≤ c0) (h : spec_DrawSecCut.f k l0 = some (r1, r2, r3)) :
  Calls Try.prog 42 #[.slice A0 l0.length c0] w fun e w'=>∃ v0_ v1_ v2_:Value,e=.returned (.tuple #[.agg #[v0_,v1_],v2_])∧Kd.R Kd.string 9 w' w.heap.size (fun _=>True) v0_ r1∧Kd.R k75 75 w' w.heap.size (fun _=>True) v1_ r2∧Kd.R (Kd.int .i64) 3 w' w.heap.size (fun _=>True) v2_ r3∧Below w.heap.size w w':=by
 have hu31:=Try.underlying31;have HR0:=mA hr0;have HC0:=mA hc0;clear hr0 hc0;have HB:=mA (Below.refl w.heap.size w);have H:((spec_l6Open.f l0).bind fun bt1358=>((spec_l72SecAny.f k bt1358.1 bt1358.2).bind fun bt1361=>((spec_l72Bits.f k bt1358.1 bt1361.2.2 9).bind fun bt1368=>(some (bt1361.1,bt1361.2.1,bt1368.1)))))=some (r1,r2,r3):=h;clear h;obtain ⟨⟨t1358,t1359⟩,A2,H⟩:=bI H;(try dsimp only at H);obtain ⟨⟨t1361,t1364,t1367⟩,A3,H⟩:=bI H;(try dsimp only at H);obtain ⟨⟨t1368,t1371⟩,A4,H⟩:=bI H;(try dsimp only at H);simp only [Option.some.injEq,Prod.mk.injEq] at H;obtain ⟨rfl,rfl,rfl⟩:=H
 go_enter Try.func42,Try.ntmps42
 go_wp2_with (first|(refine bE 2 #[.slice none 0 0,.slice none 0 0] 31 ?_;intro gb1357 hg w5 hbox hb;have BK1357:=mA hbox;have GW1357:=gbpB HB hg;have GE1357:=gbpB HB hg;replace HB:=spB HB hb;clear hb hbox hg)|(refine gL (some 6) Try.func62 #[.slice A0 l0.length c0] ?_;(with_reducible refine (spec_l6Open.calls _ _ l0 t1358 t1359 w _ ?s1 ?s2 ?s3 A2.out).mono ?_);(case s1=>repeat (first|(with_reducible first|exact HB.out|apply below_alloc|apply pw_below_drewN|apply below_drew1|refine below_set ?_ GE1357.out)|exact HB.out));(case s2=>exact HR0.out);(case s3=>exact HC0.out);rintro e w6 ⟨g1360,rfl,hi,hb,hb2⟩;refine ⟨_,rfl,?_⟩;replace HB:=mA hb;have HI1360:=mA hi;have NB1360_1357:=mA (IsS110.ne_blk hi (blk_below (pK BK1357.out) hb2) aD);have NB1357_1360:=mA (Ne.symm (IsS110.ne_blk hi (blk_below (pK BK1357.out) hb2) aD));replace BK1357:=mA (blk_below (pK BK1357.out) hb2);(try clear hb);(try clear hb2);(try clear hi))|(refine gL (some 8) Try.func80 #[.pointer (some ⟨g1360,0,none⟩)] ?_;(with_reducible refine (spec_l72SecAny.calls k g1360 t1358 t1359 t1361 t1364 t1367 w _ ?s1 ?s2 A3.out).mono ?_);(case s1=>exact IsS110.p HI1360);(case s2=>exact pQ HB (IsS110.ge HI1360.out));rintro e w7 ⟨v1362,v1365,rfl,ho0,ho1,hi,hb,hk⟩;refine ⟨_,rfl,?_⟩;have HO1363:=mA (Kd.R_lower ho0 (below_size (pQ HB (IsS110.ge HI1360.out))));have HO1366:=mA (Kd.R_lower ho1 (below_size (pQ HB (IsS110.ge HI1360.out))));replace BK1357:=mA (kB hk (pK BK1357.out) NB1357_1360);replace HB:=mA hb;replace HI1360:=mA hi;(try clear hb);(try clear hk);(try clear hi);(try clear ho0);(try clear ho1))|(refine gL (some 10) Try.func79 #[.pointer (some ⟨g1360,0,none⟩),.int .i64 9] ?_;(with_reducible refine (spec_l72Bits.calls k g1360 t1358 t1367 9 t1368 t1371 w _ ?s1 ?s2 A4.out).mono ?_);(case s1=>exact IsS110.p HI1360);(case s2=>exact pQ HB (IsS110.ge HI1360.out));rintro e w8 ⟨v1369,rfl,ho0,hi,hb,hk⟩;refine ⟨_,rfl,?_⟩;replace HO1363:=mA (rK (IsS110.apart (IsS110.p HI1360) (pR HO1363.out) aD) hk);replace HO1366:=mA (rK (IsS110.apart (IsS110.p HI1360) (pR HO1366.out) aD) hk);have HO1370:=mA (Kd.R_lower ho0 (below_size (pQ HB (IsS110.ge HI1360.out))));replace BK1357:=mA (kB hk (pK BK1357.out) NB1357_1360);replace HB:=mA hb;replace HI1360:=mA hi;(try clear hb);(try clear hk);(try clear hi);(try clear ho0);obtain ⟨Ao9,co9,rfl⟩:=Kd.R_slice HO1363.out;have hnb10:=NB1357_1360.out;have hnc10:=NB1360_1357.out;obtain ⟨hcz11_0,hcz11_1,hfz11_0,hfz11_1⟩:=box2 BK1357.out;obtain ⟨Ao12,co12,rfl⟩:=Kd.R_slice HO1366.out))
 refine bodyPost_ret (results_ct rfl _ _ gb1357 31 #[.slice Ao9 t1361.length co9,.slice Ao12 t1364.length co12] (0,0) _ rfl (pP BK1357) Try.underlying31 rfl aK) rfl ?_
 exact ⟨_,_,_,by first|rfl|(simp [errW_none,errW_some]<;>rfl)|(simp [*,errW_none,errW_some]<;>rfl),pU HO1363 BK1357,pU HO1366 BK1357,pU HO1370 BK1357,pQ HB (IsS110.ge HI1360.out)⟩

end Go.Proofs.Ythjocaegapchaaa.P
