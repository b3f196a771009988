-- printed by pprint.py (this session's program over the kit's printer) out of the translation. Lean checks it.
import Derived.Test.YthjocaegapchaaaPx0
import Derived.Test.YthjocaegapchaaaPx4
import Derived.Test.YthjocaegapchaaaPx6
import Derived.Test.YthjocaegapchaaaPx7
import Derived.Test.YthjocaegapchaaaPx11
namespace Go.Proofs.Ythjocaegapchaaa.P
open Go.RowKit Go.Proofs.YthjocaegapchaaaX Go.Proofs.YthjocaegapchaaaW.PrintWords Go.Proofs.YthjocaegapchaaaW.PrintLast Go.Proofs.YthjocaegapchaaaW.PrintMore
attribute [local go_sem] max2_int min2_int max_two min_two max_three min_three max_four min_four   -- for this text's walks alone
set_option linter.unusedVariables false
set_option linter.unusedSimpArgs false

/-! ### spec_l72Wal: function 85 -/
mutual
def spec_l72Wal.j2 : Nat → List Int → Int → List ByteArray → List (S75) → Option (List ByteArray × (List (S75)) × Int)
 | 0,_,_,_,_=>none
 | k+1,x1000,x1001,x767000,x767001=>(spec_WalRead.f k x767000 x767001).bind fun bt787=>((spec_l72Homes.f k x1000 x1001 bt787.1).bind fun bt791=>((spec_WalSteps.f k x767000 x767001 bt791.1).bind fun bt795=>((spec_l6Rd_pick.f k x1000 bt791.2 4).bind fun bt799=>(if bt799.1=0 then (some (x767000,x767001,bt799.2)) else (if bt799.1=1 then ((spec_l6Rd_pick.f k x1000 bt799.2 (wrap64 ((bt795.1.length:Int)+1))).bind fun bt801=>((spec_l72Bits.f k x1000 bt801.2 8).bind fun bt803=>((spec_WalDo.f k x767000 x767001 bt795.1 true bt801.1 bt803.1).bind fun bt807=>(some (bt807.1,bt807.2,bt803.2))))) else (if bt799.1=2 then ((spec_l6Rd_pick.f k x1000 bt799.2 (wrap64 ((bt795.1.length:Int)+1))).bind fun bt813=>(if 0≤bt813.1 then (if bt813.1≤(bt795.1.length:Int) then ((spec_WalDo.f k x767000 x767001 (bt795.1.take (bt813.1:Int).toNat) false 0 ([]:List Int)).bind fun bt819=>(some (bt819.1,bt819.2,bt813.2))) else (none)) else (none))) else (spec_l72Wal.j3 k bt795.1 x1000 bt799.2 x767000 x767001)))))))
def spec_l72Wal.j3 : Nat → List (S61) → List Int → Int → List ByteArray → List (S75) → Option (List ByteArray × (List (S75)) × Int)
 | 0,_,_,_,_,_=>none
 | k+1,x11,x1000,x1001,x767000,x767001=>(spec_l6Rd_pick.f k x1000 x1001 4).bind fun bt825=>((spec_l72Bits.f k x1000 bt825.2 8).bind fun bt827=>((spec_WalDo.f k x767000 x767001 x11 true (wrap64 ((wrap64 ((x11.length:Int) - 1)) - bt825.1)) bt827.1).bind fun bt831=>(some (bt831.1,bt831.2,bt827.2))))
def spec_l72Wal.l0 : Nat → Int → List Int → Int → List ByteArray → List (S75) → Option (List ByteArray × (List (S75)) × Int)
 | 0,_,_,_,_,_=>none
 | k+1,x4,x1000,x1001,x767000,x767001=>if x4 > 0 then (spec_l72Wal.j1 k x4 x1000 x1001 x767000 x767001) else (spec_l72Wal.j2 k x1000 x1001 x767000 x767001)
def spec_l72Wal.j1 : Nat → Int → List Int → Int → List ByteArray → List (S75) → Option (List ByteArray × (List (S75)) × Int)
 | 0,_,_,_,_,_=>none
 | k+1,x4,x1000,x1001,x767000,x767001=>(spec_WalRead.f k x767000 x767001).bind fun bt769=>((spec_l72Homes.f k x1000 x1001 bt769.1).bind fun bt773=>((spec_WalSteps.f k x767000 x767001 bt773.1).bind fun bt777=>((spec_WalDo.f k x767000 x767001 bt777.1 false 0 ([]:List Int)).bind fun bt781=>(spec_l72Wal.l0 k (wrap64 (x4 - 1)) x1000 bt773.2 bt781.1 bt781.2))))
end
def spec_l72Wal.f (k : Nat) (s0_0 : List Int) (s0_1 : Int) : Option (List ByteArray × (List (S75)) × Int) := (spec_WalNew.f).bind fun bt760 => ((spec_l6Rd_pick.f k s0_0 s0_1 3).bind fun bt767 => (spec_l72Wal.l0 k (wrap64 (1 + bt767.1)) s0_0 bt767.2 bt760.1 bt760.2))
theorem spec_l72Wal.mono_l : ∀ k, (∀ y0 y1 y2 y3, LeO (spec_l72Wal.j2 k y0 y1 y2 y3) (spec_l72Wal.j2 (k + 1) y0 y1 y2 y3)) ∧ (∀ y0 y1 y2 y3 y4, LeO (spec_l72Wal.j3 k y0 y1 y2 y3 y4) (spec_l72Wal.j3 (k + 1) y0 y1 y2 y3 y4)) ∧ (∀ y0 y1 y2 y3 y4, LeO (spec_l72Wal.l0 k y0 y1 y2 y3 y4) (spec_l72Wal.l0 (k + 1) y0 y1 y2 y3 y4)) ∧ (∀ y0 y1 y2 y3 y4, LeO (spec_l72Wal.j1 k y0 y1 y2 y3 y4) (spec_l72Wal.j1 (k + 1) y0 y1 y2 y3 y4))
 | 0=>⟨fun _ _ _ _ r h=>by simp [spec_l72Wal.j2] at h,fun _ _ _ _ _ r h=>by simp [spec_l72Wal.j3] at h,fun _ _ _ _ _ r h=>by simp [spec_l72Wal.l0] at h,fun _ _ _ _ _ r h=>by simp [spec_l72Wal.j1] at h⟩
 | k+1=>by
  obtain ⟨ih0,ih1,ih2,ih3⟩:=spec_l72Wal.mono_l k;refine ⟨?_,?_,?_,?_⟩
  ·intro y0 y1 y2 y3
   unfold spec_l72Wal.j2
   repeat' first
   | (with_reducible first|exact ih0 _ _ _ _|exact ih1 _ _ _ _ _|exact ih2 _ _ _ _ _|exact ih3 _ _ _ _ _|exact spec_WalDo.mono _ _ _ _ _ _ _|exact spec_WalRead.mono _ _ _|exact spec_WalSteps.mono _ _ _ _|exact spec_l6Rd_pick.mono _ _ _ _|exact spec_l72Bits.mono _ _ _ _|exact spec_l72Homes.mono _ _ _ _|exact LeO.refl _|exact LeO.none _|refine LeO.ite ?_ ?_|refine LeO.bind ?_ (fun _=>?_))|exact ih0 _ _ _ _|exact ih1 _ _ _ _ _|exact ih2 _ _ _ _ _|exact ih3 _ _ _ _ _|exact spec_WalDo.mono _ _ _ _ _ _ _|exact spec_WalRead.mono _ _ _|exact spec_WalSteps.mono _ _ _ _|exact spec_l6Rd_pick.mono _ _ _ _|exact spec_l72Bits.mono _ _ _ _|exact spec_l72Homes.mono _ _ _ _|exact LeO.none _|refine LeO.ite ?_ ?_|refine LeO.bind ?_ (fun _=>?_)
  ·intro y0 y1 y2 y3 y4
   unfold spec_l72Wal.j3
   repeat' first
   | (with_reducible first|exact ih0 _ _ _ _|exact ih1 _ _ _ _ _|exact ih2 _ _ _ _ _|exact ih3 _ _ _ _ _|exact spec_WalDo.mono _ _ _ _ _ _ _|exact spec_WalRead.mono _ _ _|exact spec_WalSteps.mono _ _ _ _|exact spec_l6Rd_pick.mono _ _ _ _|exact spec_l72Bits.mono _ _ _ _|exact spec_l72Homes.mono _ _ _ _|exact LeO.refl _|exact LeO.none _|refine LeO.ite ?_ ?_|refine LeO.bind ?_ (fun _=>?_))|exact ih0 _ _ _ _|exact ih1 _ _ _ _ _|exact ih2 _ _ _ _ _|exact ih3 _ _ _ _ _|exact spec_WalDo.mono _ _ _ _ _ _ _|exact spec_WalRead.mono _ _ _|exact spec_WalSteps.mono _ _ _ _|exact spec_l6Rd_pick.mono _ _ _ _|exact spec_l72Bits.mono _ _ _ _|exact spec_l72Homes.mono _ _ _ _|exact LeO.none _|refine LeO.ite ?_ ?_|refine LeO.bind ?_ (fun _=>?_)
  ·intro y0 y1 y2 y3 y4
   unfold spec_l72Wal.l0
   repeat' first
   | (with_reducible first|exact ih0 _ _ _ _|exact ih1 _ _ _ _ _|exact ih2 _ _ _ _ _|exact ih3 _ _ _ _ _|exact spec_WalDo.mono _ _ _ _ _ _ _|exact spec_WalRead.mono _ _ _|exact spec_WalSteps.mono _ _ _ _|exact spec_l6Rd_pick.mono _ _ _ _|exact spec_l72Bits.mono _ _ _ _|exact spec_l72Homes.mono _ _ _ _|exact LeO.refl _|exact LeO.none _|refine LeO.ite ?_ ?_|refine LeO.bind ?_ (fun _=>?_))|exact ih0 _ _ _ _|exact ih1 _ _ _ _ _|exact ih2 _ _ _ _ _|exact ih3 _ _ _ _ _|exact spec_WalDo.mono _ _ _ _ _ _ _|exact spec_WalRead.mono _ _ _|exact spec_WalSteps.mono _ _ _ _|exact spec_l6Rd_pick.mono _ _ _ _|exact spec_l72Bits.mono _ _ _ _|exact spec_l72Homes.mono _ _ _ _|exact LeO.none _|refine LeO.ite ?_ ?_|refine LeO.bind ?_ (fun _=>?_)
  ·intro y0 y1 y2 y3 y4
   unfold spec_l72Wal.j1
   repeat' first
   | (with_reducible first|exact ih0 _ _ _ _|exact ih1 _ _ _ _ _|exact ih2 _ _ _ _ _|exact ih3 _ _ _ _ _|exact spec_WalDo.mono _ _ _ _ _ _ _|exact spec_WalRead.mono _ _ _|exact spec_WalSteps.mono _ _ _ _|exact spec_l6Rd_pick.mono _ _ _ _|exact spec_l72Bits.mono _ _ _ _|exact spec_l72Homes.mono _ _ _ _|exact LeO.refl _|exact LeO.none _|refine LeO.ite ?_ ?_|refine LeO.bind ?_ (fun _=>?_))|exact ih0 _ _ _ _|exact ih1 _ _ _ _ _|exact ih2 _ _ _ _ _|exact ih3 _ _ _ _ _|exact spec_WalDo.mono _ _ _ _ _ _ _|exact spec_WalRead.mono _ _ _|exact spec_WalSteps.mono _ _ _ _|exact spec_l6Rd_pick.mono _ _ _ _|exact spec_l72Bits.mono _ _ _ _|exact spec_l72Homes.mono _ _ _ _|exact LeO.none _|refine LeO.ite ?_ ?_|refine LeO.bind ?_ (fun _=>?_)
theorem spec_l72Wal.mono : ∀ a0 a1 k, LeO (spec_l72Wal.f k a0 a1) (spec_l72Wal.f (k + 1) a0 a1) := by
 intro a0 a1 k;obtain ⟨ih0,ih1,ih2,ih3⟩:=spec_l72Wal.mono_l k
 unfold spec_l72Wal.f
 repeat' first
   | (with_reducible first|exact ih0 _ _ _ _|exact ih1 _ _ _ _ _|exact ih2 _ _ _ _ _|exact ih3 _ _ _ _ _|exact spec_WalDo.mono _ _ _ _ _ _ _|exact spec_WalRead.mono _ _ _|exact spec_WalSteps.mono _ _ _ _|exact spec_l6Rd_pick.mono _ _ _ _|exact spec_l72Bits.mono _ _ _ _|exact spec_l72Homes.mono _ _ _ _|exact LeO.refl _|exact LeO.none _|refine LeO.ite ?_ ?_|refine LeO.bind ?_ (fun _=>?_))|exact ih0 _ _ _ _|exact ih1 _ _ _ _ _|exact ih2 _ _ _ _ _|exact ih3 _ _ _ _ _|exact spec_WalDo.mono _ _ _ _ _ _ _|exact spec_WalRead.mono _ _ _|exact spec_WalSteps.mono _ _ _ _|exact spec_l6Rd_pick.mono _ _ _ _|exact spec_l72Bits.mono _ _ _ _|exact spec_l72Homes.mono _ _ _ _|exact LeO.none _|refine LeO.ite ?_ ?_|refine LeO.bind ?_ (fun _=>?_)
def spec_l72Wal.T6 : Bool × List (List Nat × List Nat) := (true, [([], []), ([], []), ([], []), ([1, 2], [1, 2]), ([0, 3, 3], [0, 3]), ([4], [4]), ([5], [5]), ([5], [5]), ([6, 4, 0, 1, 2, 3, 4, 5, 6], [6]), ([7, 8, 0, 1, 2, 3, 4, 5, 6, 7, 8], [7])])
def spec_l72Wal.B6 : List Nat := [0, 0, 0, 6, 15, 31, 63, 63, 127, 511]
theorem spec_l72Wal.tab6 : rtab .any (opsOf Try.f85 6) = spec_l72Wal.T6 := by kernel_rfl
theorem spec_l72Wal.bits6 : waitsOk spec_l72Wal.T6.2 spec_l72Wal.B6 = true := by kernel_rfl
def spec_l72Wal.T9 : Bool × List (List Nat × List Nat) := (true, [([], []), ([], []), ([], []), ([1, 2], [1, 2]), ([0, 3, 3], [0, 3]), ([4], [4]), ([5], [5]), ([5], [5]), ([6, 4, 0, 1, 2, 3, 4, 5, 6], [6]), ([7, 8, 0, 1, 2, 3, 4, 5, 6, 7, 8], [7])])
def spec_l72Wal.B9 : List Nat := [0, 0, 0, 6, 15, 31, 63, 63, 127, 511]
theorem spec_l72Wal.tab9 : rtab .any (opsOf Try.f85 9) = spec_l72Wal.T9 := by kernel_rfl
theorem spec_l72Wal.bits9 : waitsOk spec_l72Wal.T9.2 spec_l72Wal.B9 = true := by kernel_rfl
def spec_l72Wal.T14 : Bool × List (List Nat × List Nat) := (true, [([], []), ([], []), ([], []), ([], []), ([3], [3]), ([4], [4]), ([2, 5], [2, 5]), ([], []), ([7, 6], [7]), ([0, 1, 6, 8, 8], [0, 1, 6, 8]), ([9, 9, 0, 1, 2, 3, 4, 5, 6, 7, 8, 9], [9])])
def spec_l72Wal.B14 : List Nat := [0, 0, 0, 0, 8, 24, 60, 0, 252, 511, 1023]
theorem spec_l72Wal.tab14 : rtab .any (opsOf Try.f85 14) = spec_l72Wal.T14 := by kernel_rfl
theorem spec_l72Wal.bits14 : waitsOk spec_l72Wal.T14.2 spec_l72Wal.B14 = true := by kernel_rfl
def spec_l72Wal.T18 : Bool × List (List Nat × List Nat) := (true, [([], []), ([], []), ([], []), ([2], [2]), ([3], [3]), ([], []), ([5], [5]), ([4, 6], [4, 6]), ([], []), ([8, 6], [8]), ([0, 1, 7, 9, 9], [0, 1, 7, 9]), ([10, 10, 0, 1, 2, 3, 4, 5, 6, 7, 8, 9, 10], [10])])
def spec_l72Wal.B18 : List Nat := [0, 0, 0, 4, 12, 0, 32, 124, 0, 352, 1023, 2047]
theorem spec_l72Wal.tab18 : rtab .any (opsOf Try.f85 18) = spec_l72Wal.T18 := by kernel_rfl
theorem spec_l72Wal.bits18 : waitsOk spec_l72Wal.T18.2 spec_l72Wal.B18 = true := by kernel_rfl
set_option maxHeartbeats 8000000 in
set_option maxRecDepth 100000 in
theorem spec_l72Wal.calls (k : Nat) (g : Nat) (s0_0 : List Int) (s0_1 : Int) (r1 : List ByteArray) (r2 : List (S75)) (r3 : Int) (w0 w : World) (hI : IsS110 w0 w g s0_0 s0_1) (hB : Below w0.heap.size w0 w) (h : spec_l72Wal.f k s0_0 s0_1 = some (r1, r2, r3)) :
  Calls Try.prog 85 #[.pointer (some ⟨g,0,none⟩)] w fun e w'=>∃ v0_ v1_:Value,e=.returned (.agg #[v0_,v1_])∧Kd.R Kd.string 9 w' w.heap.size (fun _=>True) v0_ r1∧Kd.R k75 75 w' w.heap.size (fun _=>True) v1_ r2∧IsS110 w0 w' g s0_0 r3∧Below w0.heap.size w0 w'∧KeepBut w w' g none:=by
 have hu31:=Try.underlying31;have HI0:=Aside0.mk hI;have HK:=Aside0.mk (KeepBut.refl w g none);have HL:=Aside0.mk hB.size;clear hI;have HW0:=Aside0.mk hB.size;have HB:=Aside0.mk hB;clear hB;have H:((spec_WalNew.f).bind fun bt760=>((spec_l6Rd_pick.f k s0_0 s0_1 3).bind fun bt767=>(spec_l72Wal.l0 k (wrap64 (1+bt767.1)) s0_0 bt767.2 bt760.1 bt760.2)))=some (r1,r2,r3):=h;clear h;replace H:=Option.bind_eq_some_iff.mp H;obtain ⟨⟨t760,t763⟩,A20,H⟩:=H
 (try dsimp only at H)
 have A2:=Aside0.mk A20;clear A20;replace H:=Option.bind_eq_some_iff.mp H;obtain ⟨⟨t767,t768⟩,A30,H⟩:=H
 (try dsimp only at H)
 have A3:=Aside0.mk A30;clear A30;have HC4:=Aside0.mk H;clear H
 go_enter Try.func85,Try.ntmps85
 go_upto_block 0 with (first|((with_reducible refine gate_dst (N:=2) rfl ?_);refine box_event ?hg (N:=2) ?hd (cs:=#[.slice none 0 0,.slice none 0 0]) (t:=31) ?hr ?_;(case hd=>rfl);(case hg=>rfl);(case hr=>first|(go_simp;done)|(go_simp;rfl));intro gb759 hg w5 hbox hb;have n0_:=Aside0.mk (IsS110.below (by repeat (first|(with_reducible first|exact HI0.out|apply IsS110.alloc|apply IsS110.drewN|apply IsS110.drew|apply IsS110.set_1)|exact HI0.out)) hb);have n1_:=Aside0.mk (KeepBut.trans (by repeat (first|(with_reducible first|exact HK.out|apply KeepBut.set_|apply keep_drewN|apply keep_drew|apply keep_alloc)|exact HK.out)) (KeepBut.of_below hb g none) (.inl rfl));have n2_:=Aside0.mk (below_step (by repeat (first|(with_reducible first|exact HB.out|apply below_alloc|apply pw_below_drewN|apply below_drew1|refine below_set ?_ (IsS110.ge HI0.out))|exact HB.out)) hb);have n3_:=Aside0.mk (hbox);have n4_:=Aside0.mk ((by rw [hg];exact (keep_size (w:=w) (g:=g) (row:=none) (by repeat (first|(with_reducible first|exact HK.out|apply KeepBut.set_|apply keep_drewN|apply keep_drew|apply keep_alloc)|exact HK.out))):w.heap.size≤gb759));have n5_:=Aside0.mk ((Nat.le_trans HW0.out (by rw [hg];exact (keep_size (w:=w) (g:=g) (row:=none) (by repeat (first|(with_reducible first|exact HK.out|apply KeepBut.set_|apply keep_drewN|apply keep_drew|apply keep_alloc)|exact HK.out))):w.heap.size≤gb759):w0.heap.size≤gb759));have n6_:=Aside0.mk ((by rw [hg];exact Nat.ne_of_lt (IsS110.lt (show IsS110 w0 _ g s0_0 s0_1 from by repeat (first|(with_reducible first|exact HI0.out|apply IsS110.alloc|apply IsS110.drewN|apply IsS110.drew|apply IsS110.set_1)|exact HI0.out))):g≠gb759));have n7_:=Aside0.mk ((by rw [hg];exact Nat.ne_of_gt (IsS110.lt (show IsS110 w0 _ g s0_0 s0_1 from by repeat (first|(with_reducible first|exact HI0.out|apply IsS110.alloc|apply IsS110.drewN|apply IsS110.drew|apply IsS110.set_1)|exact HI0.out))):gb759≠g));clear HI0;clear HK;clear HB;have HI0:=n0_;have HK:=n1_;have HB:=n2_;have BK759:=n3_;have GW759:=n4_;have GE759:=n5_;have NB0_759:=n6_;have NB759_0:=n7_;clear n0_ n1_ n2_ n3_ n4_ n5_ n6_ n7_;clear hb hbox hg)|((with_reducible refine gate_callee (f:=90) rfl ?_);refine goesL_ (some 14) rfl rfl Try.func90 (by kernel_rfl) rfl #[] rfl bM ?_;(with_reducible refine (spec_WalNew.calls  t760 t763 _ A2.out).mono ?_);rintro e w6 ⟨v761,v764,rfl,ho0,ho1,hb⟩;refine ⟨_,rfl,?_⟩;have n0_:=Aside0.mk (Kd.R_lower ho0 (keep_size (w:=w) (g:=g) (row:=none) (by repeat (first|(with_reducible first|exact HK.out|apply KeepBut.set_|apply keep_drewN|apply keep_drew|apply keep_alloc|refine keep_far ?_ GW759.out _)|exact HK.out))));have n1_:=Aside0.mk (Kd.R_lower ho1 (keep_size (w:=w) (g:=g) (row:=none) (by repeat (first|(with_reducible first|exact HK.out|apply KeepBut.set_|apply keep_drewN|apply keep_drew|apply keep_alloc|refine keep_far ?_ GW759.out _)|exact HK.out))));have n2_:=Aside0.mk (IsS110.below (by repeat (first|(with_reducible first|exact HI0.out|apply IsS110.alloc|apply IsS110.drewN|apply IsS110.drew|apply IsS110.set_1|refine IsS110.far ?_ NB0_759.out _)|exact HI0.out)) hb);have n3_:=Aside0.mk (blk_below (pK BK759.out) hb);have n4_:=Aside0.mk (KeepBut.trans (by repeat (first|(with_reducible first|exact HK.out|apply KeepBut.set_|apply keep_drewN|apply keep_drew|apply keep_alloc|refine keep_far ?_ GW759.out _)|exact HK.out)) (KeepBut.of_below hb g none) (.inl rfl));have n5_:=Aside0.mk (below_step (by repeat (first|(with_reducible first|exact HB.out|apply below_alloc|apply pw_below_drewN|apply below_drew1|refine below_set ?_ (IsS110.ge HI0.out)|refine below_set ?_ GE759.out)|exact HB.out)) hb);clear HI0;clear BK759;clear HK;clear HB;have HO762:=n0_;have HO765:=n1_;have HI0:=n2_;have BK759:=n3_;have HK:=n4_;have HB:=n5_;clear n0_ n1_ n2_ n3_ n4_ n5_;(try clear hb);(try clear hb2);(try clear hk);(try clear hi);(try clear ho0);(try clear ho1))|((with_reducible refine gate_dst (N:=3) rfl ?_);refine box_event ?hg (N:=3) ?hd (cs:=#[.slice none 0 0,.slice none 0 0]) (t:=31) ?hr ?_;(case hd=>rfl);(case hg=>rfl);(case hr=>first|(go_simp;done)|(go_simp;rfl));intro gb766 hg w7 hbox hb;have n0_:=Aside0.mk (Kd.R_below (pR HO762.out) hb);have n1_:=Aside0.mk (Kd.R_below (pR HO765.out) hb);have n2_:=Aside0.mk (IsS110.below (by repeat (first|(with_reducible first|exact HI0.out|apply IsS110.alloc|apply IsS110.drewN|apply IsS110.drew|apply IsS110.set_1|refine IsS110.far ?_ NB0_759.out _)|exact HI0.out)) hb);have n3_:=Aside0.mk (blk_below (pK BK759.out) hb);have n4_:=Aside0.mk (KeepBut.trans (by repeat (first|(with_reducible first|exact HK.out|apply KeepBut.set_|apply keep_drewN|apply keep_drew|apply keep_alloc|refine keep_far ?_ GW759.out _)|exact HK.out)) (KeepBut.of_below hb g none) (.inl rfl));have n5_:=Aside0.mk (below_step (by repeat (first|(with_reducible first|exact HB.out|apply below_alloc|apply pw_below_drewN|apply below_drew1|refine below_set ?_ (IsS110.ge HI0.out)|refine below_set ?_ GE759.out)|exact HB.out)) hb);have n6_:=Aside0.mk (hbox);have n7_:=Aside0.mk ((by rw [hg];exact (keep_size (w:=w) (g:=g) (row:=none) (by repeat (first|(with_reducible first|exact HK.out|apply KeepBut.set_|apply keep_drewN|apply keep_drew|apply keep_alloc|refine keep_far ?_ GW759.out _)|exact HK.out))):w.heap.size≤gb766));have n8_:=Aside0.mk ((Nat.le_trans HW0.out (by rw [hg];exact (keep_size (w:=w) (g:=g) (row:=none) (by repeat (first|(with_reducible first|exact HK.out|apply KeepBut.set_|apply keep_drewN|apply keep_drew|apply keep_alloc|refine keep_far ?_ GW759.out _)|exact HK.out))):w.heap.size≤gb766):w0.heap.size≤gb766));have n9_:=Aside0.mk ((by rw [hg];exact Nat.ne_of_lt (blk_lt (pK BK759.out)):gb759≠gb766));have n10_:=Aside0.mk ((by rw [hg];exact Nat.ne_of_gt (blk_lt (pK BK759.out)):gb766≠gb759));have n11_:=Aside0.mk ((by rw [hg];exact Nat.ne_of_lt (IsS110.lt (show IsS110 w0 _ g s0_0 s0_1 from by repeat (first|(with_reducible first|exact HI0.out|apply IsS110.alloc|apply IsS110.drewN|apply IsS110.drew|apply IsS110.set_1|refine IsS110.far ?_ NB0_759.out _)|exact HI0.out))):g≠gb766));have n12_:=Aside0.mk ((by rw [hg];exact Nat.ne_of_gt (IsS110.lt (show IsS110 w0 _ g s0_0 s0_1 from by repeat (first|(with_reducible first|exact HI0.out|apply IsS110.alloc|apply IsS110.drewN|apply IsS110.drew|apply IsS110.set_1|refine IsS110.far ?_ NB0_759.out _)|exact HI0.out))):gb766≠g));clear HO762;clear HO765;clear HI0;clear BK759;clear HK;clear HB;have HO762:=n0_;have HO765:=n1_;have HI0:=n2_;have BK759:=n3_;have HK:=n4_;have HB:=n5_;have BK766:=n6_;have GW766:=n7_;have GE766:=n8_;have NB759_766:=n9_;have NB766_759:=n10_;have NB0_766:=n11_;have NB766_0:=n12_;clear n0_ n1_ n2_ n3_ n4_ n5_ n6_ n7_ n8_ n9_ n10_ n11_ n12_;clear hb hbox hg;obtain ⟨Ao8,co8,eo8⟩:=Kd.R_slice HO762.out;subst eo8;have hnb9:=NB766_759.out;have hnc9:=NB759_766.out;have hnb10:=NB766_0.out;have hnc10:=NB0_766.out;obtain ⟨hcz11_0,hcz11_1,hfz11_0,hfz11_1⟩:=box2 BK766.out;obtain ⟨Ao12,co12,eo12⟩:=Kd.R_slice HO765.out;subst eo12)|((with_reducible refine gate_callee (f:=75) rfl ?_);refine goesL_ (some 16) rfl rfl Try.func75 (by kernel_rfl) rfl #[.pointer (some ⟨g,0,none⟩),.int .i64 3] rfl bM ?_;(with_reducible refine (spec_l6Rd_pick.calls k g s0_0 s0_1 3 t767 t768 w0 _ ?side1 ?side2 A3.out).mono ?_);(case side1=>repeat (first|(with_reducible first|exact HI0.out|apply IsS110.alloc|apply IsS110.drewN|apply IsS110.drew|apply IsS110.set_1|refine IsS110.far ?_ NB0_759.out _|refine IsS110.far ?_ NB0_766.out _)|exact HI0.out));(case side2=>repeat (first|(with_reducible first|exact HB.out|apply below_alloc|apply pw_below_drewN|apply below_drew1|refine below_set ?_ (IsS110.ge HI0.out)|refine below_set ?_ GE759.out|refine below_set ?_ GE766.out)|exact HB.out));rintro e w13 ⟨rfl,hi,hb,hk⟩;refine ⟨_,rfl,?_⟩;have n0_:=Aside0.mk (KeepBut.blk hk (g':=gb759) (o:=.cells #[.slice none 0 0,.slice none 0 0] 31 (0,0)) (pF BK759.out) NB759_0.out (by simp));have n1_:=Aside0.mk (Kd.R_mono (Kd.R_keep (IsS110.apart (show IsS110 w0 _ g s0_0 s0_1 from by repeat (first|(with_reducible first|exact HI0.out|apply IsS110.alloc|apply IsS110.drewN|apply IsS110.drew|apply IsS110.set_1|refine IsS110.far ?_ NB0_759.out _|refine IsS110.far ?_ NB0_766.out _)|exact HI0.out)) (pR (Kd.R_mono (Kd.R_far (p:=⟨gb766,1,none⟩) (Kd.R_far (p:=⟨gb766,0,none⟩) (Kd.R_types HO762.out BK766.out (by decide)) (fun _ hk=>hk.2) (.slice Ao8 t760.length co8)) (fun _ hk=>hk.2) (.slice Ao12 t763.length co12)) (fun _ h_=>h_.1))) (by decide)) hk (fun _ h=>h.2)) (fun _ h=>h.1));have n2_:=Aside0.mk (Kd.R_mono (Kd.R_keep (IsS110.apart (show IsS110 w0 _ g s0_0 s0_1 from by repeat (first|(with_reducible first|exact HI0.out|apply IsS110.alloc|apply IsS110.drewN|apply IsS110.drew|apply IsS110.set_1|refine IsS110.far ?_ NB0_759.out _|refine IsS110.far ?_ NB0_766.out _)|exact HI0.out)) (pR (Kd.R_mono (Kd.R_far (p:=⟨gb766,1,none⟩) (Kd.R_far (p:=⟨gb766,0,none⟩) (Kd.R_types HO765.out BK766.out (by decide)) (fun _ hk=>hk.2) (.slice Ao8 t760.length co8)) (fun _ hk=>hk.2) (.slice Ao12 t763.length co12)) (fun _ h_=>h_.1))) (by decide)) hk (fun _ h=>h.2)) (fun _ h=>h.1));have n3_:=Aside0.mk (KeepBut.blk hk (g':=gb766) (o:=.cells #[.slice Ao8 t760.length co8,.slice Ao12 t763.length co12] 31 (0,0)) (by (with_reducible repeat (first|refine blk_drewN ?_ _|refine blk_drew ?_|refine blk_alloc ?_ _));refine blk_put (cs:=#[.slice Ao8 t760.length co8,.slice none 0 0]) ?_ 1 _ rfl;(with_reducible repeat (first|refine blk_drewN ?_ _|refine blk_drew ?_|refine blk_alloc ?_ _));refine blk_put (cs:=#[.slice none 0 0,.slice none 0 0]) ?_ 0 _ rfl;(with_reducible repeat (first|refine blk_drewN ?_ _|refine blk_drew ?_|refine blk_alloc ?_ _));exact BK766.out) NB766_0.out (by simp));have n4_:=Aside0.mk (KeepBut.trans (by repeat (first|(with_reducible first|exact HK.out|apply KeepBut.set_|apply keep_drewN|apply keep_drew|apply keep_alloc|refine keep_far ?_ GW759.out _|refine keep_far ?_ GW766.out _)|exact HK.out)) hk (.inl rfl));have n5_:=Aside0.mk (hb);have n6_:=Aside0.mk (hi);clear BK759;clear HO762;clear HO765;clear BK766;clear HK;clear HB;clear HI0;have BK759:=n0_;have HO762:=n1_;have HO765:=n2_;have BK766:=n3_;have HK:=n4_;have HB:=n5_;have HI0:=n6_;clear n0_ n1_ n2_ n3_ n4_ n5_ n6_;(try clear hb);(try clear hb2);(try clear hk);(try clear hi)))
 (try simp only [Act.put,List.setIfInBounds_toArray,List.set_cons_zero,List.set_cons_succ])
 go_cut [] (fun wc=>∃ (kq:Nat) (x1001_3:Int) (x767000_3:List ByteArray) (x767001_3:List (S75)) (u767000:Value) (u767001:Value),Aside0 (spec_l72Wal.j2 kq s0_0 x1001_3 x767000_3 x767001_3=some (r1,r2,r3))∧Aside0 (kq≤k)∧Aside0 (Kd.R Kd.string 9 wc w.heap.size (fun _=>True) u767000 x767000_3)∧Aside0 (Kd.R k75 75 wc w.heap.size (fun _=>True) u767001 x767001_3)∧Aside0 (wc.heap[gb759]?=some (.cells #[(.slice none 0 0),(.slice none 0 0)] 31 (0,0)))∧Aside0 (wc.heap[gb766]?=some (.cells #[u767000,u767001] 31 (0,0)))∧Aside0 (IsS110 w0 wc g s0_0 x1001_3)∧Aside0 (KeepBut w wc g none)∧Aside0 (Below w0.heap.size w0 wc))
 case first =>
  have H:=HC4.out;clear HC4;have H':=Aside0.mk H;clear H
  go_wp2
  go_loopg [4] k (fun kq v4 w'=>∃ (x4_1:Int) (x1001_1:Int) (x767000_1:List ByteArray) (x767001_1:List (S75)) (u767000:Value) (u767001:Value),v4=.int .i64 x4_1∧Aside0 (spec_l72Wal.l0 kq x4_1 s0_0 x1001_1 x767000_1 x767001_1=some (r1,r2,r3))∧Aside0 (kq≤k)∧Aside0 (Kd.R Kd.string 9 w' w.heap.size (fun _=>True) u767000 x767000_1)∧Aside0 (Kd.R k75 75 w' w.heap.size (fun _=>True) u767001 x767001_1)∧Aside0 (w'.heap[gb759]?=some (.cells #[(.slice none 0 0),(.slice none 0 0)] 31 (0,0)))∧Aside0 (w'.heap[gb766]?=some (.cells #[u767000,u767001] 31 (0,0)))∧Aside0 (IsS110 w0 w' g s0_0 x1001_1)∧Aside0 (KeepBut w w' g none)∧Aside0 (Below w0.heap.size w0 w'))
  case atStart=>exact ⟨(wrap64 (1+t767)),(t768),(t760),(t763),(.slice Ao8 t760.length co8),(.slice Ao12 t763.length co12),(by first|rfl|(simp;done)|(simp [*];done)),H',⟨Nat.le_refl _⟩,⟨pR HO762.out⟩,⟨pR HO765.out⟩,⟨pK BK759.out⟩,⟨pK BK766.out⟩,⟨by repeat (first|(with_reducible first|exact HI0.out|apply IsS110.alloc|apply IsS110.drewN|apply IsS110.drew|apply IsS110.set_1|refine IsS110.far ?_ NB0_759.out _|refine IsS110.far ?_ NB0_766.out _)|exact HI0.out)⟩,⟨by repeat (first|(with_reducible first|exact HK.out|apply KeepBut.set_|apply keep_drewN|apply keep_drew|apply keep_alloc|refine keep_far ?_ GW759.out _|refine keep_far ?_ GW766.out _)|exact HK.out)⟩,⟨by repeat (first|(with_reducible first|exact HB.out|apply below_alloc|apply pw_below_drewN|apply below_drew1|refine below_set ?_ (IsS110.ge HI0.out)|refine below_set ?_ GE759.out|refine below_set ?_ GE766.out)|exact HB.out)⟩⟩
  case round =>
   clear H'
   (try clear c1)
   (try clear p2)
   (try clear p6)
   (try clear c7)
   (try clear c8)
   (try clear c9)
   (try clear c10)
   (try clear hcz11_0)
   (try clear hcz11_1)
   (try clear hfz11_0)
   (try clear hfz11_1)
   obtain ⟨x4_1,x1001_1,x767000_1,x767001_1,u767000,u767001,rfl,HA,HK1,HO_767000,HO_767001,BK759,BK766,HI0,HK,HB⟩:=hrel
   cases gk with
   | zero=>exact absurd HA.out (by simp [spec_l72Wal.l0])
   | succ k1 =>
    have H:=HA.out;clear HA;simp only [spec_l72Wal.l0] at H;have HC14:=Aside0.mk H;clear H
    go_upto_if 19 with (fail)
    go_cut [] (fun wc=>∃ (kq:Nat),Aside0 (spec_l72Wal.j1 kq x4_1 s0_0 x1001_1 x767000_1 x767001_1=some (r1,r2,r3))∧Aside0 (kq≤k1)∧Aside0 (Kd.R Kd.string 9 wc w.heap.size (fun _=>True) u767000 x767000_1)∧Aside0 (Kd.R k75 75 wc w.heap.size (fun _=>True) u767001 x767001_1)∧Aside0 (wc.heap[gb759]?=some (.cells #[(.slice none 0 0),(.slice none 0 0)] 31 (0,0)))∧Aside0 (wc.heap[gb766]?=some (.cells #[u767000,u767001] 31 (0,0)))∧Aside0 (IsS110 w0 wc g s0_0 x1001_1)∧Aside0 (KeepBut w wc g none)∧Aside0 (Below w0.heap.size w0 wc))
    case first =>
     have H:=HC14.out;clear HC14
     by_cases c15:x4_1 > 0
     ·rw [if_pos c15] at H;have c15b0:decide (0<x4_1)=true:=decide_eq_true c15;clear c15
      (first|rw [c15b0]|(simp only [i64_w,i32_w];rw [c15b0])|skip)
      have H':=Aside0.mk H;clear H
      go_wp2
      go_meet
      case rel=>exact ⟨_,H',⟨by have:=HK1.out;first|omega|exact Nat.le_refl _⟩,⟨pR HO_767000.out⟩,⟨pR HO_767001.out⟩,⟨pK BK759.out⟩,⟨pK BK766.out⟩,⟨by repeat (first|(with_reducible first|exact HI0.out|apply IsS110.alloc|apply IsS110.drewN|apply IsS110.drew|apply IsS110.set_1|refine IsS110.far ?_ NB0_759.out _|refine IsS110.far ?_ NB0_766.out _)|exact HI0.out)⟩,⟨by repeat (first|(with_reducible first|exact HK.out|apply KeepBut.set_|apply keep_drewN|apply keep_drew|apply keep_alloc|refine keep_far ?_ GW759.out _|refine keep_far ?_ GW766.out _)|exact HK.out)⟩,⟨by repeat (first|(with_reducible first|exact HB.out|apply below_alloc|apply pw_below_drewN|apply below_drew1|refine below_set ?_ (IsS110.ge HI0.out)|refine below_set ?_ GE759.out|refine below_set ?_ GE766.out)|exact HB.out)⟩⟩
     ·rw [if_neg c15] at H;have c15b0:decide (0<x4_1)=false:=decide_eq_false c15;clear c15
      (first|rw [c15b0]|(simp only [i64_w,i32_w];rw [c15b0])|skip)
      have H':=Aside0.mk H;clear H
      go_wp2
      go_meet
      case rel=>exact ⟨_,(x1001_1),(x767000_1),(x767001_1),(u767000),(u767001),H',⟨by have:=HK1.out;first|omega|exact Nat.le_refl _⟩,⟨pR HO_767000.out⟩,⟨pR HO_767001.out⟩,⟨pK BK759.out⟩,⟨pK BK766.out⟩,⟨by repeat (first|(with_reducible first|exact HI0.out|apply IsS110.alloc|apply IsS110.drewN|apply IsS110.drew|apply IsS110.set_1|refine IsS110.far ?_ NB0_759.out _|refine IsS110.far ?_ NB0_766.out _)|exact HI0.out)⟩,⟨by repeat (first|(with_reducible first|exact HK.out|apply KeepBut.set_|apply keep_drewN|apply keep_drew|apply keep_alloc|refine keep_far ?_ GW759.out _|refine keep_far ?_ GW766.out _)|exact HK.out)⟩,⟨by repeat (first|(with_reducible first|exact HB.out|apply below_alloc|apply pw_below_drewN|apply below_drew1|refine below_set ?_ (IsS110.ge HI0.out)|refine below_set ?_ GE759.out|refine below_set ?_ GE766.out)|exact HB.out)⟩⟩
    case rest =>
     clear HC14
     (try clear c1)
     (try clear p2)
     (try clear p6)
     (try clear c7)
     (try clear c8)
     (try clear c9)
     (try clear c10)
     (try clear c15)
     (try clear c15b0)
     (try clear hcz11_0)
     (try clear hcz11_1)
     (try clear hfz11_0)
     (try clear hfz11_1)
     (try clear p2)
     (try clear p6)
     obtain ⟨kq,HA,HJ13,HO_767000,HO_767001,BK759,BK766,HI0,HK,HB⟩:=hcut
     cases kq with
     | zero=>exact absurd HA.out (by simp [spec_l72Wal.j1])
     | succ kj13 =>
      have H:=HA.out;clear HA;simp only [spec_l72Wal.j1] at H;replace H:=Option.bind_eq_some_iff.mp H;obtain ⟨⟨t769,t772⟩,A160,H⟩:=H
      (try dsimp only at H)
      have A16:=Aside0.mk A160;clear A160;replace H:=Option.bind_eq_some_iff.mp H;obtain ⟨⟨t773,t776⟩,A170,H⟩:=H
      (try dsimp only at H)
      have A17:=Aside0.mk A170;clear A170;replace H:=Option.bind_eq_some_iff.mp H;obtain ⟨⟨t777,t780⟩,A180,H⟩:=H
      (try dsimp only at H)
      have A18:=Aside0.mk A180;clear A180;replace H:=Option.bind_eq_some_iff.mp H;obtain ⟨⟨t781,t784⟩,A190,H⟩:=H
      (try dsimp only at H)
      have A19:=Aside0.mk A190;clear A190;have H':=Aside0.mk H;clear H;have hnb20:=NB766_759.out;have hnc20:=NB759_766.out;have hnb21:=NB766_0.out;have hnc21:=NB0_766.out;obtain ⟨hcz22_0,hcz22_1,hfz22_0,hfz22_1⟩:=box2 BK766.out;obtain ⟨Ao23,co23,eo23⟩:=Kd.R_slice HO_767000.out;subst eo23;obtain ⟨Ao24,co24,eo24⟩:=Kd.R_slice HO_767001.out;subst eo24
      try go_wp2_with (first|((with_reducible refine gate_callee (f:=12) rfl ?_);refine goesL_ (some 24) rfl rfl Try.func12 (by kernel_rfl) rfl #[.agg #[.slice Ao23 x767000_1.length co23,.slice Ao24 x767001_1.length co24]] rfl bM ?_;(with_reducible refine (spec_WalRead.calls kj13 _ _ x767000_1 _ _ x767001_1 t769 t772 _ ?side1 ?side2 ?side3 ?side4 A16.out).mono ?_);(case side1=>exact pC (Kd.R_reads' HO_767000.out).2.2);(case side2=>exact (Kd.R_reads' HO_767000.out).2.1);(case side3=>exact pC (Kd.R_reads' HO_767001.out).2.2);(case side4=>exact (Kd.R_reads' HO_767001.out).2.1);rintro e w25 ⟨v770,rfl,ho0,hb⟩;refine ⟨_,rfl,?_⟩;have n0_:=Aside0.mk (Kd.R_elder' (pR HO_767000.out) (Kd.R_base ho0) hb);have n1_:=Aside0.mk (Kd.R_below (pR HO_767001.out) hb);have n2_:=Aside0.mk (Kd.R_lower (Kd.R_new' ho0 (Kd.R_lt (pR HO_767000.out))) (keep_size (w:=w) (g:=g) (row:=none) (by repeat (first|(with_reducible first|exact HK.out|apply KeepBut.set_|apply keep_drewN|apply keep_drew|apply keep_alloc|refine keep_far ?_ GW759.out _|refine keep_far ?_ GW766.out _)|exact HK.out))));have n3_:=Aside0.mk (blk_below (pK BK759.out) hb);have n4_:=Aside0.mk (blk_below (pK BK766.out) hb);have n5_:=Aside0.mk (IsS110.below (by repeat (first|(with_reducible first|exact HI0.out|apply IsS110.alloc|apply IsS110.drewN|apply IsS110.drew|apply IsS110.set_1|refine IsS110.far ?_ NB0_759.out _|refine IsS110.far ?_ NB0_766.out _)|exact HI0.out)) hb);have n6_:=Aside0.mk (KeepBut.trans (by repeat (first|(with_reducible first|exact HK.out|apply KeepBut.set_|apply keep_drewN|apply keep_drew|apply keep_alloc|refine keep_far ?_ GW759.out _|refine keep_far ?_ GW766.out _)|exact HK.out)) (KeepBut.of_below hb g none) (.inl rfl));have n7_:=Aside0.mk (below_step (by repeat (first|(with_reducible first|exact HB.out|apply below_alloc|apply pw_below_drewN|apply below_drew1|refine below_set ?_ (IsS110.ge HI0.out)|refine below_set ?_ GE759.out|refine below_set ?_ GE766.out)|exact HB.out)) hb);clear HO_767000;clear HO_767001;clear BK759;clear BK766;clear HI0;clear HK;clear HB;have HO_767000:=n0_;have HO_767001:=n1_;have HO771:=n2_;have BK759:=n3_;have BK766:=n4_;have HI0:=n5_;have HK:=n6_;have HB:=n7_;clear n0_ n1_ n2_ n3_ n4_ n5_ n6_ n7_;(try clear hb);(try clear hb2);(try clear hk);(try clear hi);(try clear ho0)))
      have n0_:=Aside0.mk (Kd.R_drew HO_767000.out);have n1_:=Aside0.mk (Kd.R_drew HO_767001.out);have n2_:=Aside0.mk (Kd.R_drew HO771.out);have n3_:=Aside0.mk (blk_drew BK759.out);have n4_:=Aside0.mk (blk_drew BK766.out);have n5_:=Aside0.mk (IsS110.drew HI0.out);have n6_:=Aside0.mk (keep_drew HK.out);have n7_:=Aside0.mk (below_drew1 HB.out);clear HO_767000;clear HO_767001;clear HO771;clear BK759;clear BK766;clear HI0;clear HK;clear HB;have HO_767000:=n0_;have HO_767001:=n1_;have HO771:=n2_;have BK759:=n3_;have BK766:=n4_;have HI0:=n5_;have HK:=n6_;have HB:=n7_;clear n0_ n1_ n2_ n3_ n4_ n5_ n6_ n7_;obtain ⟨Ao27,co27,eo27⟩:=Kd.R_slice HO771.out
      (first|subst eo27|(injection eo27 with f1_ f2_ f3_;have f4_:=f1_.symm;have f5_:=f3_.symm;clear f1_ f2_ f3_;subst f4_;subst f5_))
      refine start_ (n:=10) (S:=fun w'=>w'.cell? ⟨gb766,0,none⟩=some (.slice Ao23 x767000_1.length co23)∧w'.cell? ⟨gb766,1,none⟩=some (.slice Ao24 x767001_1.length co24)) (ds:=[]) #[false,false,false,false,false,false,false,false,false,false] (by kernel_rfl) rfl rfl ⟨(blk_cell BK766.out 0).trans rfl,(blk_cell BK766.out 1).trans rfl⟩ (fun hHeld=>?_);refine with_tabW spec_l72Wal.tab6 spec_l72Wal.bits6 (fun HT_ HW_=>?_)
      generalize w25.drew=w26 at HO_767000 HO_767001 HO771 BK759 BK766 HI0 HK HB hHeld ⊢
      refine pure_ (i:=1) (N:=some 29) (v:=?_) (a':=?_) #[false,true,false,false,false,false,false,false,false,false] rfl rfl (any_of HT_.out (by kernel_rfl)) (fun _ _ _ h=>h) (Or.inl ⟨by rfl,?_⟩) ?_ ?_
      rotate_left
      ·intro w';go_simp;with_reducible rfl
      rotate_left
      ·simp only [Act.put,List.setIfInBounds_toArray,List.set_cons_zero,List.set_cons_succ,i64_w,i32_w];rfl
      refine pure_ (i:=2) (N:=some 30) (v:=?_) (a':=?_) #[false,true,true,false,false,false,false,false,false,false] rfl rfl (any_of HT_.out (by kernel_rfl)) (fun _ _ _ h=>h) (Or.inl ⟨by rfl,?_⟩) ?_ ?_
      rotate_left
      ·intro w';go_simp;with_reducible rfl
      rotate_left
      ·simp only [Act.put,List.setIfInBounds_toArray,List.set_cons_zero,List.set_cons_succ,i64_w,i32_w];rfl
      refine take_ (i:=0) (N:=some 28) (v:=?_) (a':=?_) #[true,true,true,false,false,false,false,false,false,false] rfl rfl (take_ofW HT_.out HW_.out (by kernel_rfl)) (fun _ _ _ h=>h) (Or.inl ⟨by rfl,?_⟩) hHeld ?_ ?_
      rotate_left
      ·rintro w' ⟨s0,s1⟩;go_simp;with_reducible rfl
      rotate_left
      ·simp only [Act.put,List.setIfInBounds_toArray,List.set_cons_zero,List.set_cons_succ,i64_w,i32_w];rfl
      refine one_ (i:=3) (N:=some 31) #[true,true,true,true,false,false,false,false,false,false] rfl rfl (one_of HT_.out (by kernel_rfl)) (by decide) (fun K hK=>?_)
      refine goes_ Try.func74 (by kernel_rfl) rfl #[.pointer (some ⟨g,0,none⟩),.slice Ao27 t769.length co27] (by rfl) rfl rfl bM ?_
      with_reducible refine (spec_l72Homes.calls kj13 g s0_0 x1001_1 _ _ t769 t773 t776 w0 _ ?side1 ?side2 ?side3 ?side4 ?side5 A17.out).mono ?_
      (case side1=>repeat (first|(with_reducible first|exact HI0.out|apply IsS110.alloc|apply IsS110.drewN|apply IsS110.drew|apply IsS110.set_1|refine IsS110.far ?_ NB0_759.out _|refine IsS110.far ?_ NB0_766.out _)|exact HI0.out))
      (case side2=>repeat (first|(with_reducible first|exact HB.out|apply below_alloc|apply pw_below_drewN|apply below_drew1|refine below_set ?_ (IsS110.ge HI0.out)|refine below_set ?_ GE759.out|refine below_set ?_ GE766.out)|exact HB.out))
      (case side3=>exact pC (Kd.R_reads' HO771.out).2.2)
      (case side4=>exact (Kd.R_reads' HO771.out).2.1)
      (case side5=>exact far_slice (IsS110.own_ne HI0.out HO771.out (by decide)))
      rintro e w28 ⟨v774,rfl,ho0,hi,hb,hk⟩;refine ⟨_,rfl,?_⟩
      have n0_:=Aside0.mk (Kd.R_mono (Kd.R_told (Kd.R_oldK (IsS110.apart (show IsS110 w0 _ g s0_0 x1001_1 from by repeat (first|(with_reducible first|exact HI0.out|apply IsS110.alloc|apply IsS110.drewN|apply IsS110.drew|apply IsS110.set_1|refine IsS110.far ?_ NB0_759.out _|refine IsS110.far ?_ NB0_766.out _)|exact HI0.out)) (pR HO_767000.out) (by decide)) hk) (Kd.R_base ho0)) (fun _ h_=>h_.1))
      have n1_:=Aside0.mk (Kd.R_mono (Kd.R_keep (IsS110.apart (show IsS110 w0 _ g s0_0 x1001_1 from by repeat (first|(with_reducible first|exact HI0.out|apply IsS110.alloc|apply IsS110.drewN|apply IsS110.drew|apply IsS110.set_1|refine IsS110.far ?_ NB0_759.out _|refine IsS110.far ?_ NB0_766.out _)|exact HI0.out)) (pR HO_767001.out) (by decide)) hk (fun _ h=>h.2)) (fun _ h=>h.1))
      have n2_:=Aside0.mk (KeepBut.blk hk (g':=gb759) (o:=.cells #[.slice none 0 0,.slice none 0 0] 31 (0,0)) (pK BK759.out) NB759_0.out (by simp))
      have n3_:=Aside0.mk (KeepBut.blk hk (g':=gb766) (o:=.cells #[.slice Ao23 x767000_1.length co23,.slice Ao24 x767001_1.length co24] 31 (0,0)) (pK BK766.out) NB766_0.out (by simp))
      have n4_:=Aside0.mk (Kd.R_mono (Kd.R_told (Kd.R_oldK (IsS110.apart (show IsS110 w0 _ g s0_0 x1001_1 from by repeat (first|(with_reducible first|exact HI0.out|apply IsS110.alloc|apply IsS110.drewN|apply IsS110.drew|apply IsS110.set_1|refine IsS110.far ?_ NB0_759.out _|refine IsS110.far ?_ NB0_766.out _)|exact HI0.out)) (pR HO771.out) (by decide)) hk) (Kd.R_base ho0)) (fun _ h_=>h_.1))
      have n5_:=Aside0.mk (Kd.R_lower (Kd.R_new' (Kd.R_new' ho0 (Kd.R_lt (pR HO_767000.out))) (Kd.R_lt (pR HO771.out))) (keep_size (w:=w) (g:=g) (row:=none) (by repeat (first|(with_reducible first|exact HK.out|apply KeepBut.set_|apply keep_drewN|apply keep_drew|apply keep_alloc|refine keep_far ?_ GW759.out _|refine keep_far ?_ GW766.out _)|exact HK.out))))
      have n6_:=Aside0.mk (KeepBut.trans (by repeat (first|(with_reducible first|exact HK.out|apply KeepBut.set_|apply keep_drewN|apply keep_drew|apply keep_alloc|refine keep_far ?_ GW759.out _|refine keep_far ?_ GW766.out _)|exact HK.out)) hk (.inl rfl))
      have n7_:=Aside0.mk (hb);have n8_:=Aside0.mk (hi);clear HO_767000;clear HO_767001;clear BK759;clear BK766;clear HO771;clear HK;clear HB;clear HI0;have HO_767000:=n0_;have HO_767001:=n1_;have BK759:=n2_;have BK766:=n3_;have HO771:=n4_;have HO775:=n5_;have HK:=n6_;have HB:=n7_;have HI0:=n8_;clear n0_ n1_ n2_ n3_ n4_ n5_ n6_ n7_ n8_
      (try clear hb)
      (try clear hb2)
      (try clear hk)
      (try clear hi)
      (try clear ho0)
      obtain ⟨Ao29,co29,eo29⟩:=Kd.R_slice HO775.out
      (first|subst eo29|(injection eo29 with f1_ f2_ f3_;have f4_:=f1_.symm;have f5_:=f3_.symm;clear f1_ f2_ f3_;subst f4_;subst f5_))
      refine hK.out _ _ ⟨(blk_cell BK766.out 0).trans rfl,(blk_cell BK766.out 1).trans rfl⟩ (fun hHeld=>?_);clear hK K;refine norm_ (a':=?_) ?_ ?_;rotate_left
      ·show Act.put _ (some 31) _=_
       simp only [Act.put,List.setIfInBounds_toArray,List.set_cons_zero,List.set_cons_succ,i64_w,i32_w];rfl
      refine one_ (i:=4) (N:=some 32) #[true,true,true,true,true,false,false,false,false,false] rfl rfl (one_of HT_.out (by kernel_rfl)) (by decide) (fun K hK=>?_)
      refine goes_ Try.func26 (by kernel_rfl) rfl #[.agg #[.slice Ao23 x767000_1.length co23,.slice Ao24 x767001_1.length co24],.slice Ao29 t773.length co29] (by rfl) rfl rfl bM ?_
      with_reducible refine (spec_WalSteps.calls kj13 _ _ x767000_1 _ _ x767001_1 _ _ t773 t777 t780 _ ?side1 ?side2 ?side3 ?side4 ?side5 ?side6 A18.out).mono ?_
      (case side1=>exact pC (Kd.R_reads' HO_767000.out).2.2)
      (case side2=>exact (Kd.R_reads' HO_767000.out).2.1)
      (case side3=>exact pC (Kd.R_reads' HO_767001.out).2.2)
      (case side4=>exact (Kd.R_reads' HO_767001.out).2.1)
      (case side5=>exact pC (Kd.R_reads' HO775.out).2.2)
      (case side6=>exact (Kd.R_reads' HO775.out).2.1)
      rintro e w30 ⟨v778,rfl,ho0,hb⟩;refine ⟨_,rfl,?_⟩;have n0_:=Aside0.mk (Kd.R_below (pR HO_767000.out) hb);have n1_:=Aside0.mk (Kd.R_below (pR HO_767001.out) hb);have n2_:=Aside0.mk (Kd.R_below (pR HO771.out) hb);have n3_:=Aside0.mk (Kd.R_below (pR HO775.out) hb)
      have n4_:=Aside0.mk (Kd.R_lower ho0 (keep_size (w:=w) (g:=g) (row:=none) (by repeat (first|(with_reducible first|exact HK.out|apply KeepBut.set_|apply keep_drewN|apply keep_drew|apply keep_alloc|refine keep_far ?_ GW759.out _|refine keep_far ?_ GW766.out _)|exact HK.out))))
      have n5_:=Aside0.mk (blk_below (pK BK759.out) hb);have n6_:=Aside0.mk (blk_below (pK BK766.out) hb)
      have n7_:=Aside0.mk (IsS110.below (by repeat (first|(with_reducible first|exact HI0.out|apply IsS110.alloc|apply IsS110.drewN|apply IsS110.drew|apply IsS110.set_1|refine IsS110.far ?_ NB0_759.out _|refine IsS110.far ?_ NB0_766.out _)|exact HI0.out)) hb)
      have n8_:=Aside0.mk (KeepBut.trans (by repeat (first|(with_reducible first|exact HK.out|apply KeepBut.set_|apply keep_drewN|apply keep_drew|apply keep_alloc|refine keep_far ?_ GW759.out _|refine keep_far ?_ GW766.out _)|exact HK.out)) (KeepBut.of_below hb g none) (.inl rfl))
      have n9_:=Aside0.mk (below_step (by repeat (first|(with_reducible first|exact HB.out|apply below_alloc|apply pw_below_drewN|apply below_drew1|refine below_set ?_ (IsS110.ge HI0.out)|refine below_set ?_ GE759.out|refine below_set ?_ GE766.out)|exact HB.out)) hb)
      clear HO_767000;clear HO_767001;clear HO771;clear HO775;clear BK759;clear BK766;clear HI0;clear HK;clear HB;have HO_767000:=n0_;have HO_767001:=n1_;have HO771:=n2_;have HO775:=n3_;have HO779:=n4_;have BK759:=n5_;have BK766:=n6_;have HI0:=n7_;have HK:=n8_;have HB:=n9_;clear n0_ n1_ n2_ n3_ n4_ n5_ n6_ n7_ n8_ n9_
      (try clear hb)
      (try clear hb2)
      (try clear hk)
      (try clear hi)
      (try clear ho0)
      refine hK.out _ _ ⟨(blk_cell BK766.out 0).trans rfl,(blk_cell BK766.out 1).trans rfl⟩ (fun hHeld=>?_);clear hK K;refine norm_ (a':=?_) ?_ ?_;rotate_left
      ·show Act.put _ (some 32) _=_
       simp only [Act.put,List.setIfInBounds_toArray,List.set_cons_zero,List.set_cons_succ,i64_w,i32_w];rfl
      refine pure_ (i:=5) (N:=some 27) (v:=?_) (a':=?_) #[true,true,true,true,true,true,false,false,false,false] rfl rfl (any_of HT_.out (by kernel_rfl)) (fun _ _ _ h=>h) (Or.inl ⟨by rfl,?_⟩) ?_ ?_
      rotate_left
      ·intro w';go_simp;with_reducible rfl
      rotate_left
      ·simp only [Act.put,List.setIfInBounds_toArray,List.set_cons_zero,List.set_cons_succ,i64_w,i32_w];rfl
      refine pure_ (i:=6) (N:=some 33) (v:=?_) (a':=?_) #[true,true,true,true,true,true,true,false,false,false] rfl rfl (any_of HT_.out (by kernel_rfl)) (fun _ _ _ h=>h) (Or.inl ⟨by rfl,?_⟩) ?_ ?_
      rotate_left
      ·intro w';go_simp;with_reducible rfl
      rotate_left
      ·simp only [Act.put,List.setIfInBounds_toArray,List.set_cons_zero,List.set_cons_succ,i64_w,i32_w];rfl
      refine pure_ (i:=7) (N:=some 34) (v:=?_) (a':=?_) #[true,true,true,true,true,true,true,true,false,false] rfl rfl (any_of HT_.out (by kernel_rfl)) (fun _ _ _ h=>h) (Or.inl ⟨by rfl,?_⟩) ?_ ?_
      rotate_left
      ·intro w';go_simp;with_reducible rfl
      rotate_left
      ·simp only [Act.put,List.setIfInBounds_toArray,List.set_cons_zero,List.set_cons_succ,i64_w,i32_w];rfl
      refine pure_ (i:=8) (N:=some 7) (v:=?_) (a':=?_) #[true,true,true,true,true,true,true,true,true,false] rfl rfl (any_of HT_.out (by kernel_rfl)) (fun _ _ _ h=>h) (Or.inl ⟨by rfl,?_⟩) ?_ ?_
      rotate_left
      ·intro w';go_simp;with_reducible rfl
      rotate_left
      ·simp only [Act.put,List.setIfInBounds_toArray,List.set_cons_zero,List.set_cons_succ,i64_w,i32_w];rfl
      refine pure_ (i:=9) (N:=some 8) (v:=?_) (a':=?_) #[true,true,true,true,true,true,true,true,true,true] rfl rfl (any_of HT_.out (by kernel_rfl)) (fun _ _ _ h=>h) (Or.inl ⟨by rfl,?_⟩) ?_ ?_
      rotate_left
      ·intro w';go_simp;with_reducible rfl
      rotate_left
      ·simp only [Act.put,List.setIfInBounds_toArray,List.set_cons_zero,List.set_cons_succ,i64_w,i32_w];rfl
      refine done_ (done_of HT_.out (by kernel_rfl)) ?_
      obtain ⟨hcz31_0,hcz31_1,hfz31_0,hfz31_1⟩:=box2 BK766.out;obtain ⟨Ao32,co32,eo32⟩:=Kd.R_slice HO779.out;subst eo32
      try go_wp2_with (first|((with_reducible refine gate_callee (f:=33) rfl ?_);refine goesL_ (some 37) rfl rfl Try.func33 (by kernel_rfl) rfl #[.agg #[.slice Ao23 x767000_1.length co23,.slice Ao24 x767001_1.length co24],.slice Ao32 t777.length co32,.bool false,.int .i64 0,.slice none 0 0] rfl bM ?_;(refine (spec_WalDo.calls kj13 _ _ x767000_1 _ _ x767001_1 _ _ t777 false 0 _ _ ([]:List Int) t781 t784 _ ?side1 ?side2 ?side3 ?side4 ?side5 ?side6 ?side7 ?side8 A19.out).mono ?_);(case side1=>exact pC (Kd.R_reads' HO_767000.out).2.2);(case side2=>exact (Kd.R_reads' HO_767000.out).2.1);(case side3=>exact pC (Kd.R_reads' HO_767001.out).2.2);(case side4=>exact (Kd.R_reads' HO_767001.out).2.1);(case side5=>exact pC (Kd.R_reads' HO779.out).2.2);(case side6=>exact (Kd.R_reads' HO779.out).2.1);(case side7=>exact Kd.C_nil _ _);(case side8=>exact Nat.le_refl _);rintro e w33 ⟨v782,v785,rfl,ho0,ho1,hb⟩;refine ⟨_,rfl,?_⟩;have n0_:=Aside0.mk (Kd.R_elder' (pR HO_767000.out) (Kd.R_base ho0) hb);have n1_:=Aside0.mk (Kd.R_elder' (pR HO_767001.out) (Kd.R_base ho1) hb);have n2_:=Aside0.mk (Kd.R_elder' (pR HO771.out) (Kd.R_base ho0) hb);have n3_:=Aside0.mk (Kd.R_elder' (pR HO775.out) (Kd.R_base ho0) hb);have n4_:=Aside0.mk (Kd.R_below (pR HO779.out) hb);have n5_:=Aside0.mk (Kd.R_lower (Kd.R_new' (Kd.R_new' (Kd.R_new' ho0 (Kd.R_lt (pR HO_767000.out))) (Kd.R_lt (pR HO771.out))) (Kd.R_lt (pR HO775.out))) (keep_size (w:=w) (g:=g) (row:=none) (by repeat (first|(with_reducible first|exact HK.out|apply KeepBut.set_|apply keep_drewN|apply keep_drew|apply keep_alloc|refine keep_far ?_ GW759.out _|refine keep_far ?_ GW766.out _)|exact HK.out))));have n6_:=Aside0.mk (Kd.R_lower (Kd.R_new' ho1 (Kd.R_lt (pR HO_767001.out))) (keep_size (w:=w) (g:=g) (row:=none) (by repeat (first|(with_reducible first|exact HK.out|apply KeepBut.set_|apply keep_drewN|apply keep_drew|apply keep_alloc|refine keep_far ?_ GW759.out _|refine keep_far ?_ GW766.out _)|exact HK.out))));have n7_:=Aside0.mk (blk_below (pK BK759.out) hb);have n8_:=Aside0.mk (blk_below (pK BK766.out) hb);have n9_:=Aside0.mk (IsS110.below (by repeat (first|(with_reducible first|exact HI0.out|apply IsS110.alloc|apply IsS110.drewN|apply IsS110.drew|apply IsS110.set_1|refine IsS110.far ?_ NB0_759.out _|refine IsS110.far ?_ NB0_766.out _)|exact HI0.out)) hb);have n10_:=Aside0.mk (KeepBut.trans (by repeat (first|(with_reducible first|exact HK.out|apply KeepBut.set_|apply keep_drewN|apply keep_drew|apply keep_alloc|refine keep_far ?_ GW759.out _|refine keep_far ?_ GW766.out _)|exact HK.out)) (KeepBut.of_below hb g none) (.inl rfl));have n11_:=Aside0.mk (below_step (by repeat (first|(with_reducible first|exact HB.out|apply below_alloc|apply pw_below_drewN|apply below_drew1|refine below_set ?_ (IsS110.ge HI0.out)|refine below_set ?_ GE759.out|refine below_set ?_ GE766.out)|exact HB.out)) hb);clear HO_767000;clear HO_767001;clear HO771;clear HO775;clear HO779;clear BK759;clear BK766;clear HI0;clear HK;clear HB;have HO_767000:=n0_;have HO_767001:=n1_;have HO771:=n2_;have HO775:=n3_;have HO779:=n4_;have HO783:=n5_;have HO786:=n6_;have BK759:=n7_;have BK766:=n8_;have HI0:=n9_;have HK:=n10_;have HB:=n11_;clear n0_ n1_ n2_ n3_ n4_ n5_ n6_ n7_ n8_ n9_ n10_ n11_;(try clear hb);(try clear hb2);(try clear hk);(try clear hi);(try clear ho0);(try clear ho1);obtain ⟨Ao34,co34,eo34⟩:=Kd.R_slice HO783.out;subst eo34;obtain ⟨hcz35_0,hcz35_1,hfz35_0,hfz35_1⟩:=box2 BK766.out;obtain ⟨Ao36,co36,eo36⟩:=Kd.R_slice HO786.out;subst eo36))
      go_roundg kj13
      case measure=>have:=HK1.out;have:=HJ13.out;omega
      case rel=>exact ⟨(wrap64 (x4_1 - 1)),(t776),(t781),(t784),(.slice Ao34 t781.length co34),(.slice Ao36 t784.length co36),(by first|rfl|(simp;done)|(simp [*];done)),H',⟨by have:=HK1.out;have:=HJ13.out;omega⟩,⟨pR (Kd.R_mono (Kd.R_far (p:=⟨gb766,1,none⟩) (Kd.R_far (p:=⟨gb766,0,none⟩) (Kd.R_types HO783.out BK766.out (by decide)) (fun _ hk=>hk.2) (.slice Ao34 t781.length co34)) (fun _ hk=>hk.2) (.slice Ao36 t784.length co36)) (fun _ hk=>trivial))⟩,⟨pR (Kd.R_mono (Kd.R_far (p:=⟨gb766,1,none⟩) (Kd.R_far (p:=⟨gb766,0,none⟩) (Kd.R_types HO786.out BK766.out (by decide)) (fun _ hk=>hk.2) (.slice Ao34 t781.length co34)) (fun _ hk=>hk.2) (.slice Ao36 t784.length co36)) (fun _ hk=>trivial))⟩,⟨pF BK759.out⟩,⟨by (with_reducible repeat (first|refine blk_drewN ?_ _|refine blk_drew ?_|refine blk_alloc ?_ _));refine blk_put (cs:=#[.slice Ao34 t781.length co34,.slice Ao24 x767001_1.length co24]) ?_ 1 _ rfl;(with_reducible repeat (first|refine blk_drewN ?_ _|refine blk_drew ?_|refine blk_alloc ?_ _));refine blk_put (cs:=#[.slice Ao23 x767000_1.length co23,.slice Ao24 x767001_1.length co24]) ?_ 0 _ rfl;(with_reducible repeat (first|refine blk_drewN ?_ _|refine blk_drew ?_|refine blk_alloc ?_ _));exact BK766.out⟩,⟨by repeat (first|(with_reducible first|exact HI0.out|apply IsS110.alloc|apply IsS110.drewN|apply IsS110.drew|apply IsS110.set_1|refine IsS110.far ?_ NB0_759.out _|refine IsS110.far ?_ NB0_766.out _)|exact HI0.out)⟩,⟨by repeat (first|(with_reducible first|exact HK.out|apply KeepBut.set_|apply keep_drewN|apply keep_drew|apply keep_alloc|refine keep_far ?_ GW759.out _|refine keep_far ?_ GW766.out _)|exact HK.out)⟩,⟨by repeat (first|(with_reducible first|exact HB.out|apply below_alloc|apply pw_below_drewN|apply below_drew1|refine below_set ?_ (IsS110.ge HI0.out)|refine below_set ?_ GE759.out|refine below_set ?_ GE766.out)|exact HB.out)⟩⟩
 case rest =>
  clear HC4
  (try clear c1)
  (try clear c2)
  (try clear p2)
  (try clear c3)
  (try clear p6)
  (try clear c7)
  (try clear c8)
  (try clear c9)
  (try clear c10)
  (try clear c12)
  (try clear c15)
  (try clear c15b0)
  (try clear c20)
  (try clear c21)
  (try clear c26)
  (try clear c33)
  (try clear hcz11_0)
  (try clear hcz11_1)
  (try clear hcz22_0)
  (try clear hcz22_1)
  (try clear hcz31_0)
  (try clear hcz31_1)
  (try clear hcz35_0)
  (try clear hcz35_1)
  (try clear hfz11_0)
  (try clear hfz11_1)
  (try clear hfz22_0)
  (try clear hfz22_1)
  (try clear hfz31_0)
  (try clear hfz31_1)
  (try clear hfz35_0)
  (try clear hfz35_1)
  (try clear p2)
  (try clear p6)
  obtain ⟨kq,x1001_3,x767000_3,x767001_3,u767000,u767001,HA,HJ3,HO_767000,HO_767001,BK759,BK766,HI0,HK,HB⟩:=hcut
  cases kq with
  | zero=>exact absurd HA.out (by simp [spec_l72Wal.j2])
  | succ kj3 =>
   have H:=HA.out;clear HA;simp only [spec_l72Wal.j2] at H;replace H:=Option.bind_eq_some_iff.mp H;obtain ⟨⟨t787,t790⟩,A370,H⟩:=H
   (try dsimp only at H)
   have A37:=Aside0.mk A370;clear A370;replace H:=Option.bind_eq_some_iff.mp H;obtain ⟨⟨t791,t794⟩,A380,H⟩:=H
   (try dsimp only at H)
   have A38:=Aside0.mk A380;clear A380;replace H:=Option.bind_eq_some_iff.mp H;obtain ⟨⟨t795,t798⟩,A390,H⟩:=H
   (try dsimp only at H)
   have A39:=Aside0.mk A390;clear A390;replace H:=Option.bind_eq_some_iff.mp H;obtain ⟨⟨t799,t800⟩,A400,H⟩:=H
   (try dsimp only at H)
   have A40:=Aside0.mk A400;clear A400;have HC41:=Aside0.mk H;clear H;have hnb42:=NB766_759.out;have hnc42:=NB759_766.out;have hnb43:=NB766_0.out;have hnc43:=NB0_766.out;obtain ⟨hcz44_0,hcz44_1,hfz44_0,hfz44_1⟩:=box2 BK766.out;obtain ⟨Ao45,co45,eo45⟩:=Kd.R_slice HO_767000.out;subst eo45;obtain ⟨Ao46,co46,eo46⟩:=Kd.R_slice HO_767001.out;subst eo46
   try go_wp2_with (first|((with_reducible refine gate_callee (f:=12) rfl ?_);refine goesL_ (some 40) rfl rfl Try.func12 (by kernel_rfl) rfl #[.agg #[.slice Ao45 x767000_3.length co45,.slice Ao46 x767001_3.length co46]] rfl bM ?_;(with_reducible refine (spec_WalRead.calls kj3 _ _ x767000_3 _ _ x767001_3 t787 t790 _ ?side1 ?side2 ?side3 ?side4 A37.out).mono ?_);(case side1=>exact pC (Kd.R_reads' HO_767000.out).2.2);(case side2=>exact (Kd.R_reads' HO_767000.out).2.1);(case side3=>exact pC (Kd.R_reads' HO_767001.out).2.2);(case side4=>exact (Kd.R_reads' HO_767001.out).2.1);rintro e w47 ⟨v788,rfl,ho0,hb⟩;refine ⟨_,rfl,?_⟩;have n0_:=Aside0.mk (Kd.R_elder' (pR HO_767000.out) (Kd.R_base ho0) hb);have n1_:=Aside0.mk (Kd.R_below (pR HO_767001.out) hb);have n2_:=Aside0.mk (Kd.R_lower (Kd.R_new' ho0 (Kd.R_lt (pR HO_767000.out))) (keep_size (w:=w) (g:=g) (row:=none) (by repeat (first|(with_reducible first|exact HK.out|apply KeepBut.set_|apply keep_drewN|apply keep_drew|apply keep_alloc|refine keep_far ?_ GW759.out _|refine keep_far ?_ GW766.out _)|exact HK.out))));have n3_:=Aside0.mk (blk_below (pK BK759.out) hb);have n4_:=Aside0.mk (blk_below (pK BK766.out) hb);have n5_:=Aside0.mk (IsS110.below (by repeat (first|(with_reducible first|exact HI0.out|apply IsS110.alloc|apply IsS110.drewN|apply IsS110.drew|apply IsS110.set_1|refine IsS110.far ?_ NB0_759.out _|refine IsS110.far ?_ NB0_766.out _)|exact HI0.out)) hb);have n6_:=Aside0.mk (KeepBut.trans (by repeat (first|(with_reducible first|exact HK.out|apply KeepBut.set_|apply keep_drewN|apply keep_drew|apply keep_alloc|refine keep_far ?_ GW759.out _|refine keep_far ?_ GW766.out _)|exact HK.out)) (KeepBut.of_below hb g none) (.inl rfl));have n7_:=Aside0.mk (below_step (by repeat (first|(with_reducible first|exact HB.out|apply below_alloc|apply pw_below_drewN|apply below_drew1|refine below_set ?_ (IsS110.ge HI0.out)|refine below_set ?_ GE759.out|refine below_set ?_ GE766.out)|exact HB.out)) hb);clear HO_767000;clear HO_767001;clear BK759;clear BK766;clear HI0;clear HK;clear HB;have HO_767000:=n0_;have HO_767001:=n1_;have HO789:=n2_;have BK759:=n3_;have BK766:=n4_;have HI0:=n5_;have HK:=n6_;have HB:=n7_;clear n0_ n1_ n2_ n3_ n4_ n5_ n6_ n7_;(try clear hb);(try clear hb2);(try clear hk);(try clear hi);(try clear ho0)))
   have n0_:=Aside0.mk (Kd.R_drew HO_767000.out);have n1_:=Aside0.mk (Kd.R_drew HO_767001.out);have n2_:=Aside0.mk (Kd.R_drew HO789.out);have n3_:=Aside0.mk (blk_drew BK759.out);have n4_:=Aside0.mk (blk_drew BK766.out);have n5_:=Aside0.mk (IsS110.drew HI0.out);have n6_:=Aside0.mk (keep_drew HK.out);have n7_:=Aside0.mk (below_drew1 HB.out);clear HO_767000;clear HO_767001;clear HO789;clear BK759;clear BK766;clear HI0;clear HK;clear HB;have HO_767000:=n0_;have HO_767001:=n1_;have HO789:=n2_;have BK759:=n3_;have BK766:=n4_;have HI0:=n5_;have HK:=n6_;have HB:=n7_;clear n0_ n1_ n2_ n3_ n4_ n5_ n6_ n7_;obtain ⟨Ao49,co49,eo49⟩:=Kd.R_slice HO789.out
   (first|subst eo49|(injection eo49 with f1_ f2_ f3_;have f4_:=f1_.symm;have f5_:=f3_.symm;clear f1_ f2_ f3_;subst f4_;subst f5_))
   refine start_ (n:=10) (S:=fun w'=>w'.cell? ⟨gb766,0,none⟩=some (.slice Ao45 x767000_3.length co45)∧w'.cell? ⟨gb766,1,none⟩=some (.slice Ao46 x767001_3.length co46)) (ds:=[]) #[false,false,false,false,false,false,false,false,false,false] (by kernel_rfl) rfl rfl ⟨(blk_cell BK766.out 0).trans rfl,(blk_cell BK766.out 1).trans rfl⟩ (fun hHeld=>?_);refine with_tabW spec_l72Wal.tab9 spec_l72Wal.bits9 (fun HT_ HW_=>?_)
   generalize w47.drew=w48 at HO_767000 HO_767001 HO789 BK759 BK766 HI0 HK HB hHeld ⊢
   refine pure_ (i:=1) (N:=some 45) (v:=?_) (a':=?_) #[false,true,false,false,false,false,false,false,false,false] rfl rfl (any_of HT_.out (by kernel_rfl)) (fun _ _ _ h=>h) (Or.inl ⟨by rfl,?_⟩) ?_ ?_
   rotate_left
   ·intro w';go_simp;with_reducible rfl
   rotate_left
   ·simp only [Act.put,List.setIfInBounds_toArray,List.set_cons_zero,List.set_cons_succ,i64_w,i32_w];rfl
   refine pure_ (i:=2) (N:=some 46) (v:=?_) (a':=?_) #[false,true,true,false,false,false,false,false,false,false] rfl rfl (any_of HT_.out (by kernel_rfl)) (fun _ _ _ h=>h) (Or.inl ⟨by rfl,?_⟩) ?_ ?_
   rotate_left
   ·intro w';go_simp;with_reducible rfl
   rotate_left
   ·simp only [Act.put,List.setIfInBounds_toArray,List.set_cons_zero,List.set_cons_succ,i64_w,i32_w];rfl
   refine take_ (i:=0) (N:=some 44) (v:=?_) (a':=?_) #[true,true,true,false,false,false,false,false,false,false] rfl rfl (take_ofW HT_.out HW_.out (by kernel_rfl)) (fun _ _ _ h=>h) (Or.inl ⟨by rfl,?_⟩) hHeld ?_ ?_
   rotate_left
   ·rintro w' ⟨s0,s1⟩;go_simp;with_reducible rfl
   rotate_left
   ·simp only [Act.put,List.setIfInBounds_toArray,List.set_cons_zero,List.set_cons_succ,i64_w,i32_w];rfl
   refine one_ (i:=3) (N:=some 47) #[true,true,true,true,false,false,false,false,false,false] rfl rfl (one_of HT_.out (by kernel_rfl)) (by decide) (fun K hK=>?_)
   refine goes_ Try.func74 (by kernel_rfl) rfl #[.pointer (some ⟨g,0,none⟩),.slice Ao49 t787.length co49] (by rfl) rfl rfl bM ?_
   with_reducible refine (spec_l72Homes.calls kj3 g s0_0 x1001_3 _ _ t787 t791 t794 w0 _ ?side1 ?side2 ?side3 ?side4 ?side5 A38.out).mono ?_
   (case side1=>repeat (first|(with_reducible first|exact HI0.out|apply IsS110.alloc|apply IsS110.drewN|apply IsS110.drew|apply IsS110.set_1|refine IsS110.far ?_ NB0_759.out _|refine IsS110.far ?_ NB0_766.out _)|exact HI0.out))
   (case side2=>repeat (first|(with_reducible first|exact HB.out|apply below_alloc|apply pw_below_drewN|apply below_drew1|refine below_set ?_ (IsS110.ge HI0.out)|refine below_set ?_ GE759.out|refine below_set ?_ GE766.out)|exact HB.out))
   (case side3=>exact pC (Kd.R_reads' HO789.out).2.2)
   (case side4=>exact (Kd.R_reads' HO789.out).2.1)
   (case side5=>exact far_slice (IsS110.own_ne HI0.out HO789.out (by decide)))
   rintro e w50 ⟨v792,rfl,ho0,hi,hb,hk⟩;refine ⟨_,rfl,?_⟩
   have n0_:=Aside0.mk (Kd.R_mono (Kd.R_told (Kd.R_oldK (IsS110.apart (show IsS110 w0 _ g s0_0 x1001_3 from by repeat (first|(with_reducible first|exact HI0.out|apply IsS110.alloc|apply IsS110.drewN|apply IsS110.drew|apply IsS110.set_1|refine IsS110.far ?_ NB0_759.out _|refine IsS110.far ?_ NB0_766.out _)|exact HI0.out)) (pR HO_767000.out) (by decide)) hk) (Kd.R_base ho0)) (fun _ h_=>h_.1))
   have n1_:=Aside0.mk (Kd.R_mono (Kd.R_keep (IsS110.apart (show IsS110 w0 _ g s0_0 x1001_3 from by repeat (first|(with_reducible first|exact HI0.out|apply IsS110.alloc|apply IsS110.drewN|apply IsS110.drew|apply IsS110.set_1|refine IsS110.far ?_ NB0_759.out _|refine IsS110.far ?_ NB0_766.out _)|exact HI0.out)) (pR HO_767001.out) (by decide)) hk (fun _ h=>h.2)) (fun _ h=>h.1))
   have n2_:=Aside0.mk (KeepBut.blk hk (g':=gb759) (o:=.cells #[.slice none 0 0,.slice none 0 0] 31 (0,0)) (pK BK759.out) NB759_0.out (by simp))
   have n3_:=Aside0.mk (KeepBut.blk hk (g':=gb766) (o:=.cells #[.slice Ao45 x767000_3.length co45,.slice Ao46 x767001_3.length co46] 31 (0,0)) (pK BK766.out) NB766_0.out (by simp))
   have n4_:=Aside0.mk (Kd.R_mono (Kd.R_told (Kd.R_oldK (IsS110.apart (show IsS110 w0 _ g s0_0 x1001_3 from by repeat (first|(with_reducible first|exact HI0.out|apply IsS110.alloc|apply IsS110.drewN|apply IsS110.drew|apply IsS110.set_1|refine IsS110.far ?_ NB0_759.out _|refine IsS110.far ?_ NB0_766.out _)|exact HI0.out)) (pR HO789.out) (by decide)) hk) (Kd.R_base ho0)) (fun _ h_=>h_.1))
   have n5_:=Aside0.mk (Kd.R_lower (Kd.R_new' (Kd.R_new' ho0 (Kd.R_lt (pR HO_767000.out))) (Kd.R_lt (pR HO789.out))) (keep_size (w:=w) (g:=g) (row:=none) (by repeat (first|(with_reducible first|exact HK.out|apply KeepBut.set_|apply keep_drewN|apply keep_drew|apply keep_alloc|refine keep_far ?_ GW759.out _|refine keep_far ?_ GW766.out _)|exact HK.out))))
   have n6_:=Aside0.mk (KeepBut.trans (by repeat (first|(with_reducible first|exact HK.out|apply KeepBut.set_|apply keep_drewN|apply keep_drew|apply keep_alloc|refine keep_far ?_ GW759.out _|refine keep_far ?_ GW766.out _)|exact HK.out)) hk (.inl rfl))
   have n7_:=Aside0.mk (hb);have n8_:=Aside0.mk (hi);clear HO_767000;clear HO_767001;clear BK759;clear BK766;clear HO789;clear HK;clear HB;clear HI0;have HO_767000:=n0_;have HO_767001:=n1_;have BK759:=n2_;have BK766:=n3_;have HO789:=n4_;have HO793:=n5_;have HK:=n6_;have HB:=n7_;have HI0:=n8_;clear n0_ n1_ n2_ n3_ n4_ n5_ n6_ n7_ n8_
   (try clear hb)
   (try clear hb2)
   (try clear hk)
   (try clear hi)
   (try clear ho0)
   obtain ⟨Ao51,co51,eo51⟩:=Kd.R_slice HO793.out
   (first|subst eo51|(injection eo51 with f1_ f2_ f3_;have f4_:=f1_.symm;have f5_:=f3_.symm;clear f1_ f2_ f3_;subst f4_;subst f5_))
   refine hK.out _ _ ⟨(blk_cell BK766.out 0).trans rfl,(blk_cell BK766.out 1).trans rfl⟩ (fun hHeld=>?_);clear hK K;refine norm_ (a':=?_) ?_ ?_;rotate_left
   ·show Act.put _ (some 47) _=_
    simp only [Act.put,List.setIfInBounds_toArray,List.set_cons_zero,List.set_cons_succ,i64_w,i32_w];rfl
   refine one_ (i:=4) (N:=some 48) #[true,true,true,true,true,false,false,false,false,false] rfl rfl (one_of HT_.out (by kernel_rfl)) (by decide) (fun K hK=>?_)
   refine goes_ Try.func26 (by kernel_rfl) rfl #[.agg #[.slice Ao45 x767000_3.length co45,.slice Ao46 x767001_3.length co46],.slice Ao51 t791.length co51] (by rfl) rfl rfl bM ?_
   with_reducible refine (spec_WalSteps.calls kj3 _ _ x767000_3 _ _ x767001_3 _ _ t791 t795 t798 _ ?side1 ?side2 ?side3 ?side4 ?side5 ?side6 A39.out).mono ?_
   (case side1=>exact pC (Kd.R_reads' HO_767000.out).2.2)
   (case side2=>exact (Kd.R_reads' HO_767000.out).2.1)
   (case side3=>exact pC (Kd.R_reads' HO_767001.out).2.2)
   (case side4=>exact (Kd.R_reads' HO_767001.out).2.1)
   (case side5=>exact pC (Kd.R_reads' HO793.out).2.2)
   (case side6=>exact (Kd.R_reads' HO793.out).2.1)
   rintro e w52 ⟨v796,rfl,ho0,hb⟩;refine ⟨_,rfl,?_⟩;have n0_:=Aside0.mk (Kd.R_below (pR HO_767000.out) hb);have n1_:=Aside0.mk (Kd.R_below (pR HO_767001.out) hb);have n2_:=Aside0.mk (Kd.R_below (pR HO789.out) hb);have n3_:=Aside0.mk (Kd.R_below (pR HO793.out) hb)
   have n4_:=Aside0.mk (Kd.R_lower ho0 (keep_size (w:=w) (g:=g) (row:=none) (by repeat (first|(with_reducible first|exact HK.out|apply KeepBut.set_|apply keep_drewN|apply keep_drew|apply keep_alloc|refine keep_far ?_ GW759.out _|refine keep_far ?_ GW766.out _)|exact HK.out))))
   have n5_:=Aside0.mk (blk_below (pK BK759.out) hb);have n6_:=Aside0.mk (blk_below (pK BK766.out) hb)
   have n7_:=Aside0.mk (IsS110.below (by repeat (first|(with_reducible first|exact HI0.out|apply IsS110.alloc|apply IsS110.drewN|apply IsS110.drew|apply IsS110.set_1|refine IsS110.far ?_ NB0_759.out _|refine IsS110.far ?_ NB0_766.out _)|exact HI0.out)) hb)
   have n8_:=Aside0.mk (KeepBut.trans (by repeat (first|(with_reducible first|exact HK.out|apply KeepBut.set_|apply keep_drewN|apply keep_drew|apply keep_alloc|refine keep_far ?_ GW759.out _|refine keep_far ?_ GW766.out _)|exact HK.out)) (KeepBut.of_below hb g none) (.inl rfl))
   have n9_:=Aside0.mk (below_step (by repeat (first|(with_reducible first|exact HB.out|apply below_alloc|apply pw_below_drewN|apply below_drew1|refine below_set ?_ (IsS110.ge HI0.out)|refine below_set ?_ GE759.out|refine below_set ?_ GE766.out)|exact HB.out)) hb)
   clear HO_767000;clear HO_767001;clear HO789;clear HO793;clear BK759;clear BK766;clear HI0;clear HK;clear HB;have HO_767000:=n0_;have HO_767001:=n1_;have HO789:=n2_;have HO793:=n3_;have HO797:=n4_;have BK759:=n5_;have BK766:=n6_;have HI0:=n7_;have HK:=n8_;have HB:=n9_;clear n0_ n1_ n2_ n3_ n4_ n5_ n6_ n7_ n8_ n9_
   (try clear hb)
   (try clear hb2)
   (try clear hk)
   (try clear hi)
   (try clear ho0)
   refine hK.out _ _ ⟨(blk_cell BK766.out 0).trans rfl,(blk_cell BK766.out 1).trans rfl⟩ (fun hHeld=>?_);clear hK K;refine norm_ (a':=?_) ?_ ?_;rotate_left
   ·show Act.put _ (some 48) _=_
    simp only [Act.put,List.setIfInBounds_toArray,List.set_cons_zero,List.set_cons_succ,i64_w,i32_w];rfl
   refine pure_ (i:=5) (N:=some 43) (v:=?_) (a':=?_) #[true,true,true,true,true,true,false,false,false,false] rfl rfl (any_of HT_.out (by kernel_rfl)) (fun _ _ _ h=>h) (Or.inl ⟨by rfl,?_⟩) ?_ ?_
   rotate_left
   ·intro w';go_simp;with_reducible rfl
   rotate_left
   ·simp only [Act.put,List.setIfInBounds_toArray,List.set_cons_zero,List.set_cons_succ,i64_w,i32_w];rfl
   refine pure_ (i:=6) (N:=some 49) (v:=?_) (a':=?_) #[true,true,true,true,true,true,true,false,false,false] rfl rfl (any_of HT_.out (by kernel_rfl)) (fun _ _ _ h=>h) (Or.inl ⟨by rfl,?_⟩) ?_ ?_
   rotate_left
   ·intro w';go_simp;with_reducible rfl
   rotate_left
   ·simp only [Act.put,List.setIfInBounds_toArray,List.set_cons_zero,List.set_cons_succ,i64_w,i32_w];rfl
   refine pure_ (i:=7) (N:=some 50) (v:=?_) (a':=?_) #[true,true,true,true,true,true,true,true,false,false] rfl rfl (any_of HT_.out (by kernel_rfl)) (fun _ _ _ h=>h) (Or.inl ⟨by rfl,?_⟩) ?_ ?_
   rotate_left
   ·intro w';go_simp;with_reducible rfl
   rotate_left
   ·simp only [Act.put,List.setIfInBounds_toArray,List.set_cons_zero,List.set_cons_succ,i64_w,i32_w];rfl
   refine pure_ (i:=8) (N:=some 11) (v:=?_) (a':=?_) #[true,true,true,true,true,true,true,true,true,false] rfl rfl (any_of HT_.out (by kernel_rfl)) (fun _ _ _ h=>h) (Or.inl ⟨by rfl,?_⟩) ?_ ?_
   rotate_left
   ·intro w';go_simp;with_reducible rfl
   rotate_left
   ·simp only [Act.put,List.setIfInBounds_toArray,List.set_cons_zero,List.set_cons_succ,i64_w,i32_w];rfl
   refine pure_ (i:=9) (N:=some 12) (v:=?_) (a':=?_) #[true,true,true,true,true,true,true,true,true,true] rfl rfl (any_of HT_.out (by kernel_rfl)) (fun _ _ _ h=>h) (Or.inl ⟨by rfl,?_⟩) ?_ ?_
   rotate_left
   ·intro w';go_simp;with_reducible rfl
   rotate_left
   ·simp only [Act.put,List.setIfInBounds_toArray,List.set_cons_zero,List.set_cons_succ,i64_w,i32_w];rfl
   refine done_ (done_of HT_.out (by kernel_rfl)) ?_
   go_upto_block 2 with (first|((with_reducible refine gate_callee (f:=75) rfl ?_);refine goesL_ (some 52) rfl rfl Try.func75 (by kernel_rfl) rfl #[.pointer (some ⟨g,0,none⟩),.int .i64 4] rfl bM ?_;(with_reducible refine (spec_l6Rd_pick.calls kj3 g s0_0 t794 4 t799 t800 w0 _ ?side1 ?side2 A40.out).mono ?_);(case side1=>repeat (first|(with_reducible first|exact HI0.out|apply IsS110.alloc|apply IsS110.drewN|apply IsS110.drew|apply IsS110.set_1|refine IsS110.far ?_ NB0_759.out _|refine IsS110.far ?_ NB0_766.out _)|exact HI0.out));(case side2=>repeat (first|(with_reducible first|exact HB.out|apply below_alloc|apply pw_below_drewN|apply below_drew1|refine below_set ?_ (IsS110.ge HI0.out)|refine below_set ?_ GE759.out|refine below_set ?_ GE766.out)|exact HB.out));rintro e w53 ⟨rfl,hi,hb,hk⟩;refine ⟨_,rfl,?_⟩;have n0_:=Aside0.mk (Kd.R_mono (Kd.R_keep (IsS110.apart (show IsS110 w0 _ g s0_0 t794 from by repeat (first|(with_reducible first|exact HI0.out|apply IsS110.alloc|apply IsS110.drewN|apply IsS110.drew|apply IsS110.set_1|refine IsS110.far ?_ NB0_759.out _|refine IsS110.far ?_ NB0_766.out _)|exact HI0.out)) (pR HO_767000.out) (by decide)) hk (fun _ h=>h.2)) (fun _ h=>h.1));have n1_:=Aside0.mk (Kd.R_mono (Kd.R_keep (IsS110.apart (show IsS110 w0 _ g s0_0 t794 from by repeat (first|(with_reducible first|exact HI0.out|apply IsS110.alloc|apply IsS110.drewN|apply IsS110.drew|apply IsS110.set_1|refine IsS110.far ?_ NB0_759.out _|refine IsS110.far ?_ NB0_766.out _)|exact HI0.out)) (pR HO_767001.out) (by decide)) hk (fun _ h=>h.2)) (fun _ h=>h.1));have n2_:=Aside0.mk (KeepBut.blk hk (g':=gb759) (o:=.cells #[.slice none 0 0,.slice none 0 0] 31 (0,0)) (pK BK759.out) NB759_0.out (by simp));have n3_:=Aside0.mk (KeepBut.blk hk (g':=gb766) (o:=.cells #[.slice Ao45 x767000_3.length co45,.slice Ao46 x767001_3.length co46] 31 (0,0)) (pK BK766.out) NB766_0.out (by simp));have n4_:=Aside0.mk (Kd.R_mono (Kd.R_keep (IsS110.apart (show IsS110 w0 _ g s0_0 t794 from by repeat (first|(with_reducible first|exact HI0.out|apply IsS110.alloc|apply IsS110.drewN|apply IsS110.drew|apply IsS110.set_1|refine IsS110.far ?_ NB0_759.out _|refine IsS110.far ?_ NB0_766.out _)|exact HI0.out)) (pR HO789.out) (by decide)) hk (fun _ h=>h.2)) (fun _ h=>h.1));have n5_:=Aside0.mk (Kd.R_mono (Kd.R_keep (IsS110.apart (show IsS110 w0 _ g s0_0 t794 from by repeat (first|(with_reducible first|exact HI0.out|apply IsS110.alloc|apply IsS110.drewN|apply IsS110.drew|apply IsS110.set_1|refine IsS110.far ?_ NB0_759.out _|refine IsS110.far ?_ NB0_766.out _)|exact HI0.out)) (pR HO793.out) (by decide)) hk (fun _ h=>h.2)) (fun _ h=>h.1));have n6_:=Aside0.mk (Kd.R_mono (Kd.R_keep (IsS110.apart (show IsS110 w0 _ g s0_0 t794 from by repeat (first|(with_reducible first|exact HI0.out|apply IsS110.alloc|apply IsS110.drewN|apply IsS110.drew|apply IsS110.set_1|refine IsS110.far ?_ NB0_759.out _|refine IsS110.far ?_ NB0_766.out _)|exact HI0.out)) (pR HO797.out) (by decide)) hk (fun _ h=>h.2)) (fun _ h=>h.1));have n7_:=Aside0.mk (KeepBut.trans (by repeat (first|(with_reducible first|exact HK.out|apply KeepBut.set_|apply keep_drewN|apply keep_drew|apply keep_alloc|refine keep_far ?_ GW759.out _|refine keep_far ?_ GW766.out _)|exact HK.out)) hk (.inl rfl));have n8_:=Aside0.mk (hb);have n9_:=Aside0.mk (hi);clear HO_767000;clear HO_767001;clear BK759;clear BK766;clear HO789;clear HO793;clear HO797;clear HK;clear HB;clear HI0;have HO_767000:=n0_;have HO_767001:=n1_;have BK759:=n2_;have BK766:=n3_;have HO789:=n4_;have HO793:=n5_;have HO797:=n6_;have HK:=n7_;have HB:=n8_;have HI0:=n9_;clear n0_ n1_ n2_ n3_ n4_ n5_ n6_ n7_ n8_ n9_;(try clear hb);(try clear hb2);(try clear hk);(try clear hi)))
   (try simp only [Act.put,List.setIfInBounds_toArray,List.set_cons_zero,List.set_cons_succ])
   go_cut [] (fun wc=>∃ (kq:Nat) (x1001_40:Int),Aside0 (spec_l72Wal.j3 kq t795 s0_0 x1001_40 x767000_3 x767001_3=some (r1,r2,r3))∧Aside0 (kq≤kj3)∧Aside0 (Kd.R k61 61 wc w.heap.size (fun _=>True) v796 t795)∧Aside0 (Kd.R Kd.string 9 wc w.heap.size (fun _=>True) (.slice Ao45 x767000_3.length co45) x767000_3)∧Aside0 (Kd.R k75 75 wc w.heap.size (fun _=>True) (.slice Ao46 x767001_3.length co46) x767001_3)∧Aside0 (wc.heap[gb759]?=some (.cells #[(.slice none 0 0),(.slice none 0 0)] 31 (0,0)))∧Aside0 (wc.heap[gb766]?=some (.cells #[(.slice Ao45 x767000_3.length co45),(.slice Ao46 x767001_3.length co46)] 31 (0,0)))∧Aside0 (IsS110 w0 wc g s0_0 x1001_40)∧Aside0 (KeepBut w wc g none)∧Aside0 (Below w0.heap.size w0 wc))
   case first =>
    have H:=HC41.out;clear HC41
    by_cases c54:t799=0
    ·rw [if_pos c54] at H;have c54b0:(t799 == 0)=true:=beq_iff_eq.mpr c54;have c54b1:(t799 != 0)=false:=bne_eq_false_iff_eq.mpr c54;clear c54
     (first|rw [c54b0]|(simp only [i64_w,i32_w];rw [c54b0])|skip)
     simp only [Option.some.injEq,Prod.mk.injEq] at H;obtain ⟨rfl,rfl,rfl⟩:=H;have hnb55:=NB766_759.out;have hnc55:=NB759_766.out;have hnb56:=NB766_0.out;have hnc56:=NB0_766.out;obtain ⟨hcz57_0,hcz57_1,hfz57_0,hfz57_1⟩:=box2 BK766.out;have hnb58:=NB759_0.out;have hnc58:=NB0_759.out;obtain ⟨hcz59_0,hcz59_1,hfz59_0,hfz59_1⟩:=box2 BK759.out
     go_wp2
     refine bodyPost_ret (results_cell_row rfl _ _ gb759 31 #[.slice Ao45 x767000_3.length co45,.slice Ao46 x767001_3.length co46] (0,0) _ rfl (by (with_reducible repeat (first|refine blk_drewN ?_ _|refine blk_drew ?_|refine blk_alloc ?_ _));refine blk_put (cs:=#[.slice Ao45 x767000_3.length co45,.slice none 0 0]) ?_ 1 _ rfl;(with_reducible repeat (first|refine blk_drewN ?_ _|refine blk_drew ?_|refine blk_alloc ?_ _));refine blk_put (cs:=#[.slice none 0 0,.slice none 0 0]) ?_ 0 _ rfl;(with_reducible repeat (first|refine blk_drewN ?_ _|refine blk_drew ?_|refine blk_alloc ?_ _));exact BK759.out) Try.underlying31 rfl (by kernel_rfl)) rfl ?_
     exact ⟨_,_,by first|rfl|(simp [errW_none,errW_some]<;>rfl)|(simp [*,errW_none,errW_some]<;>rfl),pR (Kd.R_mono (Kd.R_far (p:=⟨gb759,1,none⟩) (Kd.R_far (p:=⟨gb759,0,none⟩) (Kd.R_types HO_767000.out BK759.out (by decide)) (fun _ hk=>hk.2) (.slice Ao45 x767000_3.length co45)) (fun _ hk=>hk.2) (.slice Ao46 x767001_3.length co46)) (fun _ hk=>trivial)),pR (Kd.R_mono (Kd.R_far (p:=⟨gb759,1,none⟩) (Kd.R_far (p:=⟨gb759,0,none⟩) (Kd.R_types HO_767001.out BK759.out (by decide)) (fun _ hk=>hk.2) (.slice Ao45 x767000_3.length co45)) (fun _ hk=>hk.2) (.slice Ao46 x767001_3.length co46)) (fun _ hk=>trivial)),by repeat (first|(with_reducible first|exact HI0.out|apply IsS110.alloc|apply IsS110.drewN|apply IsS110.drew|apply IsS110.set_1|refine IsS110.far ?_ NB0_759.out _|refine IsS110.far ?_ NB0_766.out _)|exact HI0.out),by repeat (first|(with_reducible first|exact HB.out|apply below_alloc|apply pw_below_drewN|apply below_drew1|refine below_set ?_ (IsS110.ge HI0.out)|refine below_set ?_ GE759.out|refine below_set ?_ GE766.out)|exact HB.out),by repeat (first|(with_reducible first|exact HK.out|apply KeepBut.set_|apply keep_drewN|apply keep_drew|apply keep_alloc|refine keep_far ?_ GW759.out _|refine keep_far ?_ GW766.out _)|exact HK.out)⟩
    ·rw [if_neg c54] at H;have c54b0:(t799 == 0)=false:=beq_eq_false_iff_ne.mpr c54;have c54b1:(t799 != 0)=true:=bne_iff_ne.mpr c54
     (first|rw [c54b0]|(simp only [i64_w,i32_w];rw [c54b0])|skip)
     by_cases c60:t799=1
     ·rw [if_pos c60] at H;have c60b0:(t799 == 1)=true:=beq_iff_eq.mpr c60;have c60b1:(t799 != 1)=false:=bne_eq_false_iff_eq.mpr c60;clear c60;replace H:=Option.bind_eq_some_iff.mp H;obtain ⟨⟨t801,t802⟩,A610,H⟩:=H
      (try dsimp only at H)
      have A61:=Aside0.mk A610;clear A610;replace H:=Option.bind_eq_some_iff.mp H;obtain ⟨⟨t803,t806⟩,A620,H⟩:=H
      (try dsimp only at H)
      have A62:=Aside0.mk A620;clear A620;replace H:=Option.bind_eq_some_iff.mp H;obtain ⟨⟨t807,t810⟩,A630,H⟩:=H
      (try dsimp only at H)
      have A63:=Aside0.mk A630;clear A630;simp only [Option.some.injEq,Prod.mk.injEq] at H;obtain ⟨rfl,rfl,rfl⟩:=H
      try go_wp2
      have n0_:=Aside0.mk (Kd.R_drew HO_767000.out);have n1_:=Aside0.mk (Kd.R_drew HO_767001.out);have n2_:=Aside0.mk (Kd.R_drew HO789.out);have n3_:=Aside0.mk (Kd.R_drew HO793.out);have n4_:=Aside0.mk (Kd.R_drew HO797.out);have n5_:=Aside0.mk (blk_drew BK759.out);have n6_:=Aside0.mk (blk_drew BK766.out);have n7_:=Aside0.mk (IsS110.drew HI0.out);have n8_:=Aside0.mk (keep_drew HK.out);have n9_:=Aside0.mk (below_drew1 HB.out);clear HO_767000;clear HO_767001;clear HO789;clear HO793;clear HO797;clear BK759;clear BK766;clear HI0;clear HK;clear HB;have HO_767000:=n0_;have HO_767001:=n1_;have HO789:=n2_;have HO793:=n3_;have HO797:=n4_;have BK759:=n5_;have BK766:=n6_;have HI0:=n7_;have HK:=n8_;have HB:=n9_;clear n0_ n1_ n2_ n3_ n4_ n5_ n6_ n7_ n8_ n9_;obtain ⟨Ao65,co65,eo65⟩:=Kd.R_slice HO797.out
      (first|subst eo65|(injection eo65 with f1_ f2_ f3_;have f4_:=f1_.symm;have f5_:=f3_.symm;clear f1_ f2_ f3_;subst f4_;subst f5_))
      refine start_ (n:=11) (S:=fun w'=>w'.cell? ⟨gb766,0,none⟩=some (.slice Ao45 x767000_3.length co45)∧w'.cell? ⟨gb766,1,none⟩=some (.slice Ao46 x767001_3.length co46)) (ds:=[]) #[false,false,false,false,false,false,false,false,false,false,false] (by kernel_rfl) rfl rfl ⟨(blk_cell BK766.out 0).trans rfl,(blk_cell BK766.out 1).trans rfl⟩ (fun hHeld=>?_);refine with_tabW spec_l72Wal.tab14 spec_l72Wal.bits14 (fun HT_ HW_=>?_)
      generalize w53.drew=w64 at HO_767000 HO_767001 HO789 HO793 HO797 BK759 BK766 HI0 HK HB hHeld ⊢
      refine pure_ (i:=1) (N:=some 59) (v:=?_) (a':=?_) #[false,true,false,false,false,false,false,false,false,false,false] rfl rfl (any_of HT_.out (by kernel_rfl)) (fun _ _ _ h=>h) (Or.inl ⟨by rfl,?_⟩) ?_ ?_
      rotate_left
      ·intro w';go_simp;with_reducible rfl
      rotate_left
      ·simp only [Act.put,List.setIfInBounds_toArray,List.set_cons_zero,List.set_cons_succ,i64_w,i32_w];rfl
      refine pure_ (i:=2) (N:=some 60) (v:=?_) (a':=?_) #[false,true,true,false,false,false,false,false,false,false,false] rfl rfl (any_of HT_.out (by kernel_rfl)) (fun _ _ _ h=>h) (Or.inl ⟨by rfl,?_⟩) ?_ ?_
      rotate_left
      ·intro w';go_simp;with_reducible rfl
      rotate_left
      ·simp only [Act.put,List.setIfInBounds_toArray,List.set_cons_zero,List.set_cons_succ,i64_w,i32_w];rfl
      refine pure_ (i:=3) (N:=some 61) (v:=?_) (a':=?_) #[false,true,true,true,false,false,false,false,false,false,false] rfl rfl (any_of HT_.out (by kernel_rfl)) (fun _ _ _ h=>h) (Or.inl ⟨by rfl,?_⟩) ?_ ?_
      rotate_left
      ·intro w';go_simp;with_reducible rfl
      rotate_left
      ·simp only [Act.put,List.setIfInBounds_toArray,List.set_cons_zero,List.set_cons_succ,i64_w,i32_w];rfl
      refine pure_ (i:=4) (N:=some 62) (v:=?_) (a':=?_) #[false,true,true,true,true,false,false,false,false,false,false] rfl rfl (any_of HT_.out (by kernel_rfl)) (fun _ _ _ h=>h) (Or.inl ⟨by rfl,?_⟩) ?_ ?_
      rotate_left
      ·intro w';go_simp;with_reducible rfl
      rotate_left
      ·simp only [Act.put,List.setIfInBounds_toArray,List.set_cons_zero,List.set_cons_succ,i64_w,i32_w];rfl
      refine pure_ (i:=5) (N:=some 63) (v:=?_) (a':=?_) #[false,true,true,true,true,true,false,false,false,false,false] rfl rfl (any_of HT_.out (by kernel_rfl)) (fun _ _ _ h=>h) (Or.inl ⟨by rfl,?_⟩) ?_ ?_
      rotate_left
      ·intro w';go_simp;with_reducible rfl
      rotate_left
      ·simp only [Act.put,List.setIfInBounds_toArray,List.set_cons_zero,List.set_cons_succ,i64_w,i32_w];rfl
      refine pure_ (i:=7) (N:=some 65) (v:=?_) (a':=?_) #[false,true,true,true,true,true,false,true,false,false,false] rfl rfl (any_of HT_.out (by kernel_rfl)) (fun _ _ _ h=>h) (Or.inl ⟨by rfl,?_⟩) ?_ ?_
      rotate_left
      ·intro w';go_simp;with_reducible rfl
      rotate_left
      ·simp only [Act.put,List.setIfInBounds_toArray,List.set_cons_zero,List.set_cons_succ,i64_w,i32_w];rfl
      refine take_ (i:=0) (N:=some 58) (v:=?_) (a':=?_) #[true,true,true,true,true,true,false,true,false,false,false] rfl rfl (take_ofW HT_.out HW_.out (by kernel_rfl)) (fun _ _ _ h=>h) (Or.inl ⟨by rfl,?_⟩) hHeld ?_ ?_
      rotate_left
      ·rintro w' ⟨s0,s1⟩;go_simp;with_reducible rfl
      rotate_left
      ·simp only [Act.put,List.setIfInBounds_toArray,List.set_cons_zero,List.set_cons_succ,i64_w,i32_w];rfl
      refine one_ (i:=6) (N:=some 64) #[true,true,true,true,true,true,true,true,false,false,false] rfl rfl (one_of HT_.out (by kernel_rfl)) (by decide) (fun K hK=>?_)
      refine goes_ Try.func75 (by kernel_rfl) rfl #[.pointer (some ⟨g,0,none⟩),.int .i64 (wrap64 ((t795.length:Int)+1))] (by rfl) rfl rfl bM ?_
      with_reducible refine (spec_l6Rd_pick.calls kj3 g s0_0 t800 (wrap64 ((t795.length:Int)+1)) t801 t802 w0 _ ?side1 ?side2 A61.out).mono ?_
      (case side1=>repeat (first|(with_reducible first|exact HI0.out|apply IsS110.alloc|apply IsS110.drewN|apply IsS110.drew|apply IsS110.set_1|refine IsS110.far ?_ NB0_759.out _|refine IsS110.far ?_ NB0_766.out _)|exact HI0.out))
      (case side2=>repeat (first|(with_reducible first|exact HB.out|apply below_alloc|apply pw_below_drewN|apply below_drew1|refine below_set ?_ (IsS110.ge HI0.out)|refine below_set ?_ GE759.out|refine below_set ?_ GE766.out)|exact HB.out))
      rintro e w66 ⟨rfl,hi,hb,hk⟩;refine ⟨_,rfl,?_⟩
      have n0_:=Aside0.mk (Kd.R_mono (Kd.R_keep (IsS110.apart (show IsS110 w0 _ g s0_0 t800 from by repeat (first|(with_reducible first|exact HI0.out|apply IsS110.alloc|apply IsS110.drewN|apply IsS110.drew|apply IsS110.set_1|refine IsS110.far ?_ NB0_759.out _|refine IsS110.far ?_ NB0_766.out _)|exact HI0.out)) (pR HO_767000.out) (by decide)) hk (fun _ h=>h.2)) (fun _ h=>h.1))
      have n1_:=Aside0.mk (Kd.R_mono (Kd.R_keep (IsS110.apart (show IsS110 w0 _ g s0_0 t800 from by repeat (first|(with_reducible first|exact HI0.out|apply IsS110.alloc|apply IsS110.drewN|apply IsS110.drew|apply IsS110.set_1|refine IsS110.far ?_ NB0_759.out _|refine IsS110.far ?_ NB0_766.out _)|exact HI0.out)) (pR HO_767001.out) (by decide)) hk (fun _ h=>h.2)) (fun _ h=>h.1))
      have n2_:=Aside0.mk (KeepBut.blk hk (g':=gb759) (o:=.cells #[.slice none 0 0,.slice none 0 0] 31 (0,0)) (pK BK759.out) NB759_0.out (by simp))
      have n3_:=Aside0.mk (KeepBut.blk hk (g':=gb766) (o:=.cells #[.slice Ao45 x767000_3.length co45,.slice Ao46 x767001_3.length co46] 31 (0,0)) (pK BK766.out) NB766_0.out (by simp))
      have n4_:=Aside0.mk (Kd.R_mono (Kd.R_keep (IsS110.apart (show IsS110 w0 _ g s0_0 t800 from by repeat (first|(with_reducible first|exact HI0.out|apply IsS110.alloc|apply IsS110.drewN|apply IsS110.drew|apply IsS110.set_1|refine IsS110.far ?_ NB0_759.out _|refine IsS110.far ?_ NB0_766.out _)|exact HI0.out)) (pR HO789.out) (by decide)) hk (fun _ h=>h.2)) (fun _ h=>h.1))
      have n5_:=Aside0.mk (Kd.R_mono (Kd.R_keep (IsS110.apart (show IsS110 w0 _ g s0_0 t800 from by repeat (first|(with_reducible first|exact HI0.out|apply IsS110.alloc|apply IsS110.drewN|apply IsS110.drew|apply IsS110.set_1|refine IsS110.far ?_ NB0_759.out _|refine IsS110.far ?_ NB0_766.out _)|exact HI0.out)) (pR HO793.out) (by decide)) hk (fun _ h=>h.2)) (fun _ h=>h.1))
      have n6_:=Aside0.mk (Kd.R_mono (Kd.R_keep (IsS110.apart (show IsS110 w0 _ g s0_0 t800 from by repeat (first|(with_reducible first|exact HI0.out|apply IsS110.alloc|apply IsS110.drewN|apply IsS110.drew|apply IsS110.set_1|refine IsS110.far ?_ NB0_759.out _|refine IsS110.far ?_ NB0_766.out _)|exact HI0.out)) (pR HO797.out) (by decide)) hk (fun _ h=>h.2)) (fun _ h=>h.1))
      have n7_:=Aside0.mk (KeepBut.trans (by repeat (first|(with_reducible first|exact HK.out|apply KeepBut.set_|apply keep_drewN|apply keep_drew|apply keep_alloc|refine keep_far ?_ GW759.out _|refine keep_far ?_ GW766.out _)|exact HK.out)) hk (.inl rfl))
      have n8_:=Aside0.mk (hb);have n9_:=Aside0.mk (hi);clear HO_767000;clear HO_767001;clear BK759;clear BK766;clear HO789;clear HO793;clear HO797;clear HK;clear HB;clear HI0;have HO_767000:=n0_;have HO_767001:=n1_;have BK759:=n2_;have BK766:=n3_;have HO789:=n4_;have HO793:=n5_;have HO797:=n6_;have HK:=n7_;have HB:=n8_;have HI0:=n9_;clear n0_ n1_ n2_ n3_ n4_ n5_ n6_ n7_ n8_ n9_
      (try clear hb)
      (try clear hb2)
      (try clear hk)
      (try clear hi)
      refine hK.out _ _ ⟨(blk_cell BK766.out 0).trans rfl,(blk_cell BK766.out 1).trans rfl⟩ (fun hHeld=>?_);clear hK K;refine norm_ (a':=?_) ?_ ?_;rotate_left
      ·show Act.put _ (some 64) _=_
       simp only [Act.put,List.setIfInBounds_toArray,List.set_cons_zero,List.set_cons_succ,i64_w,i32_w];rfl
      refine one_ (i:=8) (N:=some 66) #[true,true,true,true,true,true,true,true,true,false,false] rfl rfl (one_of HT_.out (by kernel_rfl)) (by decide) (fun K hK=>?_)
      refine goes_ Try.func79 (by kernel_rfl) rfl #[.pointer (some ⟨g,0,none⟩),.int .i64 8] (by rfl) rfl rfl bM ?_
      with_reducible refine (spec_l72Bits.calls kj3 g s0_0 t802 8 t803 t806 w0 _ ?side1 ?side2 A62.out).mono ?_
      (case side1=>repeat (first|(with_reducible first|exact HI0.out|apply IsS110.alloc|apply IsS110.drewN|apply IsS110.drew|apply IsS110.set_1|refine IsS110.far ?_ NB0_759.out _|refine IsS110.far ?_ NB0_766.out _)|exact HI0.out))
      (case side2=>repeat (first|(with_reducible first|exact HB.out|apply below_alloc|apply pw_below_drewN|apply below_drew1|refine below_set ?_ (IsS110.ge HI0.out)|refine below_set ?_ GE759.out|refine below_set ?_ GE766.out)|exact HB.out))
      rintro e w67 ⟨v804,rfl,ho0,hi,hb,hk⟩;refine ⟨_,rfl,?_⟩
      have n0_:=Aside0.mk (Kd.R_mono (Kd.R_keep (IsS110.apart (show IsS110 w0 _ g s0_0 t802 from by repeat (first|(with_reducible first|exact HI0.out|apply IsS110.alloc|apply IsS110.drewN|apply IsS110.drew|apply IsS110.set_1|refine IsS110.far ?_ NB0_759.out _|refine IsS110.far ?_ NB0_766.out _)|exact HI0.out)) (pR HO_767000.out) (by decide)) hk (fun _ h=>h.2)) (fun _ h=>h.1))
      have n1_:=Aside0.mk (Kd.R_mono (Kd.R_keep (IsS110.apart (show IsS110 w0 _ g s0_0 t802 from by repeat (first|(with_reducible first|exact HI0.out|apply IsS110.alloc|apply IsS110.drewN|apply IsS110.drew|apply IsS110.set_1|refine IsS110.far ?_ NB0_759.out _|refine IsS110.far ?_ NB0_766.out _)|exact HI0.out)) (pR HO_767001.out) (by decide)) hk (fun _ h=>h.2)) (fun _ h=>h.1))
      have n2_:=Aside0.mk (KeepBut.blk hk (g':=gb759) (o:=.cells #[.slice none 0 0,.slice none 0 0] 31 (0,0)) (pK BK759.out) NB759_0.out (by simp))
      have n3_:=Aside0.mk (KeepBut.blk hk (g':=gb766) (o:=.cells #[.slice Ao45 x767000_3.length co45,.slice Ao46 x767001_3.length co46] 31 (0,0)) (pK BK766.out) NB766_0.out (by simp))
      have n4_:=Aside0.mk (Kd.R_mono (Kd.R_keep (IsS110.apart (show IsS110 w0 _ g s0_0 t802 from by repeat (first|(with_reducible first|exact HI0.out|apply IsS110.alloc|apply IsS110.drewN|apply IsS110.drew|apply IsS110.set_1|refine IsS110.far ?_ NB0_759.out _|refine IsS110.far ?_ NB0_766.out _)|exact HI0.out)) (pR HO789.out) (by decide)) hk (fun _ h=>h.2)) (fun _ h=>h.1))
      have n5_:=Aside0.mk (Kd.R_mono (Kd.R_keep (IsS110.apart (show IsS110 w0 _ g s0_0 t802 from by repeat (first|(with_reducible first|exact HI0.out|apply IsS110.alloc|apply IsS110.drewN|apply IsS110.drew|apply IsS110.set_1|refine IsS110.far ?_ NB0_759.out _|refine IsS110.far ?_ NB0_766.out _)|exact HI0.out)) (pR HO793.out) (by decide)) hk (fun _ h=>h.2)) (fun _ h=>h.1))
      have n6_:=Aside0.mk (Kd.R_mono (Kd.R_keep (IsS110.apart (show IsS110 w0 _ g s0_0 t802 from by repeat (first|(with_reducible first|exact HI0.out|apply IsS110.alloc|apply IsS110.drewN|apply IsS110.drew|apply IsS110.set_1|refine IsS110.far ?_ NB0_759.out _|refine IsS110.far ?_ NB0_766.out _)|exact HI0.out)) (pR HO797.out) (by decide)) hk (fun _ h=>h.2)) (fun _ h=>h.1))
      have n7_:=Aside0.mk (Kd.R_lower ho0 (keep_size (w:=w) (g:=g) (row:=none) (by repeat (first|(with_reducible first|exact HK.out|apply KeepBut.set_|apply keep_drewN|apply keep_drew|apply keep_alloc|refine keep_far ?_ GW759.out _|refine keep_far ?_ GW766.out _)|exact HK.out))))
      have n8_:=Aside0.mk (KeepBut.trans (by repeat (first|(with_reducible first|exact HK.out|apply KeepBut.set_|apply keep_drewN|apply keep_drew|apply keep_alloc|refine keep_far ?_ GW759.out _|refine keep_far ?_ GW766.out _)|exact HK.out)) hk (.inl rfl))
      have n9_:=Aside0.mk (hb);have n10_:=Aside0.mk (hi);clear HO_767000;clear HO_767001;clear BK759;clear BK766;clear HO789;clear HO793;clear HO797;clear HK;clear HB;clear HI0;have HO_767000:=n0_;have HO_767001:=n1_;have BK759:=n2_;have BK766:=n3_;have HO789:=n4_;have HO793:=n5_;have HO797:=n6_;have HO805:=n7_;have HK:=n8_;have HB:=n9_;have HI0:=n10_;clear n0_ n1_ n2_ n3_ n4_ n5_ n6_ n7_ n8_ n9_ n10_
      (try clear hb)
      (try clear hb2)
      (try clear hk)
      (try clear hi)
      (try clear ho0)
      obtain ⟨Ao68,co68,eo68⟩:=Kd.R_slice HO805.out
      (first|subst eo68|(injection eo68 with f1_ f2_ f3_;have f4_:=f1_.symm;have f5_:=f3_.symm;clear f1_ f2_ f3_;subst f4_;subst f5_))
      refine hK.out _ _ ⟨(blk_cell BK766.out 0).trans rfl,(blk_cell BK766.out 1).trans rfl⟩ (fun hHeld=>?_);clear hK K;refine norm_ (a':=?_) ?_ ?_;rotate_left
      ·show Act.put _ (some 66) _=_
       simp only [Act.put,List.setIfInBounds_toArray,List.set_cons_zero,List.set_cons_succ,i64_w,i32_w];rfl
      refine one_ (i:=9) (N:=some 67) #[true,true,true,true,true,true,true,true,true,true,false] rfl rfl (one_of HT_.out (by kernel_rfl)) (by decide) (fun K hK=>?_)
      refine goes_ Try.func33 (by kernel_rfl) rfl #[.agg #[.slice Ao45 x767000_3.length co45,.slice Ao46 x767001_3.length co46],.slice Ao65 t795.length co65,.bool true,.int .i64 t801,.slice Ao68 t803.length co68] (by rfl) rfl rfl bM ?_
      with_reducible refine (spec_WalDo.calls kj3 _ _ x767000_3 _ _ x767001_3 _ _ t795 true t801 _ _ t803 t807 t810 _ ?side1 ?side2 ?side3 ?side4 ?side5 ?side6 ?side7 ?side8 A63.out).mono ?_
      (case side1=>exact pC (Kd.R_reads' HO_767000.out).2.2)
      (case side2=>exact (Kd.R_reads' HO_767000.out).2.1)
      (case side3=>exact pC (Kd.R_reads' HO_767001.out).2.2)
      (case side4=>exact (Kd.R_reads' HO_767001.out).2.1)
      (case side5=>exact pC (Kd.R_reads' HO797.out).2.2)
      (case side6=>exact (Kd.R_reads' HO797.out).2.1)
      (case side7=>exact pC (Kd.R_reads' HO805.out).2.2)
      (case side8=>exact (Kd.R_reads' HO805.out).2.1)
      rintro e w69 ⟨v808,v811,rfl,ho0,ho1,hb⟩;refine ⟨_,rfl,?_⟩;have n0_:=Aside0.mk (Kd.R_elder' (pR HO_767000.out) (Kd.R_base ho0) hb);have n1_:=Aside0.mk (Kd.R_elder' (pR HO_767001.out) (Kd.R_base ho1) hb);have n2_:=Aside0.mk (Kd.R_elder' (pR HO789.out) (Kd.R_base ho0) hb);have n3_:=Aside0.mk (Kd.R_elder' (pR HO793.out) (Kd.R_base ho0) hb);have n4_:=Aside0.mk (Kd.R_below (pR HO797.out) hb);have n5_:=Aside0.mk (Kd.R_below (pR HO805.out) hb)
      have n6_:=Aside0.mk (Kd.R_lower (Kd.R_new' (Kd.R_new' (Kd.R_new' ho0 (Kd.R_lt (pR HO_767000.out))) (Kd.R_lt (pR HO789.out))) (Kd.R_lt (pR HO793.out))) (keep_size (w:=w) (g:=g) (row:=none) (by repeat (first|(with_reducible first|exact HK.out|apply KeepBut.set_|apply keep_drewN|apply keep_drew|apply keep_alloc|refine keep_far ?_ GW759.out _|refine keep_far ?_ GW766.out _)|exact HK.out))))
      have n7_:=Aside0.mk (Kd.R_lower (Kd.R_new' ho1 (Kd.R_lt (pR HO_767001.out))) (keep_size (w:=w) (g:=g) (row:=none) (by repeat (first|(with_reducible first|exact HK.out|apply KeepBut.set_|apply keep_drewN|apply keep_drew|apply keep_alloc|refine keep_far ?_ GW759.out _|refine keep_far ?_ GW766.out _)|exact HK.out))))
      have n8_:=Aside0.mk (blk_below (pK BK759.out) hb);have n9_:=Aside0.mk (blk_below (pK BK766.out) hb)
      have n10_:=Aside0.mk (IsS110.below (by repeat (first|(with_reducible first|exact HI0.out|apply IsS110.alloc|apply IsS110.drewN|apply IsS110.drew|apply IsS110.set_1|refine IsS110.far ?_ NB0_759.out _|refine IsS110.far ?_ NB0_766.out _)|exact HI0.out)) hb)
      have n11_:=Aside0.mk (KeepBut.trans (by repeat (first|(with_reducible first|exact HK.out|apply KeepBut.set_|apply keep_drewN|apply keep_drew|apply keep_alloc|refine keep_far ?_ GW759.out _|refine keep_far ?_ GW766.out _)|exact HK.out)) (KeepBut.of_below hb g none) (.inl rfl))
      have n12_:=Aside0.mk (below_step (by repeat (first|(with_reducible first|exact HB.out|apply below_alloc|apply pw_below_drewN|apply below_drew1|refine below_set ?_ (IsS110.ge HI0.out)|refine below_set ?_ GE759.out|refine below_set ?_ GE766.out)|exact HB.out)) hb)
      clear HO_767000;clear HO_767001;clear HO789;clear HO793;clear HO797;clear HO805;clear BK759;clear BK766;clear HI0;clear HK;clear HB;have HO_767000:=n0_;have HO_767001:=n1_;have HO789:=n2_;have HO793:=n3_;have HO797:=n4_;have HO805:=n5_;have HO809:=n6_;have HO812:=n7_;have BK759:=n8_;have BK766:=n9_;have HI0:=n10_;have HK:=n11_;have HB:=n12_;clear n0_ n1_ n2_ n3_ n4_ n5_ n6_ n7_ n8_ n9_ n10_ n11_ n12_
      (try clear hb)
      (try clear hb2)
      (try clear hk)
      (try clear hi)
      (try clear ho0)
      (try clear ho1)
      obtain ⟨Ao70,co70,eo70⟩:=Kd.R_slice HO809.out
      (first|subst eo70|(injection eo70 with f1_ f2_ f3_;have f4_:=f1_.symm;have f5_:=f3_.symm;clear f1_ f2_ f3_;subst f4_;subst f5_))
      obtain ⟨Ao72,co72,eo72⟩:=Kd.R_slice HO812.out
      (first|subst eo72|(injection eo72 with f1_ f2_ f3_;have f4_:=f1_.symm;have f5_:=f3_.symm;clear f1_ f2_ f3_;subst f4_;subst f5_))
      refine hK.out _ _ ⟨(blk_cell BK766.out 0).trans rfl,(blk_cell BK766.out 1).trans rfl⟩ (fun hHeld=>?_);clear hK K;refine norm_ (a':=?_) ?_ ?_;rotate_left
      ·show Act.put _ (some 67) _=_
       simp only [Act.put,List.setIfInBounds_toArray,List.set_cons_zero,List.set_cons_succ,i64_w,i32_w];rfl
      refine one_ (i:=10) (N:=none) #[true,true,true,true,true,true,true,true,true,true,true] rfl rfl (one_of HT_.out (by kernel_rfl)) (by decide) (fun K hK=>?_)
      have hs71:w69.cell? ⟨gb759,0,none⟩=some (.slice none 0 0):=(blk_cell BK759.out 0).trans rfl;have hfs71:=blk_frozen BK759.out 0;have hns71_1:=NB766_759.out;have hms71_1:=NB759_766.out;have hs73:w69.cell? ⟨gb759,1,none⟩=some (.slice none 0 0):=(blk_cell BK759.out 1).trans rfl;have hfs73:=blk_frozen BK759.out 1;have hns73_1:=NB766_759.out;have hms73_1:=NB759_766.out
      refine skip_ (w1:=?_) (by rfl) rfl ?_ ?_
      rotate_left
      ·go_simp;rfl
      refine hK.out _ _ ⟨((cell_far (p:=⟨gb759,_,none⟩) NB766_759.out _).trans (((cell_far (p:=⟨gb759,_,none⟩) NB766_759.out _).trans (hHeld.1)))),((cell_far (p:=⟨gb759,_,none⟩) NB766_759.out _).trans (((cell_far (p:=⟨gb759,_,none⟩) NB766_759.out _).trans (hHeld.2))))⟩ (fun hHeld=>?_);clear hK K
      refine done_ (done_of HT_.out (by kernel_rfl)) ?_
      try go_wp2
      refine bodyPost_ret (results_cell_row rfl _ _ gb759 31 #[.slice Ao70 t807.length co70,.slice Ao72 t810.length co72] (0,0) _ rfl (by (with_reducible repeat (first|refine blk_drewN ?_ _|refine blk_drew ?_|refine blk_alloc ?_ _));refine blk_put (cs:=#[.slice Ao70 t807.length co70,.slice none 0 0]) ?_ 1 _ rfl;(with_reducible repeat (first|refine blk_drewN ?_ _|refine blk_drew ?_|refine blk_alloc ?_ _));refine blk_put (cs:=#[.slice none 0 0,.slice none 0 0]) ?_ 0 _ rfl;(with_reducible repeat (first|refine blk_drewN ?_ _|refine blk_drew ?_|refine blk_alloc ?_ _));exact BK759.out) Try.underlying31 rfl (by kernel_rfl)) rfl ?_
      exact ⟨_,_,by first|rfl|(simp [errW_none,errW_some]<;>rfl)|(simp [*,errW_none,errW_some]<;>rfl),pR (Kd.R_mono (Kd.R_far (p:=⟨gb759,1,none⟩) (Kd.R_far (p:=⟨gb759,0,none⟩) (Kd.R_types HO809.out BK759.out (by decide)) (fun _ hk=>hk.2) (.slice Ao70 t807.length co70)) (fun _ hk=>hk.2) (.slice Ao72 t810.length co72)) (fun _ hk=>trivial)),pR (Kd.R_mono (Kd.R_far (p:=⟨gb759,1,none⟩) (Kd.R_far (p:=⟨gb759,0,none⟩) (Kd.R_types HO812.out BK759.out (by decide)) (fun _ hk=>hk.2) (.slice Ao70 t807.length co70)) (fun _ hk=>hk.2) (.slice Ao72 t810.length co72)) (fun _ hk=>trivial)),by repeat (first|(with_reducible first|exact HI0.out|apply IsS110.alloc|apply IsS110.drewN|apply IsS110.drew|apply IsS110.set_1|refine IsS110.far ?_ NB0_759.out _|refine IsS110.far ?_ NB0_766.out _)|exact HI0.out),by repeat (first|(with_reducible first|exact HB.out|apply below_alloc|apply pw_below_drewN|apply below_drew1|refine below_set ?_ (IsS110.ge HI0.out)|refine below_set ?_ GE759.out|refine below_set ?_ GE766.out)|exact HB.out),by repeat (first|(with_reducible first|exact HK.out|apply KeepBut.set_|apply keep_drewN|apply keep_drew|apply keep_alloc|refine keep_far ?_ GW759.out _|refine keep_far ?_ GW766.out _)|exact HK.out)⟩
     ·rw [if_neg c60] at H;have c60b0:(t799 == 1)=false:=beq_eq_false_iff_ne.mpr c60;have c60b1:(t799 != 1)=true:=bne_iff_ne.mpr c60
      by_cases c74:t799=2
      ·rw [if_pos c74] at H;have c74b0:(t799 == 2)=true:=beq_iff_eq.mpr c74;have c74b1:(t799 != 2)=false:=bne_eq_false_iff_eq.mpr c74;clear c74;replace H:=Option.bind_eq_some_iff.mp H;obtain ⟨⟨t813,t814⟩,A750,H⟩:=H
       (try dsimp only at H)
       have A75:=Aside0.mk A750;clear A750
       by_cases c76:0≤t813
       ·rw [if_pos c76] at H;have c76b0:=eq_true c76;have c76b1:decide (0≤t813)=true:=decide_eq_true c76;clear c76
        by_cases c77:t813≤(t795.length:Int)
        ·rw [if_pos c77] at H;have c77b0:=eq_true c77;have c77b1:decide (t813≤(t795.length:Int))=true:=decide_eq_true c77;clear c77;obtain ⟨y815,hy815⟩:∃ y_:List (S61),y_=(t795.take (t813:Int).toNat):=⟨_,rfl⟩
         replace H:((spec_WalDo.f kj3 x767000_3 x767001_3 y815 false 0 ([]:List Int)).bind fun bt819=>(some (bt819.1,bt819.2,t814)))=some (r1,r2,r3):=by first|(rw [hy815];with_reducible exact H)|(have H2_:=(Option.bind_some _ _).symm.trans H;rw [hy815];with_reducible exact H2_)|(have H2_:=(Option.bind_some _ _).symm.trans H;with_reducible exact H2_)|with_reducible exact H|(rw [hy815];exact H)|exact H
         have Ny815:=Aside0.mk hy815;clear hy815;replace H:=Option.bind_eq_some_iff.mp H;obtain ⟨⟨t819,t822⟩,A780,H⟩:=H
         (try dsimp only at H)
         have A78:=Aside0.mk A780;clear A780;simp only [Option.some.injEq,Prod.mk.injEq] at H;obtain ⟨rfl,rfl,rfl⟩:=H;obtain ⟨Ao79,co79,eo79⟩:=Kd.R_slice HO797.out;subst eo79
         try go_wp2_with (first|((with_reducible refine gate_callee (f:=75) rfl ?_);refine goesL_ (some 74) rfl rfl Try.func75 (by kernel_rfl) rfl #[.pointer (some ⟨g,0,none⟩),.int .i64 (wrap64 ((t795.length:Int)+1))] rfl bM ?_;(with_reducible refine (spec_l6Rd_pick.calls kj3 g s0_0 t800 (wrap64 ((t795.length:Int)+1)) t813 t814 w0 _ ?side1 ?side2 A75.out).mono ?_);(case side1=>repeat (first|(with_reducible first|exact HI0.out|apply IsS110.alloc|apply IsS110.drewN|apply IsS110.drew|apply IsS110.set_1|refine IsS110.far ?_ NB0_759.out _|refine IsS110.far ?_ NB0_766.out _)|exact HI0.out));(case side2=>repeat (first|(with_reducible first|exact HB.out|apply below_alloc|apply pw_below_drewN|apply below_drew1|refine below_set ?_ (IsS110.ge HI0.out)|refine below_set ?_ GE759.out|refine below_set ?_ GE766.out)|exact HB.out));rintro e w80 ⟨rfl,hi,hb,hk⟩;refine ⟨_,rfl,?_⟩;have n0_:=Aside0.mk (Kd.R_mono (Kd.R_keep (IsS110.apart (show IsS110 w0 _ g s0_0 t800 from by repeat (first|(with_reducible first|exact HI0.out|apply IsS110.alloc|apply IsS110.drewN|apply IsS110.drew|apply IsS110.set_1|refine IsS110.far ?_ NB0_759.out _|refine IsS110.far ?_ NB0_766.out _)|exact HI0.out)) (pR HO_767000.out) (by decide)) hk (fun _ h=>h.2)) (fun _ h=>h.1));have n1_:=Aside0.mk (Kd.R_mono (Kd.R_keep (IsS110.apart (show IsS110 w0 _ g s0_0 t800 from by repeat (first|(with_reducible first|exact HI0.out|apply IsS110.alloc|apply IsS110.drewN|apply IsS110.drew|apply IsS110.set_1|refine IsS110.far ?_ NB0_759.out _|refine IsS110.far ?_ NB0_766.out _)|exact HI0.out)) (pR HO_767001.out) (by decide)) hk (fun _ h=>h.2)) (fun _ h=>h.1));have n2_:=Aside0.mk (KeepBut.blk hk (g':=gb759) (o:=.cells #[.slice none 0 0,.slice none 0 0] 31 (0,0)) (pK BK759.out) NB759_0.out (by simp));have n3_:=Aside0.mk (KeepBut.blk hk (g':=gb766) (o:=.cells #[.slice Ao45 x767000_3.length co45,.slice Ao46 x767001_3.length co46] 31 (0,0)) (pK BK766.out) NB766_0.out (by simp));have n4_:=Aside0.mk (Kd.R_mono (Kd.R_keep (IsS110.apart (show IsS110 w0 _ g s0_0 t800 from by repeat (first|(with_reducible first|exact HI0.out|apply IsS110.alloc|apply IsS110.drewN|apply IsS110.drew|apply IsS110.set_1|refine IsS110.far ?_ NB0_759.out _|refine IsS110.far ?_ NB0_766.out _)|exact HI0.out)) (pR HO789.out) (by decide)) hk (fun _ h=>h.2)) (fun _ h=>h.1));have n5_:=Aside0.mk (Kd.R_mono (Kd.R_keep (IsS110.apart (show IsS110 w0 _ g s0_0 t800 from by repeat (first|(with_reducible first|exact HI0.out|apply IsS110.alloc|apply IsS110.drewN|apply IsS110.drew|apply IsS110.set_1|refine IsS110.far ?_ NB0_759.out _|refine IsS110.far ?_ NB0_766.out _)|exact HI0.out)) (pR HO793.out) (by decide)) hk (fun _ h=>h.2)) (fun _ h=>h.1));have n6_:=Aside0.mk (Kd.R_mono (Kd.R_keep (IsS110.apart (show IsS110 w0 _ g s0_0 t800 from by repeat (first|(with_reducible first|exact HI0.out|apply IsS110.alloc|apply IsS110.drewN|apply IsS110.drew|apply IsS110.set_1|refine IsS110.far ?_ NB0_759.out _|refine IsS110.far ?_ NB0_766.out _)|exact HI0.out)) (pR HO797.out) (by decide)) hk (fun _ h=>h.2)) (fun _ h=>h.1));have n7_:=Aside0.mk (KeepBut.trans (by repeat (first|(with_reducible first|exact HK.out|apply KeepBut.set_|apply keep_drewN|apply keep_drew|apply keep_alloc|refine keep_far ?_ GW759.out _|refine keep_far ?_ GW766.out _)|exact HK.out)) hk (.inl rfl));have n8_:=Aside0.mk (hb);have n9_:=Aside0.mk (hi);clear HO_767000;clear HO_767001;clear BK759;clear BK766;clear HO789;clear HO793;clear HO797;clear HK;clear HB;clear HI0;have HO_767000:=n0_;have HO_767001:=n1_;have BK759:=n2_;have BK766:=n3_;have HO789:=n4_;have HO793:=n5_;have HO797:=n6_;have HK:=n7_;have HB:=n8_;have HI0:=n9_;clear n0_ n1_ n2_ n3_ n4_ n5_ n6_ n7_ n8_ n9_;(try clear hb);(try clear hb2);(try clear hk);(try clear hi)))
         have n0_:=Aside0.mk (Kd.R_drew HO_767000.out);have n1_:=Aside0.mk (Kd.R_drew HO_767001.out);have n2_:=Aside0.mk (Kd.R_drew HO789.out);have n3_:=Aside0.mk (Kd.R_drew HO793.out);have n4_:=Aside0.mk (Kd.R_drew HO797.out);have n5_:=Aside0.mk (blk_drew BK759.out);have n6_:=Aside0.mk (blk_drew BK766.out);have n7_:=Aside0.mk (IsS110.drew HI0.out);have n8_:=Aside0.mk (keep_drew HK.out);have n9_:=Aside0.mk (below_drew1 HB.out);clear HO_767000;clear HO_767001;clear HO789;clear HO793;clear HO797;clear BK759;clear BK766;clear HI0;clear HK;clear HB;have HO_767000:=n0_;have HO_767001:=n1_;have HO789:=n2_;have HO793:=n3_;have HO797:=n4_;have BK759:=n5_;have BK766:=n6_;have HI0:=n7_;have HK:=n8_;have HB:=n9_;clear n0_ n1_ n2_ n3_ n4_ n5_ n6_ n7_ n8_ n9_;have q82:(t813:Int)≤((t795.length:Int):Int):=of_decide_eq_true bA;obtain ⟨i082,hi082,_,hsz82,_⟩:=info_parts info61;have hroom82:t795.length≤co79:=(Kd.R_reads' HO797.out).2.1;have hC82:Kd.C k61 _ Ao79 t795.length t795:=(Kd.R_reads' HO797.out).2.2;have hcut82:=cut_to (P:=Try.prog) 38 61 .i64 Try.underlying38 hi082 Ao79 t795.length co79 t813 (of_decide_eq_true bA) q82 hroom82
         have hr82:=Kd.C_take (m:=(t813:Int).toNat) hC82 (by omega)
         have hy82:y815.length=(t813:Int).toNat:=(by rw [Ny815.out,List.length_take];omega)
         rw [← Ny815.out] at hr82;rw [← hy82] at hcut82;have HR818:=Aside0.mk hr82
         have HC818:=Aside0.mk (show y815.length≤co79 from by omega)
         clear hr82 hC82 hroom82 hi082 hsz82;have KY82:=Aside0.mk hy82;clear hy82
         have KL82:=Aside0.mk (show (t813:Int).toNat≤t795.length from by omega)
         replace q82:=eq_true q82
         refine start_ (n:=6) (S:=fun w'=>w'.cell? ⟨gb766,0,none⟩=some (.slice Ao45 x767000_3.length co45)∧w'.cell? ⟨gb766,1,none⟩=some (.slice Ao46 x767001_3.length co46)) (ds:=[]) #[false,false,false,false,false,false] (by kernel_rfl) rfl rfl ⟨(blk_cell BK766.out 0).trans rfl,(blk_cell BK766.out 1).trans rfl⟩ (fun hHeld=>?_)
         generalize w80.drew=w81 at HO_767000 HO_767001 HO789 HO793 HO797 BK759 BK766 HI0 HK HB HR818 hHeld ⊢
         refine pure_ (i:=1) (N:=some 76) (v:=?_) (a':=?_) #[false,true,false,false,false,false] rfl rfl (by kernel_rfl) (fun _ _ _ h=>h) (Or.inl ⟨by rfl,?_⟩) ?_ ?_
         rotate_left
         ·intro w';go_simp;with_reducible rfl
         rotate_left
         ·simp only [Act.put,List.setIfInBounds_toArray,List.set_cons_zero,List.set_cons_succ,i64_w,i32_w];rfl
         refine pure_ (i:=2) (N:=some 77) (v:=?_) (a':=?_) #[false,true,true,false,false,false] rfl rfl (by kernel_rfl) (fun _ _ _ h=>h) (Or.inl ⟨by rfl,?_⟩) ?_ ?_
         rotate_left
         ·intro w';go_simp;with_reducible rfl
         rotate_left
         ·simp only [Act.put,List.setIfInBounds_toArray,List.set_cons_zero,List.set_cons_succ,i64_w,i32_w];rfl
         refine pure_ (i:=3) (N:=some 78) (v:=?_) (a':=?_) #[false,true,true,true,false,false] rfl rfl (by kernel_rfl) (fun _ _ _ h=>h) (Or.inl ⟨by rfl,?_⟩) ?_ ?_
         rotate_left
         ·intro w';go_simp;with_reducible rfl
         rotate_left
         ·simp only [Act.put,List.setIfInBounds_toArray,List.set_cons_zero,List.set_cons_succ,i64_w,i32_w];rfl
         refine take_ (i:=0) (N:=some 75) (v:=?_) (a':=?_) #[true,true,true,true,false,false] rfl rfl (by kernel_rfl) (fun _ _ _ h=>h) (Or.inl ⟨by rfl,?_⟩) hHeld ?_ ?_
         rotate_left
         ·rintro w' ⟨s0,s1⟩;go_simp;with_reducible rfl
         rotate_left
         ·simp only [Act.put,List.setIfInBounds_toArray,List.set_cons_zero,List.set_cons_succ,i64_w,i32_w];rfl
         refine one_ (i:=4) (N:=some 79) #[true,true,true,true,true,false] rfl rfl (by kernel_rfl) (by decide) (fun K hK=>?_)
         refine goes_ Try.func33 (by kernel_rfl) rfl #[.agg #[.slice Ao45 x767000_3.length co45,.slice Ao46 x767001_3.length co46],.slice Ao79 y815.length co79,.bool false,.int .i64 0,.slice none 0 0] (by rfl) rfl rfl bM ?_
         refine (spec_WalDo.calls kj3 _ _ x767000_3 _ _ x767001_3 _ _ y815 false 0 _ _ ([]:List Int) t819 t822 _ ?side1 ?side2 ?side3 ?side4 ?side5 ?side6 ?side7 ?side8 A78.out).mono ?_
         (case side1=>exact pC (Kd.R_reads' HO_767000.out).2.2)
         (case side2=>exact (Kd.R_reads' HO_767000.out).2.1)
         (case side3=>exact pC (Kd.R_reads' HO_767001.out).2.2)
         (case side4=>exact (Kd.R_reads' HO_767001.out).2.1)
         (case side5=>repeat (first|exact (by repeat (first|(with_reducible exact HR818.out)|(with_reducible refine Kd.C_alloc ?_ _)|(with_reducible refine Kd.C_drewN ?_ _)|(with_reducible refine Kd.C_drew ?_)|exact HR818.out))|(with_reducible refine Kd.C_alloc ?_ _)|(with_reducible refine Kd.C_drewN ?_ _)|(with_reducible refine Kd.C_drew ?_)))
         (case side6=>exact HC818.out)
         (case side7=>exact Kd.C_nil _ _)
         (case side8=>exact Nat.le_refl _)
         rintro e w83 ⟨v820,v823,rfl,ho0,ho1,hb⟩;refine ⟨_,rfl,?_⟩;have n0_:=Aside0.mk (Kd.R_elder' (pR HO_767000.out) (Kd.R_base ho0) hb);have n1_:=Aside0.mk (Kd.R_elder' (pR HO_767001.out) (Kd.R_base ho1) hb);have n2_:=Aside0.mk (Kd.R_elder' (pR HO789.out) (Kd.R_base ho0) hb);have n3_:=Aside0.mk (Kd.R_elder' (pR HO793.out) (Kd.R_base ho0) hb);have n4_:=Aside0.mk (Kd.R_below (pR HO797.out) hb)
         have n5_:=Aside0.mk (Kd.R_lower (Kd.R_new' (Kd.R_new' (Kd.R_new' ho0 (Kd.R_lt (pR HO_767000.out))) (Kd.R_lt (pR HO789.out))) (Kd.R_lt (pR HO793.out))) (keep_size (w:=w) (g:=g) (row:=none) (by repeat (first|(with_reducible first|exact HK.out|apply KeepBut.set_|apply keep_drewN|apply keep_drew|apply keep_alloc|refine keep_far ?_ GW759.out _|refine keep_far ?_ GW766.out _)|exact HK.out))))
         have n6_:=Aside0.mk (Kd.R_lower (Kd.R_new' ho1 (Kd.R_lt (pR HO_767001.out))) (keep_size (w:=w) (g:=g) (row:=none) (by repeat (first|(with_reducible first|exact HK.out|apply KeepBut.set_|apply keep_drewN|apply keep_drew|apply keep_alloc|refine keep_far ?_ GW759.out _|refine keep_far ?_ GW766.out _)|exact HK.out))))
         have n7_:=Aside0.mk (blk_below (pK BK759.out) hb);have n8_:=Aside0.mk (blk_below (pK BK766.out) hb)
         have n9_:=Aside0.mk (IsS110.below (by repeat (first|(with_reducible first|exact HI0.out|apply IsS110.alloc|apply IsS110.drewN|apply IsS110.drew|apply IsS110.set_1|refine IsS110.far ?_ NB0_759.out _|refine IsS110.far ?_ NB0_766.out _)|exact HI0.out)) hb)
         have n10_:=Aside0.mk (Kd.C_below (by repeat (first|(with_reducible exact HR818.out)|(with_reducible refine Kd.C_alloc ?_ _)|(with_reducible refine Kd.C_drewN ?_ _)|(with_reducible refine Kd.C_drew ?_)|exact HR818.out)) hb)
         have n11_:=Aside0.mk (KeepBut.trans (by repeat (first|(with_reducible first|exact HK.out|apply KeepBut.set_|apply keep_drewN|apply keep_drew|apply keep_alloc|refine keep_far ?_ GW759.out _|refine keep_far ?_ GW766.out _)|exact HK.out)) (KeepBut.of_below hb g none) (.inl rfl))
         have n12_:=Aside0.mk (below_step (by repeat (first|(with_reducible first|exact HB.out|apply below_alloc|apply pw_below_drewN|apply below_drew1|refine below_set ?_ (IsS110.ge HI0.out)|refine below_set ?_ GE759.out|refine below_set ?_ GE766.out)|exact HB.out)) hb)
         clear HO_767000;clear HO_767001;clear HO789;clear HO793;clear HO797;clear BK759;clear BK766;clear HI0;clear HR818;clear HK;clear HB;have HO_767000:=n0_;have HO_767001:=n1_;have HO789:=n2_;have HO793:=n3_;have HO797:=n4_;have HO821:=n5_;have HO824:=n6_;have BK759:=n7_;have BK766:=n8_;have HI0:=n9_;have HR818:=n10_;have HK:=n11_;have HB:=n12_;clear n0_ n1_ n2_ n3_ n4_ n5_ n6_ n7_ n8_ n9_ n10_ n11_ n12_
         (try clear hb)
         (try clear hb2)
         (try clear hk)
         (try clear hi)
         (try clear ho0)
         (try clear ho1)
         obtain ⟨Ao84,co84,eo84⟩:=Kd.R_slice HO821.out
         (first|subst eo84|(injection eo84 with f1_ f2_ f3_;have f4_:=f1_.symm;have f5_:=f3_.symm;clear f1_ f2_ f3_;subst f4_;subst f5_))
         obtain ⟨Ao86,co86,eo86⟩:=Kd.R_slice HO824.out
         (first|subst eo86|(injection eo86 with f1_ f2_ f3_;have f4_:=f1_.symm;have f5_:=f3_.symm;clear f1_ f2_ f3_;subst f4_;subst f5_))
         refine hK.out _ _ ⟨(blk_cell BK766.out 0).trans rfl,(blk_cell BK766.out 1).trans rfl⟩ (fun hHeld=>?_);clear hK K;refine norm_ (a':=?_) ?_ ?_;rotate_left
         ·show Act.put _ (some 79) _=_
          simp only [Act.put,List.setIfInBounds_toArray,List.set_cons_zero,List.set_cons_succ,i64_w,i32_w];rfl
         refine one_ (i:=5) (N:=none) #[true,true,true,true,true,true] rfl rfl (by kernel_rfl) (by decide) (fun K hK=>?_)
         have hs85:w83.cell? ⟨gb759,0,none⟩=some (.slice none 0 0):=(blk_cell BK759.out 0).trans rfl;have hfs85:=blk_frozen BK759.out 0;have hns85_1:=NB766_759.out;have hms85_1:=NB759_766.out;have hs87:w83.cell? ⟨gb759,1,none⟩=some (.slice none 0 0):=(blk_cell BK759.out 1).trans rfl;have hfs87:=blk_frozen BK759.out 1;have hns87_1:=NB766_759.out;have hms87_1:=NB759_766.out
         refine skip_ (w1:=?_) (by rfl) rfl ?_ ?_
         rotate_left
         ·go_simp;rfl
         refine hK.out _ _ ⟨((cell_far (p:=⟨gb759,_,none⟩) NB766_759.out _).trans (((cell_far (p:=⟨gb759,_,none⟩) NB766_759.out _).trans (hHeld.1)))),((cell_far (p:=⟨gb759,_,none⟩) NB766_759.out _).trans (((cell_far (p:=⟨gb759,_,none⟩) NB766_759.out _).trans (hHeld.2))))⟩ (fun hHeld=>?_);clear hK K
         refine done_ (by kernel_rfl) ?_
         try go_wp2
         refine bodyPost_ret (results_cell_row rfl _ _ gb759 31 #[.slice Ao84 t819.length co84,.slice Ao86 t822.length co86] (0,0) _ rfl (by (with_reducible repeat (first|refine blk_drewN ?_ _|refine blk_drew ?_|refine blk_alloc ?_ _));refine blk_put (cs:=#[.slice Ao84 t819.length co84,.slice none 0 0]) ?_ 1 _ rfl;(with_reducible repeat (first|refine blk_drewN ?_ _|refine blk_drew ?_|refine blk_alloc ?_ _));refine blk_put (cs:=#[.slice none 0 0,.slice none 0 0]) ?_ 0 _ rfl;(with_reducible repeat (first|refine blk_drewN ?_ _|refine blk_drew ?_|refine blk_alloc ?_ _));exact BK759.out) Try.underlying31 rfl (by kernel_rfl)) rfl ?_
         exact ⟨_,_,by first|rfl|(simp [errW_none,errW_some]<;>rfl)|(simp [*,errW_none,errW_some]<;>rfl),pR (Kd.R_mono (Kd.R_far (p:=⟨gb759,1,none⟩) (Kd.R_far (p:=⟨gb759,0,none⟩) (Kd.R_types HO821.out BK759.out (by decide)) (fun _ hk=>hk.2) (.slice Ao84 t819.length co84)) (fun _ hk=>hk.2) (.slice Ao86 t822.length co86)) (fun _ hk=>trivial)),pR (Kd.R_mono (Kd.R_far (p:=⟨gb759,1,none⟩) (Kd.R_far (p:=⟨gb759,0,none⟩) (Kd.R_types HO824.out BK759.out (by decide)) (fun _ hk=>hk.2) (.slice Ao84 t819.length co84)) (fun _ hk=>hk.2) (.slice Ao86 t822.length co86)) (fun _ hk=>trivial)),by repeat (first|(with_reducible first|exact HI0.out|apply IsS110.alloc|apply IsS110.drewN|apply IsS110.drew|apply IsS110.set_1|refine IsS110.far ?_ NB0_759.out _|refine IsS110.far ?_ NB0_766.out _)|exact HI0.out),by repeat (first|(with_reducible first|exact HB.out|apply below_alloc|apply pw_below_drewN|apply below_drew1|refine below_set ?_ (IsS110.ge HI0.out)|refine below_set ?_ GE759.out|refine below_set ?_ GE766.out)|exact HB.out),by repeat (first|(with_reducible first|exact HK.out|apply KeepBut.set_|apply keep_drewN|apply keep_drew|apply keep_alloc|refine keep_far ?_ GW759.out _|refine keep_far ?_ GW766.out _)|exact HK.out)⟩
        ·rw [if_neg c77] at H
         exact absurd H (by simp)
       ·rw [if_neg c76] at H
        exact absurd H (by simp)
      ·rw [if_neg c74] at H;have c74b0:(t799 == 2)=false:=beq_eq_false_iff_ne.mpr c74;have c74b1:(t799 != 2)=true:=bne_iff_ne.mpr c74;have H':=Aside0.mk H;clear H
       go_wp2
       go_meet
       case rel=>exact ⟨_,(t800),H',⟨by have:=HJ3.out;first|omega|exact Nat.le_refl _⟩,⟨pR HO797.out⟩,⟨pR (Kd.R_mono HO_767000.out (fun _ hk=>trivial))⟩,⟨pR HO_767001.out⟩,⟨pK BK759.out⟩,⟨pK BK766.out⟩,⟨by repeat (first|(with_reducible first|exact HI0.out|apply IsS110.alloc|apply IsS110.drewN|apply IsS110.drew|apply IsS110.set_1|refine IsS110.far ?_ NB0_759.out _|refine IsS110.far ?_ NB0_766.out _)|exact HI0.out)⟩,⟨by repeat (first|(with_reducible first|exact HK.out|apply KeepBut.set_|apply keep_drewN|apply keep_drew|apply keep_alloc|refine keep_far ?_ GW759.out _|refine keep_far ?_ GW766.out _)|exact HK.out)⟩,⟨by repeat (first|(with_reducible first|exact HB.out|apply below_alloc|apply pw_below_drewN|apply below_drew1|refine below_set ?_ (IsS110.ge HI0.out)|refine below_set ?_ GE759.out|refine below_set ?_ GE766.out)|exact HB.out)⟩⟩
   case rest =>
    clear HC41
    (try clear p2)
    (try clear c3)
    (try clear c5)
    (try clear c6)
    (try clear p6)
    (try clear c7)
    (try clear q8)
    (try clear c33)
    (try clear c54)
    (try clear c54b0)
    (try clear c54b1)
    (try clear c55)
    (try clear c56)
    (try clear c58)
    (try clear c60)
    (try clear c60b0)
    (try clear c60b1)
    (try clear p64)
    (try clear c74)
    (try clear c74b0)
    (try clear c74b1)
    (try clear c75)
    (try clear c76)
    (try clear c76b0)
    (try clear c76b1)
    (try clear c77)
    (try clear c77b0)
    (try clear c77b1)
    (try clear c79)
    (try clear q82)
    (try clear hcz57_0)
    (try clear hcz57_1)
    (try clear hcz59_0)
    (try clear hcz59_1)
    (try clear hfz57_0)
    (try clear hfz57_1)
    (try clear hfz59_0)
    (try clear hfz59_1)
    (try clear q82)
    obtain ⟨kq,x1001_40,HA,HJ40,HO_11,HO_767000,HO_767001,BK759,BK766,HI0,HK,HB⟩:=hcut
    cases kq with
    | zero=>exact absurd HA.out (by simp [spec_l72Wal.j3])
    | succ kj40 =>
     have H:=HA.out;clear HA;simp only [spec_l72Wal.j3] at H;replace H:=Option.bind_eq_some_iff.mp H;obtain ⟨⟨t825,t826⟩,A880,H⟩:=H
     (try dsimp only at H)
     have A88:=Aside0.mk A880;clear A880;replace H:=Option.bind_eq_some_iff.mp H;obtain ⟨⟨t827,t830⟩,A890,H⟩:=H
     (try dsimp only at H)
     have A89:=Aside0.mk A890;clear A890;replace H:=Option.bind_eq_some_iff.mp H;obtain ⟨⟨t831,t834⟩,A900,H⟩:=H
     (try dsimp only at H)
     have A90:=Aside0.mk A900;clear A900;simp only [Option.some.injEq,Prod.mk.injEq] at H;obtain ⟨rfl,rfl,rfl⟩:=H
     try go_wp2
     have n0_:=Aside0.mk (Kd.R_drew HO_11.out);have n1_:=Aside0.mk (Kd.R_drew HO_767000.out);have n2_:=Aside0.mk (Kd.R_drew HO_767001.out);have n3_:=Aside0.mk (blk_drew BK759.out);have n4_:=Aside0.mk (blk_drew BK766.out);have n5_:=Aside0.mk (IsS110.drew HI0.out);have n6_:=Aside0.mk (keep_drew HK.out);have n7_:=Aside0.mk (below_drew1 HB.out);clear HO_11;clear HO_767000;clear HO_767001;clear BK759;clear BK766;clear HI0;clear HK;clear HB;have HO_11:=n0_;have HO_767000:=n1_;have HO_767001:=n2_;have BK759:=n3_;have BK766:=n4_;have HI0:=n5_;have HK:=n6_;have HB:=n7_;clear n0_ n1_ n2_ n3_ n4_ n5_ n6_ n7_;obtain ⟨Ao92,co92,eo92⟩:=Kd.R_slice HO_11.out
     (first|subst eo92|(injection eo92 with f1_ f2_ f3_;have f4_:=f1_.symm;have f5_:=f3_.symm;clear f1_ f2_ f3_;subst f4_;subst f5_))
     refine start_ (n:=12) (S:=fun w'=>w'.cell? ⟨gb766,0,none⟩=some (.slice Ao45 x767000_3.length co45)∧w'.cell? ⟨gb766,1,none⟩=some (.slice Ao46 x767001_3.length co46)) (ds:=[]) #[false,false,false,false,false,false,false,false,false,false,false,false] (by kernel_rfl) rfl rfl ⟨(blk_cell BK766.out 0).trans rfl,(blk_cell BK766.out 1).trans rfl⟩ (fun hHeld=>?_);refine with_tabW spec_l72Wal.tab18 spec_l72Wal.bits18 (fun HT_ HW_=>?_)
     generalize wc.drew=w91 at HO_11 HO_767000 HO_767001 BK759 BK766 HI0 HK HB hHeld ⊢
     refine pure_ (i:=1) (N:=some 81) (v:=?_) (a':=?_) #[false,true,false,false,false,false,false,false,false,false,false,false] rfl rfl (any_of HT_.out (by kernel_rfl)) (fun _ _ _ h=>h) (Or.inl ⟨by rfl,?_⟩) ?_ ?_
     rotate_left
     ·intro w';go_simp;with_reducible rfl
     rotate_left
     ·simp only [Act.put,List.setIfInBounds_toArray,List.set_cons_zero,List.set_cons_succ,i64_w,i32_w];rfl
     refine pure_ (i:=2) (N:=some 82) (v:=?_) (a':=?_) #[false,true,true,false,false,false,false,false,false,false,false,false] rfl rfl (any_of HT_.out (by kernel_rfl)) (fun _ _ _ h=>h) (Or.inl ⟨by rfl,?_⟩) ?_ ?_
     rotate_left
     ·intro w';go_simp;with_reducible rfl
     rotate_left
     ·simp only [Act.put,List.setIfInBounds_toArray,List.set_cons_zero,List.set_cons_succ,i64_w,i32_w];rfl
     refine pure_ (i:=3) (N:=some 83) (v:=?_) (a':=?_) #[false,true,true,true,false,false,false,false,false,false,false,false] rfl rfl (any_of HT_.out (by kernel_rfl)) (fun _ _ _ h=>h) (Or.inl ⟨by rfl,?_⟩) ?_ ?_
     rotate_left
     ·intro w';go_simp;with_reducible rfl
     rotate_left
     ·simp only [Act.put,List.setIfInBounds_toArray,List.set_cons_zero,List.set_cons_succ,i64_w,i32_w];rfl
     refine pure_ (i:=4) (N:=some 84) (v:=?_) (a':=?_) #[false,true,true,true,true,false,false,false,false,false,false,false] rfl rfl (any_of HT_.out (by kernel_rfl)) (fun _ _ _ h=>h) (Or.inl ⟨by rfl,?_⟩) ?_ ?_
     rotate_left
     ·intro w';go_simp;with_reducible rfl
     rotate_left
     ·simp only [Act.put,List.setIfInBounds_toArray,List.set_cons_zero,List.set_cons_succ,i64_w,i32_w];rfl
     refine pure_ (i:=5) (N:=some 85) (v:=?_) (a':=?_) #[false,true,true,true,true,true,false,false,false,false,false,false] rfl rfl (any_of HT_.out (by kernel_rfl)) (fun _ _ _ h=>h) (Or.inl ⟨by rfl,?_⟩) ?_ ?_
     rotate_left
     ·intro w';go_simp;with_reducible rfl
     rotate_left
     ·simp only [Act.put,List.setIfInBounds_toArray,List.set_cons_zero,List.set_cons_succ,i64_w,i32_w];rfl
     refine pure_ (i:=8) (N:=some 88) (v:=?_) (a':=?_) #[false,true,true,true,true,true,false,false,true,false,false,false] rfl rfl (any_of HT_.out (by kernel_rfl)) (fun _ _ _ h=>h) (Or.inl ⟨by rfl,?_⟩) ?_ ?_
     rotate_left
     ·intro w';go_simp;with_reducible rfl
     rotate_left
     ·simp only [Act.put,List.setIfInBounds_toArray,List.set_cons_zero,List.set_cons_succ,i64_w,i32_w];rfl
     refine take_ (i:=0) (N:=some 80) (v:=?_) (a':=?_) #[true,true,true,true,true,true,false,false,true,false,false,false] rfl rfl (take_ofW HT_.out HW_.out (by kernel_rfl)) (fun _ _ _ h=>h) (Or.inl ⟨by rfl,?_⟩) hHeld ?_ ?_
     rotate_left
     ·rintro w' ⟨s0,s1⟩;go_simp;with_reducible rfl
     rotate_left
     ·simp only [Act.put,List.setIfInBounds_toArray,List.set_cons_zero,List.set_cons_succ,i64_w,i32_w];rfl
     refine one_ (i:=6) (N:=some 86) #[true,true,true,true,true,true,true,false,true,false,false,false] rfl rfl (one_of HT_.out (by kernel_rfl)) (by decide) (fun K hK=>?_)
     refine goes_ Try.func75 (by kernel_rfl) rfl #[.pointer (some ⟨g,0,none⟩),.int .i64 4] (by rfl) rfl rfl bM ?_
     with_reducible refine (spec_l6Rd_pick.calls kj40 g s0_0 x1001_40 4 t825 t826 w0 _ ?side1 ?side2 A88.out).mono ?_
     (case side1=>repeat (first|(with_reducible first|exact HI0.out|apply IsS110.alloc|apply IsS110.drewN|apply IsS110.drew|apply IsS110.set_1|refine IsS110.far ?_ NB0_759.out _|refine IsS110.far ?_ NB0_766.out _)|exact HI0.out))
     (case side2=>repeat (first|(with_reducible first|exact HB.out|apply below_alloc|apply pw_below_drewN|apply below_drew1|refine below_set ?_ (IsS110.ge HI0.out)|refine below_set ?_ GE759.out|refine below_set ?_ GE766.out)|exact HB.out))
     rintro e w93 ⟨rfl,hi,hb,hk⟩;refine ⟨_,rfl,?_⟩
     have n0_:=Aside0.mk (Kd.R_mono (Kd.R_keep (IsS110.apart (show IsS110 w0 _ g s0_0 x1001_40 from by repeat (first|(with_reducible first|exact HI0.out|apply IsS110.alloc|apply IsS110.drewN|apply IsS110.drew|apply IsS110.set_1|refine IsS110.far ?_ NB0_759.out _|refine IsS110.far ?_ NB0_766.out _)|exact HI0.out)) (pR HO_11.out) (by decide)) hk (fun _ h=>h.2)) (fun _ h=>h.1))
     have n1_:=Aside0.mk (Kd.R_mono (Kd.R_keep (IsS110.apart (show IsS110 w0 _ g s0_0 x1001_40 from by repeat (first|(with_reducible first|exact HI0.out|apply IsS110.alloc|apply IsS110.drewN|apply IsS110.drew|apply IsS110.set_1|refine IsS110.far ?_ NB0_759.out _|refine IsS110.far ?_ NB0_766.out _)|exact HI0.out)) (pR HO_767000.out) (by decide)) hk (fun _ h=>h.2)) (fun _ h=>h.1))
     have n2_:=Aside0.mk (Kd.R_mono (Kd.R_keep (IsS110.apart (show IsS110 w0 _ g s0_0 x1001_40 from by repeat (first|(with_reducible first|exact HI0.out|apply IsS110.alloc|apply IsS110.drewN|apply IsS110.drew|apply IsS110.set_1|refine IsS110.far ?_ NB0_759.out _|refine IsS110.far ?_ NB0_766.out _)|exact HI0.out)) (pR HO_767001.out) (by decide)) hk (fun _ h=>h.2)) (fun _ h=>h.1))
     have n3_:=Aside0.mk (KeepBut.blk hk (g':=gb759) (o:=.cells #[.slice none 0 0,.slice none 0 0] 31 (0,0)) (pK BK759.out) NB759_0.out (by simp))
     have n4_:=Aside0.mk (KeepBut.blk hk (g':=gb766) (o:=.cells #[.slice Ao45 x767000_3.length co45,.slice Ao46 x767001_3.length co46] 31 (0,0)) (pK BK766.out) NB766_0.out (by simp))
     have n5_:=Aside0.mk (KeepBut.trans (by repeat (first|(with_reducible first|exact HK.out|apply KeepBut.set_|apply keep_drewN|apply keep_drew|apply keep_alloc|refine keep_far ?_ GW759.out _|refine keep_far ?_ GW766.out _)|exact HK.out)) hk (.inl rfl))
     have n6_:=Aside0.mk (hb);have n7_:=Aside0.mk (hi);clear HO_11;clear HO_767000;clear HO_767001;clear BK759;clear BK766;clear HK;clear HB;clear HI0;have HO_11:=n0_;have HO_767000:=n1_;have HO_767001:=n2_;have BK759:=n3_;have BK766:=n4_;have HK:=n5_;have HB:=n6_;have HI0:=n7_;clear n0_ n1_ n2_ n3_ n4_ n5_ n6_ n7_
     (try clear hb)
     (try clear hb2)
     (try clear hk)
     (try clear hi)
     refine hK.out _ _ ⟨(blk_cell BK766.out 0).trans rfl,(blk_cell BK766.out 1).trans rfl⟩ (fun hHeld=>?_);clear hK K;refine norm_ (a':=?_) ?_ ?_;rotate_left
     ·show Act.put _ (some 86) _=_
      simp only [Act.put,List.setIfInBounds_toArray,List.set_cons_zero,List.set_cons_succ,i64_w,i32_w];rfl
     refine pure_ (i:=7) (N:=some 87) (v:=?_) (a':=?_) #[true,true,true,true,true,true,true,true,true,false,false,false] rfl rfl (any_of HT_.out (by kernel_rfl)) (fun _ _ _ h=>h) (Or.inl ⟨by rfl,?_⟩) ?_ ?_
     rotate_left
     ·intro w';go_simp;with_reducible rfl
     rotate_left
     ·simp only [Act.put,List.setIfInBounds_toArray,List.set_cons_zero,List.set_cons_succ,i64_w,i32_w];rfl
     refine one_ (i:=9) (N:=some 89) #[true,true,true,true,true,true,true,true,true,true,false,false] rfl rfl (one_of HT_.out (by kernel_rfl)) (by decide) (fun K hK=>?_)
     refine goes_ Try.func79 (by kernel_rfl) rfl #[.pointer (some ⟨g,0,none⟩),.int .i64 8] (by rfl) rfl rfl bM ?_
     with_reducible refine (spec_l72Bits.calls kj40 g s0_0 t826 8 t827 t830 w0 _ ?side1 ?side2 A89.out).mono ?_
     (case side1=>repeat (first|(with_reducible first|exact HI0.out|apply IsS110.alloc|apply IsS110.drewN|apply IsS110.drew|apply IsS110.set_1|refine IsS110.far ?_ NB0_759.out _|refine IsS110.far ?_ NB0_766.out _)|exact HI0.out))
     (case side2=>repeat (first|(with_reducible first|exact HB.out|apply below_alloc|apply pw_below_drewN|apply below_drew1|refine below_set ?_ (IsS110.ge HI0.out)|refine below_set ?_ GE759.out|refine below_set ?_ GE766.out)|exact HB.out))
     rintro e w94 ⟨v828,rfl,ho0,hi,hb,hk⟩;refine ⟨_,rfl,?_⟩
     have n0_:=Aside0.mk (Kd.R_mono (Kd.R_keep (IsS110.apart (show IsS110 w0 _ g s0_0 t826 from by repeat (first|(with_reducible first|exact HI0.out|apply IsS110.alloc|apply IsS110.drewN|apply IsS110.drew|apply IsS110.set_1|refine IsS110.far ?_ NB0_759.out _|refine IsS110.far ?_ NB0_766.out _)|exact HI0.out)) (pR HO_11.out) (by decide)) hk (fun _ h=>h.2)) (fun _ h=>h.1))
     have n1_:=Aside0.mk (Kd.R_mono (Kd.R_keep (IsS110.apart (show IsS110 w0 _ g s0_0 t826 from by repeat (first|(with_reducible first|exact HI0.out|apply IsS110.alloc|apply IsS110.drewN|apply IsS110.drew|apply IsS110.set_1|refine IsS110.far ?_ NB0_759.out _|refine IsS110.far ?_ NB0_766.out _)|exact HI0.out)) (pR HO_767000.out) (by decide)) hk (fun _ h=>h.2)) (fun _ h=>h.1))
     have n2_:=Aside0.mk (Kd.R_mono (Kd.R_keep (IsS110.apart (show IsS110 w0 _ g s0_0 t826 from by repeat (first|(with_reducible first|exact HI0.out|apply IsS110.alloc|apply IsS110.drewN|apply IsS110.drew|apply IsS110.set_1|refine IsS110.far ?_ NB0_759.out _|refine IsS110.far ?_ NB0_766.out _)|exact HI0.out)) (pR HO_767001.out) (by decide)) hk (fun _ h=>h.2)) (fun _ h=>h.1))
     have n3_:=Aside0.mk (KeepBut.blk hk (g':=gb759) (o:=.cells #[.slice none 0 0,.slice none 0 0] 31 (0,0)) (pK BK759.out) NB759_0.out (by simp))
     have n4_:=Aside0.mk (KeepBut.blk hk (g':=gb766) (o:=.cells #[.slice Ao45 x767000_3.length co45,.slice Ao46 x767001_3.length co46] 31 (0,0)) (pK BK766.out) NB766_0.out (by simp))
     have n5_:=Aside0.mk (Kd.R_lower ho0 (keep_size (w:=w) (g:=g) (row:=none) (by repeat (first|(with_reducible first|exact HK.out|apply KeepBut.set_|apply keep_drewN|apply keep_drew|apply keep_alloc|refine keep_far ?_ GW759.out _|refine keep_far ?_ GW766.out _)|exact HK.out))))
     have n6_:=Aside0.mk (KeepBut.trans (by repeat (first|(with_reducible first|exact HK.out|apply KeepBut.set_|apply keep_drewN|apply keep_drew|apply keep_alloc|refine keep_far ?_ GW759.out _|refine keep_far ?_ GW766.out _)|exact HK.out)) hk (.inl rfl))
     have n7_:=Aside0.mk (hb);have n8_:=Aside0.mk (hi);clear HO_11;clear HO_767000;clear HO_767001;clear BK759;clear BK766;clear HK;clear HB;clear HI0;have HO_11:=n0_;have HO_767000:=n1_;have HO_767001:=n2_;have BK759:=n3_;have BK766:=n4_;have HO829:=n5_;have HK:=n6_;have HB:=n7_;have HI0:=n8_;clear n0_ n1_ n2_ n3_ n4_ n5_ n6_ n7_ n8_
     (try clear hb)
     (try clear hb2)
     (try clear hk)
     (try clear hi)
     (try clear ho0)
     obtain ⟨Ao95,co95,eo95⟩:=Kd.R_slice HO829.out
     (first|subst eo95|(injection eo95 with f1_ f2_ f3_;have f4_:=f1_.symm;have f5_:=f3_.symm;clear f1_ f2_ f3_;subst f4_;subst f5_))
     refine hK.out _ _ ⟨(blk_cell BK766.out 0).trans rfl,(blk_cell BK766.out 1).trans rfl⟩ (fun hHeld=>?_);clear hK K;refine norm_ (a':=?_) ?_ ?_;rotate_left
     ·show Act.put _ (some 89) _=_
      simp only [Act.put,List.setIfInBounds_toArray,List.set_cons_zero,List.set_cons_succ,i64_w,i32_w];rfl
     refine one_ (i:=10) (N:=some 90) #[true,true,true,true,true,true,true,true,true,true,true,false] rfl rfl (one_of HT_.out (by kernel_rfl)) (by decide) (fun K hK=>?_)
     refine goes_ Try.func33 (by kernel_rfl) rfl #[.agg #[.slice Ao45 x767000_3.length co45,.slice Ao46 x767001_3.length co46],.slice Ao92 t795.length co92,.bool true,.int .i64 (wrap64 ((wrap64 ((t795.length:Int) - 1)) - t825)),.slice Ao95 t827.length co95] (by rfl) rfl rfl bM ?_
     with_reducible refine (spec_WalDo.calls kj40 _ _ x767000_3 _ _ x767001_3 _ _ t795 true (wrap64 ((wrap64 ((t795.length:Int) - 1)) - t825)) _ _ t827 t831 t834 _ ?side1 ?side2 ?side3 ?side4 ?side5 ?side6 ?side7 ?side8 A90.out).mono ?_
     (case side1=>exact pC (Kd.R_reads' HO_767000.out).2.2)
     (case side2=>exact (Kd.R_reads' HO_767000.out).2.1)
     (case side3=>exact pC (Kd.R_reads' HO_767001.out).2.2)
     (case side4=>exact (Kd.R_reads' HO_767001.out).2.1)
     (case side5=>exact pC (Kd.R_reads' HO_11.out).2.2)
     (case side6=>exact (Kd.R_reads' HO_11.out).2.1)
     (case side7=>exact pC (Kd.R_reads' HO829.out).2.2)
     (case side8=>exact (Kd.R_reads' HO829.out).2.1)
     rintro e w96 ⟨v832,v835,rfl,ho0,ho1,hb⟩;refine ⟨_,rfl,?_⟩;have n0_:=Aside0.mk (Kd.R_below (pR HO_11.out) hb);have n1_:=Aside0.mk (Kd.R_elder' (pR HO_767000.out) (Kd.R_base ho0) hb);have n2_:=Aside0.mk (Kd.R_elder' (pR HO_767001.out) (Kd.R_base ho1) hb);have n3_:=Aside0.mk (Kd.R_below (pR HO829.out) hb)
     have n4_:=Aside0.mk (Kd.R_lower (Kd.R_new' ho0 (Kd.R_lt (pR HO_767000.out))) (keep_size (w:=w) (g:=g) (row:=none) (by repeat (first|(with_reducible first|exact HK.out|apply KeepBut.set_|apply keep_drewN|apply keep_drew|apply keep_alloc|refine keep_far ?_ GW759.out _|refine keep_far ?_ GW766.out _)|exact HK.out))))
     have n5_:=Aside0.mk (Kd.R_lower (Kd.R_new' ho1 (Kd.R_lt (pR HO_767001.out))) (keep_size (w:=w) (g:=g) (row:=none) (by repeat (first|(with_reducible first|exact HK.out|apply KeepBut.set_|apply keep_drewN|apply keep_drew|apply keep_alloc|refine keep_far ?_ GW759.out _|refine keep_far ?_ GW766.out _)|exact HK.out))))
     have n6_:=Aside0.mk (blk_below (pK BK759.out) hb);have n7_:=Aside0.mk (blk_below (pK BK766.out) hb)
     have n8_:=Aside0.mk (IsS110.below (by repeat (first|(with_reducible first|exact HI0.out|apply IsS110.alloc|apply IsS110.drewN|apply IsS110.drew|apply IsS110.set_1|refine IsS110.far ?_ NB0_759.out _|refine IsS110.far ?_ NB0_766.out _)|exact HI0.out)) hb)
     have n9_:=Aside0.mk (KeepBut.trans (by repeat (first|(with_reducible first|exact HK.out|apply KeepBut.set_|apply keep_drewN|apply keep_drew|apply keep_alloc|refine keep_far ?_ GW759.out _|refine keep_far ?_ GW766.out _)|exact HK.out)) (KeepBut.of_below hb g none) (.inl rfl))
     have n10_:=Aside0.mk (below_step (by repeat (first|(with_reducible first|exact HB.out|apply below_alloc|apply pw_below_drewN|apply below_drew1|refine below_set ?_ (IsS110.ge HI0.out)|refine below_set ?_ GE759.out|refine below_set ?_ GE766.out)|exact HB.out)) hb)
     clear HO_11;clear HO_767000;clear HO_767001;clear HO829;clear BK759;clear BK766;clear HI0;clear HK;clear HB;have HO_11:=n0_;have HO_767000:=n1_;have HO_767001:=n2_;have HO829:=n3_;have HO833:=n4_;have HO836:=n5_;have BK759:=n6_;have BK766:=n7_;have HI0:=n8_;have HK:=n9_;have HB:=n10_;clear n0_ n1_ n2_ n3_ n4_ n5_ n6_ n7_ n8_ n9_ n10_
     (try clear hb)
     (try clear hb2)
     (try clear hk)
     (try clear hi)
     (try clear ho0)
     (try clear ho1)
     obtain ⟨Ao97,co97,eo97⟩:=Kd.R_slice HO833.out
     (first|subst eo97|(injection eo97 with f1_ f2_ f3_;have f4_:=f1_.symm;have f5_:=f3_.symm;clear f1_ f2_ f3_;subst f4_;subst f5_))
     obtain ⟨Ao99,co99,eo99⟩:=Kd.R_slice HO836.out
     (first|subst eo99|(injection eo99 with f1_ f2_ f3_;have f4_:=f1_.symm;have f5_:=f3_.symm;clear f1_ f2_ f3_;subst f4_;subst f5_))
     refine hK.out _ _ ⟨(blk_cell BK766.out 0).trans rfl,(blk_cell BK766.out 1).trans rfl⟩ (fun hHeld=>?_);clear hK K;refine norm_ (a':=?_) ?_ ?_;rotate_left
     ·show Act.put _ (some 90) _=_
      simp only [Act.put,List.setIfInBounds_toArray,List.set_cons_zero,List.set_cons_succ,i64_w,i32_w];rfl
     refine one_ (i:=11) (N:=none) #[true,true,true,true,true,true,true,true,true,true,true,true] rfl rfl (one_of HT_.out (by kernel_rfl)) (by decide) (fun K hK=>?_)
     have hs98:w96.cell? ⟨gb759,0,none⟩=some (.slice none 0 0):=(blk_cell BK759.out 0).trans rfl;have hfs98:=blk_frozen BK759.out 0;have hns98_1:=NB766_759.out;have hms98_1:=NB759_766.out;have hs100:w96.cell? ⟨gb759,1,none⟩=some (.slice none 0 0):=(blk_cell BK759.out 1).trans rfl;have hfs100:=blk_frozen BK759.out 1;have hns100_1:=NB766_759.out;have hms100_1:=NB759_766.out
     refine skip_ (w1:=?_) (by rfl) rfl ?_ ?_
     rotate_left
     ·go_simp;rfl
     refine hK.out _ _ ⟨((cell_far (p:=⟨gb759,_,none⟩) NB766_759.out _).trans (((cell_far (p:=⟨gb759,_,none⟩) NB766_759.out _).trans (hHeld.1)))),((cell_far (p:=⟨gb759,_,none⟩) NB766_759.out _).trans (((cell_far (p:=⟨gb759,_,none⟩) NB766_759.out _).trans (hHeld.2))))⟩ (fun hHeld=>?_);clear hK K
     refine done_ (done_of HT_.out (by kernel_rfl)) ?_
     try go_wp2
     refine bodyPost_ret (results_cell_row rfl _ _ gb759 31 #[.slice Ao97 t831.length co97,.slice Ao99 t834.length co99] (0,0) _ rfl (by (with_reducible repeat (first|refine blk_drewN ?_ _|refine blk_drew ?_|refine blk_alloc ?_ _));refine blk_put (cs:=#[.slice Ao97 t831.length co97,.slice none 0 0]) ?_ 1 _ rfl;(with_reducible repeat (first|refine blk_drewN ?_ _|refine blk_drew ?_|refine blk_alloc ?_ _));refine blk_put (cs:=#[.slice none 0 0,.slice none 0 0]) ?_ 0 _ rfl;(with_reducible repeat (first|refine blk_drewN ?_ _|refine blk_drew ?_|refine blk_alloc ?_ _));exact BK759.out) Try.underlying31 rfl (by kernel_rfl)) rfl ?_
     exact ⟨_,_,by first|rfl|(simp [errW_none,errW_some]<;>rfl)|(simp [*,errW_none,errW_some]<;>rfl),pR (Kd.R_mono (Kd.R_far (p:=⟨gb759,1,none⟩) (Kd.R_far (p:=⟨gb759,0,none⟩) (Kd.R_types HO833.out BK759.out (by decide)) (fun _ hk=>hk.2) (.slice Ao97 t831.length co97)) (fun _ hk=>hk.2) (.slice Ao99 t834.length co99)) (fun _ hk=>trivial)),pR (Kd.R_mono (Kd.R_far (p:=⟨gb759,1,none⟩) (Kd.R_far (p:=⟨gb759,0,none⟩) (Kd.R_types HO836.out BK759.out (by decide)) (fun _ hk=>hk.2) (.slice Ao97 t831.length co97)) (fun _ hk=>hk.2) (.slice Ao99 t834.length co99)) (fun _ hk=>trivial)),by repeat (first|(with_reducible first|exact HI0.out|apply IsS110.alloc|apply IsS110.drewN|apply IsS110.drew|apply IsS110.set_1|refine IsS110.far ?_ NB0_759.out _|refine IsS110.far ?_ NB0_766.out _)|exact HI0.out),by repeat (first|(with_reducible first|exact HB.out|apply below_alloc|apply pw_below_drewN|apply below_drew1|refine below_set ?_ (IsS110.ge HI0.out)|refine below_set ?_ GE759.out|refine below_set ?_ GE766.out)|exact HB.out),by repeat (first|(with_reducible first|exact HK.out|apply KeepBut.set_|apply keep_drewN|apply keep_drew|apply keep_alloc|refine keep_far ?_ GW759.out _|refine keep_far ?_ GW766.out _)|exact HK.out)⟩

end Go.Proofs.Ythjocaegapchaaa.P
