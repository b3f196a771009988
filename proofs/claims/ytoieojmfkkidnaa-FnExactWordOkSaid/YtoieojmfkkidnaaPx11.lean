-- printed by pprint.py (this session's program over the kit's printer) out of the translation. Lean checks it.
import Derived.Test.YtoieojmfkkidnaaPx0
import Derived.Test.YtoieojmfkkidnaaPx9
namespace Go.Proofs.Ytoieojmfkkidnaa.P
open Go.RowKit Go.Proofs.YtoieojmfkkidnaaX Go.Proofs.YtoieojmfkkidnaaW.PrintWords Go.Proofs.YtoieojmfkkidnaaW.PrintLast Go.Proofs.YtoieojmfkkidnaaW.PrintMore
attribute [local go_sem] max2_int min2_int max_two min_two max_three min_three max_four min_four   -- for this text's walks alone
set_option linter.unusedVariables false
set_option linter.unusedSimpArgs false

/-! ### laws_eqBlkPiece: function 134 -/
def laws_eqBlkPiece.f (a0_0 : Int) (a0_1 : Int) (a0_2 : Int) (a0_3 : Int) (a1_0 : Int) (a1_1 : Int) (a1_2 : Int) (a1_3 : Int) : Option (Bool) := if a0_0 = a1_0 then (if a0_1 = a1_1 then (if a0_2 = a1_2 then (if a0_3 = a1_3 then (some true) else (some false)) else (some false)) else (some false)) else (some false)
set_option maxHeartbeats 8000000 in
set_option maxRecDepth 100000 in
theorem laws_eqBlkPiece.calls {a0_0 : Int} {a0_1 : Int} {a0_2 : Int} {a0_3 : Int} {a1_0 : Int} {a1_1 : Int} {a1_2 : Int} {a1_3 : Int} {r : Bool} {w : World} (h : laws_eqBlkPiece.f a0_0 a0_1 a0_2 a0_3 a1_0 a1_1 a1_2 a1_3 = some r) :
  Calls Try.prog 134 #[.agg #[.int .i64 a0_0,.int .i64 a0_1,.int .i64 a0_2,.int .i64 a0_3],.agg #[.int .i64 a1_0,.int .i64 a1_1,.int .i64 a1_2,.int .i64 a1_3]] w fun e w'=>e=.returned (.bool r)∧Below w.heap.size w w':=by
 have hu138:=Try.underlying138;have HB:=mA (Below.refl w.heap.size w);have H:(if a0_0=a1_0 then (if a0_1=a1_1 then (if a0_2=a1_2 then (if a0_3=a1_3 then (some true) else (some false)) else (some false)) else (some false)) else (some false))=some r:=h;clear h
 by_cases c3:a0_0=a1_0
 ·rw [if_pos c3] at H;obtain ⟨c3b0,c3b1⟩:=eqB c3;clear c3
  by_cases c4:a0_1=a1_1
  ·rw [if_pos c4] at H;obtain ⟨c4b0,c4b1⟩:=eqB c4;clear c4
   by_cases c5:a0_2=a1_2
   ·rw [if_pos c5] at H;obtain ⟨c5b0,c5b1⟩:=eqB c5;clear c5
    by_cases c6:a0_3=a1_3
    ·rw [if_pos c6] at H;obtain ⟨c6b0,c6b1⟩:=eqB c6;clear c6;obtain rfl:=Option.some.inj H
     go_enter Try.func134,Try.ntmps134
     go_wp2_with (first|((with_reducible refine gT 2 rfl ?_);refine bE 2 #[.int .i64 a0_0,.int .i64 a0_1,.int .i64 a0_2,.int .i64 a0_3] 138 ?_;intro gb679 hg w7 hbox hb;have BK679:=mA hbox;have GW679:=gbpB HB hg;have GE679:=gbpB HB hg;replace HB:=spB HB hb;clear hb hbox hg)|((with_reducible refine gT 3 rfl ?_);refine bE 3 #[.int .i64 a1_0,.int .i64 a1_1,.int .i64 a1_2,.int .i64 a1_3] 138 ?_;intro gb680 hg w8 hbox hb;have BK680:=mA hbox;have GW680:=gbpS HB hg;have GE680:=gbpS HB hg;replace HB:=spS HB hb;have NB679_680:=mA (lN (blk_lt (pK BK679.out)) hg);have NB680_679:=nS NB679_680;replace BK679:=bK BK679 hb;clear hb hbox hg;have hnb9:=NB679_680.out;have hnc9:=NB680_679.out;obtain ⟨hcz10_0,hcz10_1,hcz10_2,hcz10_3,hfz10_0,hfz10_1,hfz10_2,hfz10_3⟩:=box4 BK679.out;obtain ⟨hcz11_0,hcz11_1,hcz11_2,hcz11_3,hfz11_0,hfz11_1,hfz11_2,hfz11_3⟩:=box4 BK680.out))
     go_ret
     exact rZ (pS HB.out)
    ·rw [if_neg c6] at H;have c6b0:(a0_3 == a1_3)=false:=beq_eq_false_iff_ne.mpr c6;have c6b1:(a0_3 != a1_3)=true:=bne_iff_ne.mpr c6;obtain rfl:=Option.some.inj H
     go_enter Try.func134,Try.ntmps134
     go_wp2_with (first|((with_reducible refine gT 2 rfl ?_);refine bE 2 #[.int .i64 a0_0,.int .i64 a0_1,.int .i64 a0_2,.int .i64 a0_3] 138 ?_;intro gb679 hg w12 hbox hb;have BK679:=mA hbox;have GW679:=gbpB HB hg;have GE679:=gbpB HB hg;replace HB:=spB HB hb;clear hb hbox hg)|((with_reducible refine gT 3 rfl ?_);refine bE 3 #[.int .i64 a1_0,.int .i64 a1_1,.int .i64 a1_2,.int .i64 a1_3] 138 ?_;intro gb680 hg w13 hbox hb;have BK680:=mA hbox;have GW680:=gbpS HB hg;have GE680:=gbpS HB hg;replace HB:=spS HB hb;have NB679_680:=mA (lN (blk_lt (pK BK679.out)) hg);have NB680_679:=nS NB679_680;replace BK679:=bK BK679 hb;clear hb hbox hg;have hnb14:=NB679_680.out;have hnc14:=NB680_679.out;obtain ⟨hcz15_0,hcz15_1,hcz15_2,hcz15_3,hfz15_0,hfz15_1,hfz15_2,hfz15_3⟩:=box4 BK679.out;obtain ⟨hcz16_0,hcz16_1,hcz16_2,hcz16_3,hfz16_0,hfz16_1,hfz16_2,hfz16_3⟩:=box4 BK680.out))
     go_ret
     exact rZ (pS HB.out)
   ·rw [if_neg c5] at H;have c5b0:(a0_2 == a1_2)=false:=beq_eq_false_iff_ne.mpr c5;have c5b1:(a0_2 != a1_2)=true:=bne_iff_ne.mpr c5;obtain rfl:=Option.some.inj H
    go_enter Try.func134,Try.ntmps134
    go_wp2_with (first|((with_reducible refine gT 2 rfl ?_);refine bE 2 #[.int .i64 a0_0,.int .i64 a0_1,.int .i64 a0_2,.int .i64 a0_3] 138 ?_;intro gb679 hg w17 hbox hb;have BK679:=mA hbox;have GW679:=gbpB HB hg;have GE679:=gbpB HB hg;replace HB:=spB HB hb;clear hb hbox hg)|((with_reducible refine gT 3 rfl ?_);refine bE 3 #[.int .i64 a1_0,.int .i64 a1_1,.int .i64 a1_2,.int .i64 a1_3] 138 ?_;intro gb680 hg w18 hbox hb;have BK680:=mA hbox;have GW680:=gbpS HB hg;have GE680:=gbpS HB hg;replace HB:=spS HB hb;have NB679_680:=mA (lN (blk_lt (pK BK679.out)) hg);have NB680_679:=nS NB679_680;replace BK679:=bK BK679 hb;clear hb hbox hg;have hnb19:=NB679_680.out;have hnc19:=NB680_679.out;obtain ⟨hcz20_0,hcz20_1,hcz20_2,hcz20_3,hfz20_0,hfz20_1,hfz20_2,hfz20_3⟩:=box4 BK679.out;obtain ⟨hcz21_0,hcz21_1,hcz21_2,hcz21_3,hfz21_0,hfz21_1,hfz21_2,hfz21_3⟩:=box4 BK680.out))
    go_ret
    exact rZ (pS HB.out)
  ·rw [if_neg c4] at H;have c4b0:(a0_1 == a1_1)=false:=beq_eq_false_iff_ne.mpr c4;have c4b1:(a0_1 != a1_1)=true:=bne_iff_ne.mpr c4;obtain rfl:=Option.some.inj H
   go_enter Try.func134,Try.ntmps134
   go_wp2_with (first|((with_reducible refine gT 2 rfl ?_);refine bE 2 #[.int .i64 a0_0,.int .i64 a0_1,.int .i64 a0_2,.int .i64 a0_3] 138 ?_;intro gb679 hg w22 hbox hb;have BK679:=mA hbox;have GW679:=gbpB HB hg;have GE679:=gbpB HB hg;replace HB:=spB HB hb;clear hb hbox hg)|((with_reducible refine gT 3 rfl ?_);refine bE 3 #[.int .i64 a1_0,.int .i64 a1_1,.int .i64 a1_2,.int .i64 a1_3] 138 ?_;intro gb680 hg w23 hbox hb;have BK680:=mA hbox;have GW680:=gbpS HB hg;have GE680:=gbpS HB hg;replace HB:=spS HB hb;have NB679_680:=mA (lN (blk_lt (pK BK679.out)) hg);have NB680_679:=nS NB679_680;replace BK679:=bK BK679 hb;clear hb hbox hg;have hnb24:=NB679_680.out;have hnc24:=NB680_679.out;obtain ⟨hcz25_0,hcz25_1,hcz25_2,hcz25_3,hfz25_0,hfz25_1,hfz25_2,hfz25_3⟩:=box4 BK679.out;obtain ⟨hcz26_0,hcz26_1,hcz26_2,hcz26_3,hfz26_0,hfz26_1,hfz26_2,hfz26_3⟩:=box4 BK680.out))
   go_ret
   exact rZ (pS HB.out)
 ·rw [if_neg c3] at H;have c3b0:(a0_0 == a1_0)=false:=beq_eq_false_iff_ne.mpr c3;have c3b1:(a0_0 != a1_0)=true:=bne_iff_ne.mpr c3;obtain rfl:=Option.some.inj H
  go_enter Try.func134,Try.ntmps134
  go_wp2_with (first|((with_reducible refine gT 2 rfl ?_);refine bE 2 #[.int .i64 a0_0,.int .i64 a0_1,.int .i64 a0_2,.int .i64 a0_3] 138 ?_;intro gb679 hg w27 hbox hb;have BK679:=mA hbox;have GW679:=gbpB HB hg;have GE679:=gbpB HB hg;replace HB:=spB HB hb;clear hb hbox hg)|((with_reducible refine gT 3 rfl ?_);refine bE 3 #[.int .i64 a1_0,.int .i64 a1_1,.int .i64 a1_2,.int .i64 a1_3] 138 ?_;intro gb680 hg w28 hbox hb;have BK680:=mA hbox;have GW680:=gbpS HB hg;have GE680:=gbpS HB hg;replace HB:=spS HB hb;have NB679_680:=mA (lN (blk_lt (pK BK679.out)) hg);have NB680_679:=nS NB679_680;replace BK679:=bK BK679 hb;clear hb hbox hg;have hnb29:=NB679_680.out;have hnc29:=NB680_679.out;obtain ⟨hcz30_0,hcz30_1,hcz30_2,hcz30_3,hfz30_0,hfz30_1,hfz30_2,hfz30_3⟩:=box4 BK679.out;obtain ⟨hcz31_0,hcz31_1,hcz31_2,hcz31_3,hfz31_0,hfz31_1,hfz31_2,hfz31_3⟩:=box4 BK680.out))
  go_ret
  exact rZ (pS HB.out)

/-! ### laws_eqBlkPieceS: function 81 -/
def laws_eqBlkPieceS.l0 : Nat → List (S138) → List (S138) → Int → Option (Bool)
 | 0,_,_,_=>none
 | k+1,x0,x1,x5=>if x5<(x0.length:Int) then (if 0≤x5 then (if x5<(x1.length:Int) then ((laws_eqBlkPiece.f ((rd_T138 x0 x5).f0) ((rd_T138 x0 x5).f1) ((rd_T138 x0 x5).f2) ((rd_T138 x0 x5).f3) ((rd_T138 x1 x5).f0) ((rd_T138 x1 x5).f1) ((rd_T138 x1 x5).f2) ((rd_T138 x1 x5).f3)).bind fun t683=>(if t683=true then (laws_eqBlkPieceS.l0 k x0 x1 (wrap64 (x5+1))) else (some false))) else (none)) else (none)) else (some true)
def laws_eqBlkPieceS.f (k : Nat) (l0 : List (S138)) (l1 : List (S138)) : Option (Bool) := if (l0.length : Int) = (l1.length : Int) then (laws_eqBlkPieceS.l0 k l0 l1 0) else (some false)
theorem laws_eqBlkPieceS.mono_l : ∀ k, (∀ y0 y1 y2, LeO (laws_eqBlkPieceS.l0 k y0 y1 y2) (laws_eqBlkPieceS.l0 (k + 1) y0 y1 y2))
 | 0=>fun _ _ _ r h=>by simp [laws_eqBlkPieceS.l0] at h
 | k+1=>by
  have ih0:=laws_eqBlkPieceS.mono_l k
  ·intros
   unfold laws_eqBlkPieceS.l0
   repeat' first
   | (with_reducible first|apply ih0|exact LeO.refl _|exact LeO.none _|refine LeO.ite ?_ ?_|refine LeO.bind ?_ (fun _=>?_))|exact LeO.none _|refine LeO.ite ?_ ?_|refine LeO.bind ?_ (fun _=>?_)
theorem laws_eqBlkPieceS.mono : ∀ a0 a1 k, LeO (laws_eqBlkPieceS.f k a0 a1) (laws_eqBlkPieceS.f (k + 1) a0 a1) := by
 intro a0 a1 k;have ih0:=laws_eqBlkPieceS.mono_l k
 unfold laws_eqBlkPieceS.f
 repeat' first
   | (with_reducible first|apply ih0|exact LeO.refl _|exact LeO.none _|refine LeO.ite ?_ ?_|refine LeO.bind ?_ (fun _=>?_))|exact LeO.none _|refine LeO.ite ?_ ?_|refine LeO.bind ?_ (fun _=>?_)
def laws_eqBlkPieceS.T6 : Bool × List (List Nat × List Nat) := (true, [([], []), ([], []), ([0, 1], [0, 1]), ([2], [2]), ([], []), ([], []), ([4, 5], [4, 5]), ([6], [6]), ([3, 7], [3, 7]), ([8], [8])])
def laws_eqBlkPieceS.B6 : List Nat := [0, 0, 3, 7, 0, 0, 48, 112, 255, 511]
theorem laws_eqBlkPieceS.tab6 : rtab .any (opsOf Try.f81 6) = laws_eqBlkPieceS.T6 := by kernel_rfl
theorem laws_eqBlkPieceS.bits6 : waitsOk laws_eqBlkPieceS.T6.2 laws_eqBlkPieceS.B6 = true := by kernel_rfl
set_option maxHeartbeats 8000000 in
set_option maxRecDepth 100000 in
theorem laws_eqBlkPieceS.calls {k : Nat} {A0 : Option Addr} {c0 : Nat} {l0 : List (S138)} {A1 : Option Addr} {c1 : Nat} {l1 : List (S138)} {r : Bool} {w : World} (hr0 : Kd.C k138 w A0 l0.length l0) (hc0 : l0.length ≤ c0) (hr1 : Kd.C k138 w A1 l1.length l1) (hc1 : l1.length ≤ c1) (h : laws_eqBlkPieceS.f k l0 l1 = some r) :
  Calls Try.prog 81 #[.slice A0 l0.length c0,.slice A1 l1.length c1] w fun e w'=>e=.returned (.bool r)∧Below w.heap.size w w':=by
 have hu138:=Try.underlying138;have HR0:=mA hr0;have HC0:=mA hc0;clear hr0 hc0;have HR1:=mA hr1;have HC1:=mA hc1;clear hr1 hc1;have HB:=mA (Below.refl w.heap.size w);have H:(if (l0.length:Int)=(l1.length:Int) then (laws_eqBlkPieceS.l0 k l0 l1 0) else (some false))=some r:=h;clear h
 by_cases c3:(l0.length:Int)=(l1.length:Int)
 ·rw [if_pos c3] at H;have c3b0:((l0.length:Int) == (l1.length:Int))=true:=beq_iff_eq.mpr c3;have c3b1:((l0.length:Int) != (l1.length:Int))=false:=bne_eq_false_iff_eq.mpr c3
  have c3b2:(l0.length == l1.length)=true:=by first|simpa using c3|(simp at c3 ⊢;omega)
  clear c3;have H':=mA H;clear H
  go_enter Try.func81,Try.ntmps81
  go_wp2
  go_loopg [5] k (fun kq v5 w'=>∃ (x5_1:Int),v5=.int .i64 x5_1∧Aside0 (laws_eqBlkPieceS.l0 kq l0 l1 x5_1=some r)∧Aside0 (kq≤k)∧Aside0 (Below w.heap.size w w'))
  case atStart=>exact ⟨(0),bZ,H',⟨Nat.le_refl _⟩,⟨pB HB.out⟩⟩
  case round =>
   clear H'
   (try clear c3);(try clear c3b0);(try clear c3b1);(try clear c3b2)
   obtain ⟨x5_1,rfl,HA,HK1,HB⟩:=hrel
   cases gk with
   | zero=>exact absurd HA.out (by simp [laws_eqBlkPieceS.l0])
   | succ k1 =>
    have H:=HA.out;clear HA;simp only [laws_eqBlkPieceS.l0] at H
    by_cases c4:x5_1<(l0.length:Int)
    ·rw [if_pos c4] at H;have c4b0:decide (x5_1<(l0.length:Int))=true:=decide_eq_true c4;clear c4
     by_cases c5:0≤x5_1
     ·rw [if_pos c5] at H;have c5b0:decide (0≤x5_1)=true:=decide_eq_true c5;clear c5
      by_cases c6:x5_1<(l1.length:Int)
      ·rw [if_pos c6] at H;have c6b0:decide (x5_1<(l1.length:Int))=true:=decide_eq_true c6;clear c6;obtain ⟨t683,A7,H⟩:=bI H;(try dsimp only at H)
       by_cases c8:t683=true
       ·subst c8;rw [if_pos rfl] at H;have H':=mA H;clear H
        try go_wp2
        replace HB:=mA (below_drew1 HB.out);have p681:0≤(x5_1:Int):=of_decide_eq_true bA;have q681:x5_1<(l0.length:Int):=of_decide_eq_true bA;obtain ⟨ad681,e681,hx681_0,hx681_1,hx681_2,hx681_3⟩:=at_T138 HR0.out x5_1 p681 q681;have hw681_3:=hx681_3;have hw681_2:=hx681_2;have hw681_1:=hx681_1;have hw681_0:=hx681_0;cases e681;replace hx681_0:=hC HB hx681_0;replace hx681_1:=hC HB hx681_1;replace hx681_2:=hC HB hx681_2;replace hx681_3:=hC HB hx681_3;replace p681:=eq_true p681;replace q681:=eq_true q681;have p682:0≤(x5_1:Int):=of_decide_eq_true bA;have q682:x5_1<(l1.length:Int):=of_decide_eq_true bA;obtain ⟨ad682,e682,hx682_0,hx682_1,hx682_2,hx682_3⟩:=at_T138 HR1.out x5_1 p682 q682;have hw682_3:=hx682_3;have hw682_2:=hx682_2;have hw682_1:=hx682_1;have hw682_0:=hx682_0;cases e682;replace hx682_0:=hC HB hx682_0;replace hx682_1:=hC HB hx682_1;replace hx682_2:=hC HB hx682_2;replace hx682_3:=hC HB hx682_3;replace p682:=eq_true p682;replace q682:=eq_true q682
        refine start_ (n:=10) (S:=fun w'=>w'.cell? (ad681.add ((x5_1).toNat * 4))=some (.int .i64 ((rd_T138 l0 x5_1).f0))∧w'.cell? ⟨(ad681.add ((x5_1).toNat * 4)).block,(ad681.add ((x5_1).toNat * 4)).off+1,none⟩=some (.int .i64 ((rd_T138 l0 x5_1).f1))∧w'.cell? ⟨(ad681.add ((x5_1).toNat * 4)).block,(ad681.add ((x5_1).toNat * 4)).off+2,none⟩=some (.int .i64 ((rd_T138 l0 x5_1).f2))∧w'.cell? ⟨(ad681.add ((x5_1).toNat * 4)).block,(ad681.add ((x5_1).toNat * 4)).off+3,none⟩=some (.int .i64 ((rd_T138 l0 x5_1).f3))∧w'.cell? (ad682.add ((x5_1).toNat * 4))=some (.int .i64 ((rd_T138 l1 x5_1).f0))∧w'.cell? ⟨(ad682.add ((x5_1).toNat * 4)).block,(ad682.add ((x5_1).toNat * 4)).off+1,none⟩=some (.int .i64 ((rd_T138 l1 x5_1).f1))∧w'.cell? ⟨(ad682.add ((x5_1).toNat * 4)).block,(ad682.add ((x5_1).toNat * 4)).off+2,none⟩=some (.int .i64 ((rd_T138 l1 x5_1).f2))∧w'.cell? ⟨(ad682.add ((x5_1).toNat * 4)).block,(ad682.add ((x5_1).toNat * 4)).off+3,none⟩=some (.int .i64 ((rd_T138 l1 x5_1).f3))) (ds:=[]) _ aK rfl rfl ⟨((HB.out.cell (World.block_lt_of_cell? w _ hw681_0)).trans hw681_0),((HB.out.cell (World.block_lt_of_cell? w _ hw681_1)).trans hw681_1),((HB.out.cell (World.block_lt_of_cell? w _ hw681_2)).trans hw681_2),((HB.out.cell (World.block_lt_of_cell? w _ hw681_3)).trans hw681_3),((HB.out.cell (World.block_lt_of_cell? w _ hw682_0)).trans hw682_0),((HB.out.cell (World.block_lt_of_cell? w _ hw682_1)).trans hw682_1),((HB.out.cell (World.block_lt_of_cell? w _ hw682_2)).trans hw682_2),((HB.out.cell (World.block_lt_of_cell? w _ hw682_3)).trans hw682_3)⟩ (fun hHeld=>?_);refine with_tabW laws_eqBlkPieceS.tab6 laws_eqBlkPieceS.bits6 (fun HT_ HW_=>?_)
        generalize wr.drew=w9 at HB hx681_0 hx681_1 hx681_2 hx681_3 hx682_0 hx682_1 hx682_2 hx682_3 hHeld ⊢
        refine pu_ 0 (some 17) (aT HT_) ?_
        refine pu_ 1 (some 18) (aT HT_) ?_
        refine pu_ 2 (some 19) (aT HT_) ?_
        refine pu_ 4 (some 21) (aT HT_) ?_
        refine pu_ 5 (some 22) (aT HT_) ?_
        refine pu_ 6 (some 23) (aT HT_) ?_
        refine ta8_ 3 (some 20) (tT HT_ HW_) hHeld ?_
        refine ta8_ 7 (some 24) (tT HT_ HW_) hHeld ?_
        refine on_ 8 (some 25) (oT HT_) ?_;intro K hK
        refine gD Try.func134 (laws_eqBlkPiece.calls A7.out) ?_
        rintro e w10 ⟨rfl,hb⟩;refine ⟨_,rfl,?_⟩;replace HB:=spB HB hb
        (try clear hb)
        refine hK.out _ _ ⟨((HB.out.cell (World.block_lt_of_cell? w _ hw681_0)).trans hw681_0),((HB.out.cell (World.block_lt_of_cell? w _ hw681_1)).trans hw681_1),((HB.out.cell (World.block_lt_of_cell? w _ hw681_2)).trans hw681_2),((HB.out.cell (World.block_lt_of_cell? w _ hw681_3)).trans hw681_3),((HB.out.cell (World.block_lt_of_cell? w _ hw682_0)).trans hw682_0),((HB.out.cell (World.block_lt_of_cell? w _ hw682_1)).trans hw682_1),((HB.out.cell (World.block_lt_of_cell? w _ hw682_2)).trans hw682_2),((HB.out.cell (World.block_lt_of_cell? w _ hw682_3)).trans hw682_3)⟩ (fun hHeld=>?_);clear hK K;refine no_ (some 25) ?_
        refine pu_ 9 (some 26) (aT HT_) ?_
        refine done_ (done_of HT_.out aK) ?_
        try go_wp2
        go_roundg k1
        case measure=>have:=HK1.out;omega
        case rel=>exact ⟨(wrap64 (x5_1+1)),bZ,H',⟨by have:=HK1.out;omega⟩,⟨pB HB.out⟩⟩
       ·replace c8:=Bool.eq_false_iff.mpr c8;subst c8
        rw [if_neg nFT] at H
        obtain rfl:=Option.some.inj H
        try go_wp2
        replace HB:=mA (below_drew1 HB.out);have p681:0≤(x5_1:Int):=of_decide_eq_true bA;have q681:x5_1<(l0.length:Int):=of_decide_eq_true bA;obtain ⟨ad681,e681,hx681_0,hx681_1,hx681_2,hx681_3⟩:=at_T138 HR0.out x5_1 p681 q681;have hw681_3:=hx681_3;have hw681_2:=hx681_2;have hw681_1:=hx681_1;have hw681_0:=hx681_0;cases e681;replace hx681_0:=hC HB hx681_0;replace hx681_1:=hC HB hx681_1;replace hx681_2:=hC HB hx681_2;replace hx681_3:=hC HB hx681_3;replace p681:=eq_true p681;replace q681:=eq_true q681;have p682:0≤(x5_1:Int):=of_decide_eq_true bA;have q682:x5_1<(l1.length:Int):=of_decide_eq_true bA;obtain ⟨ad682,e682,hx682_0,hx682_1,hx682_2,hx682_3⟩:=at_T138 HR1.out x5_1 p682 q682;have hw682_3:=hx682_3;have hw682_2:=hx682_2;have hw682_1:=hx682_1;have hw682_0:=hx682_0;cases e682;replace hx682_0:=hC HB hx682_0;replace hx682_1:=hC HB hx682_1;replace hx682_2:=hC HB hx682_2;replace hx682_3:=hC HB hx682_3;replace p682:=eq_true p682;replace q682:=eq_true q682
        refine start_ (n:=10) (S:=fun w'=>w'.cell? (ad681.add ((x5_1).toNat * 4))=some (.int .i64 ((rd_T138 l0 x5_1).f0))∧w'.cell? ⟨(ad681.add ((x5_1).toNat * 4)).block,(ad681.add ((x5_1).toNat * 4)).off+1,none⟩=some (.int .i64 ((rd_T138 l0 x5_1).f1))∧w'.cell? ⟨(ad681.add ((x5_1).toNat * 4)).block,(ad681.add ((x5_1).toNat * 4)).off+2,none⟩=some (.int .i64 ((rd_T138 l0 x5_1).f2))∧w'.cell? ⟨(ad681.add ((x5_1).toNat * 4)).block,(ad681.add ((x5_1).toNat * 4)).off+3,none⟩=some (.int .i64 ((rd_T138 l0 x5_1).f3))∧w'.cell? (ad682.add ((x5_1).toNat * 4))=some (.int .i64 ((rd_T138 l1 x5_1).f0))∧w'.cell? ⟨(ad682.add ((x5_1).toNat * 4)).block,(ad682.add ((x5_1).toNat * 4)).off+1,none⟩=some (.int .i64 ((rd_T138 l1 x5_1).f1))∧w'.cell? ⟨(ad682.add ((x5_1).toNat * 4)).block,(ad682.add ((x5_1).toNat * 4)).off+2,none⟩=some (.int .i64 ((rd_T138 l1 x5_1).f2))∧w'.cell? ⟨(ad682.add ((x5_1).toNat * 4)).block,(ad682.add ((x5_1).toNat * 4)).off+3,none⟩=some (.int .i64 ((rd_T138 l1 x5_1).f3))) (ds:=[]) _ aK rfl rfl ⟨((HB.out.cell (World.block_lt_of_cell? w _ hw681_0)).trans hw681_0),((HB.out.cell (World.block_lt_of_cell? w _ hw681_1)).trans hw681_1),((HB.out.cell (World.block_lt_of_cell? w _ hw681_2)).trans hw681_2),((HB.out.cell (World.block_lt_of_cell? w _ hw681_3)).trans hw681_3),((HB.out.cell (World.block_lt_of_cell? w _ hw682_0)).trans hw682_0),((HB.out.cell (World.block_lt_of_cell? w _ hw682_1)).trans hw682_1),((HB.out.cell (World.block_lt_of_cell? w _ hw682_2)).trans hw682_2),((HB.out.cell (World.block_lt_of_cell? w _ hw682_3)).trans hw682_3)⟩ (fun hHeld=>?_);refine with_tabW laws_eqBlkPieceS.tab6 laws_eqBlkPieceS.bits6 (fun HT_ HW_=>?_)
        generalize wr.drew=w11 at HB hx681_0 hx681_1 hx681_2 hx681_3 hx682_0 hx682_1 hx682_2 hx682_3 hHeld ⊢
        refine pu_ 0 (some 17) (aT HT_) ?_
        refine pu_ 1 (some 18) (aT HT_) ?_
        refine pu_ 2 (some 19) (aT HT_) ?_
        refine pu_ 4 (some 21) (aT HT_) ?_
        refine pu_ 5 (some 22) (aT HT_) ?_
        refine pu_ 6 (some 23) (aT HT_) ?_
        refine ta8_ 3 (some 20) (tT HT_ HW_) hHeld ?_
        refine ta8_ 7 (some 24) (tT HT_ HW_) hHeld ?_
        refine on_ 8 (some 25) (oT HT_) ?_;intro K hK
        refine gD Try.func134 (laws_eqBlkPiece.calls A7.out) ?_
        rintro e w12 ⟨rfl,hb⟩;refine ⟨_,rfl,?_⟩;replace HB:=spB HB hb
        (try clear hb)
        refine hK.out _ _ ⟨((HB.out.cell (World.block_lt_of_cell? w _ hw681_0)).trans hw681_0),((HB.out.cell (World.block_lt_of_cell? w _ hw681_1)).trans hw681_1),((HB.out.cell (World.block_lt_of_cell? w _ hw681_2)).trans hw681_2),((HB.out.cell (World.block_lt_of_cell? w _ hw681_3)).trans hw681_3),((HB.out.cell (World.block_lt_of_cell? w _ hw682_0)).trans hw682_0),((HB.out.cell (World.block_lt_of_cell? w _ hw682_1)).trans hw682_1),((HB.out.cell (World.block_lt_of_cell? w _ hw682_2)).trans hw682_2),((HB.out.cell (World.block_lt_of_cell? w _ hw682_3)).trans hw682_3)⟩ (fun hHeld=>?_);clear hK K;refine no_ (some 25) ?_
        refine pu_ 9 (some 26) (aT HT_) ?_
        refine done_ (done_of HT_.out aK) ?_
        try go_wp2
        go_ret
        exact rZ (pB HB.out)
      ·rw [if_neg c6] at H
       exact absurd H (by simp)
     ·rw [if_neg c5] at H
      exact absurd H (by simp)
    ·rw [if_neg c4] at H;have c4b0:decide (x5_1<(l0.length:Int))=false:=decide_eq_false c4;clear c4;obtain rfl:=Option.some.inj H
     go_wp2
     go_ret
     exact rZ (pB HB.out)
 ·rw [if_neg c3] at H;have c3b0:((l0.length:Int) == (l1.length:Int))=false:=beq_eq_false_iff_ne.mpr c3;have c3b1:((l0.length:Int) != (l1.length:Int))=true:=bne_iff_ne.mpr c3
  have c3b2:(l0.length == l1.length)=false:=by first|simpa using c3|(simp at c3 ⊢;omega)
  obtain rfl:=Option.some.inj H
  go_enter Try.func81,Try.ntmps81
  go_wp2
  go_ret
  exact rZ (pB HB.out)

/-! ### laws_eqBlkLast: function 135 -/
def laws_eqBlkLast.f (a0_0 : Int) (a0_1 : Int) (a1_0 : Int) (a1_1 : Int) : Option (Bool) := if a0_0 = a1_0 then (if a0_1 = a1_1 then (some true) else (some false)) else (some false)
set_option maxHeartbeats 8000000 in
set_option maxRecDepth 100000 in
theorem laws_eqBlkLast.calls {a0_0 : Int} {a0_1 : Int} {a1_0 : Int} {a1_1 : Int} {r : Bool} {w : World} (h : laws_eqBlkLast.f a0_0 a0_1 a1_0 a1_1 = some r) :
  Calls Try.prog 135 #[.agg #[.int .i64 a0_0,.int .i64 a0_1],.agg #[.int .i64 a1_0,.int .i64 a1_1]] w fun e w'=>e=.returned (.bool r)∧Below w.heap.size w w':=by
 have hu140:=Try.underlying140;have HB:=mA (Below.refl w.heap.size w);have H:(if a0_0=a1_0 then (if a0_1=a1_1 then (some true) else (some false)) else (some false))=some r:=h;clear h
 by_cases c3:a0_0=a1_0
 ·rw [if_pos c3] at H;obtain ⟨c3b0,c3b1⟩:=eqB c3;clear c3
  by_cases c4:a0_1=a1_1
  ·rw [if_pos c4] at H;obtain ⟨c4b0,c4b1⟩:=eqB c4;clear c4;obtain rfl:=Option.some.inj H
   go_enter Try.func135,Try.ntmps135
   go_wp2_with (first|((with_reducible refine gT 2 rfl ?_);refine bE 2 #[.int .i64 a0_0,.int .i64 a0_1] 140 ?_;intro gb684 hg w5 hbox hb;have BK684:=mA hbox;have GW684:=gbpB HB hg;have GE684:=gbpB HB hg;replace HB:=spB HB hb;clear hb hbox hg)|((with_reducible refine gT 3 rfl ?_);refine bE 3 #[.int .i64 a1_0,.int .i64 a1_1] 140 ?_;intro gb685 hg w6 hbox hb;have BK685:=mA hbox;have GW685:=gbpS HB hg;have GE685:=gbpS HB hg;replace HB:=spS HB hb;have NB684_685:=mA (lN (blk_lt (pK BK684.out)) hg);have NB685_684:=nS NB684_685;replace BK684:=bK BK684 hb;clear hb hbox hg;have hnb7:=NB684_685.out;have hnc7:=NB685_684.out;obtain ⟨hcz8_0,hcz8_1,hfz8_0,hfz8_1⟩:=box2 BK684.out;obtain ⟨hcz9_0,hcz9_1,hfz9_0,hfz9_1⟩:=box2 BK685.out))
   go_ret
   exact rZ (pS HB.out)
  ·rw [if_neg c4] at H;have c4b0:(a0_1 == a1_1)=false:=beq_eq_false_iff_ne.mpr c4;have c4b1:(a0_1 != a1_1)=true:=bne_iff_ne.mpr c4;obtain rfl:=Option.some.inj H
   go_enter Try.func135,Try.ntmps135
   go_wp2_with (first|((with_reducible refine gT 2 rfl ?_);refine bE 2 #[.int .i64 a0_0,.int .i64 a0_1] 140 ?_;intro gb684 hg w10 hbox hb;have BK684:=mA hbox;have GW684:=gbpB HB hg;have GE684:=gbpB HB hg;replace HB:=spB HB hb;clear hb hbox hg)|((with_reducible refine gT 3 rfl ?_);refine bE 3 #[.int .i64 a1_0,.int .i64 a1_1] 140 ?_;intro gb685 hg w11 hbox hb;have BK685:=mA hbox;have GW685:=gbpS HB hg;have GE685:=gbpS HB hg;replace HB:=spS HB hb;have NB684_685:=mA (lN (blk_lt (pK BK684.out)) hg);have NB685_684:=nS NB684_685;replace BK684:=bK BK684 hb;clear hb hbox hg;have hnb12:=NB684_685.out;have hnc12:=NB685_684.out;obtain ⟨hcz13_0,hcz13_1,hfz13_0,hfz13_1⟩:=box2 BK684.out;obtain ⟨hcz14_0,hcz14_1,hfz14_0,hfz14_1⟩:=box2 BK685.out))
   go_ret
   exact rZ (pS HB.out)
 ·rw [if_neg c3] at H;have c3b0:(a0_0 == a1_0)=false:=beq_eq_false_iff_ne.mpr c3;have c3b1:(a0_0 != a1_0)=true:=bne_iff_ne.mpr c3;obtain rfl:=Option.some.inj H
  go_enter Try.func135,Try.ntmps135
  go_wp2_with (first|((with_reducible refine gT 2 rfl ?_);refine bE 2 #[.int .i64 a0_0,.int .i64 a0_1] 140 ?_;intro gb684 hg w15 hbox hb;have BK684:=mA hbox;have GW684:=gbpB HB hg;have GE684:=gbpB HB hg;replace HB:=spB HB hb;clear hb hbox hg)|((with_reducible refine gT 3 rfl ?_);refine bE 3 #[.int .i64 a1_0,.int .i64 a1_1] 140 ?_;intro gb685 hg w16 hbox hb;have BK685:=mA hbox;have GW685:=gbpS HB hg;have GE685:=gbpS HB hg;replace HB:=spS HB hb;have NB684_685:=mA (lN (blk_lt (pK BK684.out)) hg);have NB685_684:=nS NB684_685;replace BK684:=bK BK684 hb;clear hb hbox hg;have hnb17:=NB684_685.out;have hnc17:=NB685_684.out;obtain ⟨hcz18_0,hcz18_1,hfz18_0,hfz18_1⟩:=box2 BK684.out;obtain ⟨hcz19_0,hcz19_1,hfz19_0,hfz19_1⟩:=box2 BK685.out))
  go_ret
  exact rZ (pS HB.out)

/-! ### laws_eqBlkLastS: function 82 -/
def laws_eqBlkLastS.l0 : Nat → List (S140) → List (S140) → Int → Option (Bool)
 | 0,_,_,_=>none
 | k+1,x0,x1,x5=>if x5<(x0.length:Int) then (if 0≤x5 then (if x5<(x1.length:Int) then ((laws_eqBlkLast.f ((rd_T140 x0 x5).f0) ((rd_T140 x0 x5).f1) ((rd_T140 x1 x5).f0) ((rd_T140 x1 x5).f1)).bind fun t688=>(if t688=true then (laws_eqBlkLastS.l0 k x0 x1 (wrap64 (x5+1))) else (some false))) else (none)) else (none)) else (some true)
def laws_eqBlkLastS.f (k : Nat) (l0 : List (S140)) (l1 : List (S140)) : Option (Bool) := if (l0.length : Int) = (l1.length : Int) then (laws_eqBlkLastS.l0 k l0 l1 0) else (some false)
theorem laws_eqBlkLastS.mono_l : ∀ k, (∀ y0 y1 y2, LeO (laws_eqBlkLastS.l0 k y0 y1 y2) (laws_eqBlkLastS.l0 (k + 1) y0 y1 y2))
 | 0=>fun _ _ _ r h=>by simp [laws_eqBlkLastS.l0] at h
 | k+1=>by
  have ih0:=laws_eqBlkLastS.mono_l k
  ·intros
   unfold laws_eqBlkLastS.l0
   repeat' first
   | (with_reducible first|apply ih0|exact LeO.refl _|exact LeO.none _|refine LeO.ite ?_ ?_|refine LeO.bind ?_ (fun _=>?_))|exact LeO.none _|refine LeO.ite ?_ ?_|refine LeO.bind ?_ (fun _=>?_)
theorem laws_eqBlkLastS.mono : ∀ a0 a1 k, LeO (laws_eqBlkLastS.f k a0 a1) (laws_eqBlkLastS.f (k + 1) a0 a1) := by
 intro a0 a1 k;have ih0:=laws_eqBlkLastS.mono_l k
 unfold laws_eqBlkLastS.f
 repeat' first
   | (with_reducible first|apply ih0|exact LeO.refl _|exact LeO.none _|refine LeO.ite ?_ ?_|refine LeO.bind ?_ (fun _=>?_))|exact LeO.none _|refine LeO.ite ?_ ?_|refine LeO.bind ?_ (fun _=>?_)
def laws_eqBlkLastS.T6 : Bool × List (List Nat × List Nat) := (true, [([], []), ([], []), ([0, 1], [0, 1]), ([2], [2]), ([], []), ([], []), ([4, 5], [4, 5]), ([6], [6]), ([3, 7], [3, 7]), ([8], [8])])
def laws_eqBlkLastS.B6 : List Nat := [0, 0, 3, 7, 0, 0, 48, 112, 255, 511]
theorem laws_eqBlkLastS.tab6 : rtab .any (opsOf Try.f82 6) = laws_eqBlkLastS.T6 := by kernel_rfl
theorem laws_eqBlkLastS.bits6 : waitsOk laws_eqBlkLastS.T6.2 laws_eqBlkLastS.B6 = true := by kernel_rfl
set_option maxHeartbeats 8000000 in
set_option maxRecDepth 100000 in
theorem laws_eqBlkLastS.calls {k : Nat} {A0 : Option Addr} {c0 : Nat} {l0 : List (S140)} {A1 : Option Addr} {c1 : Nat} {l1 : List (S140)} {r : Bool} {w : World} (hr0 : Kd.C k140 w A0 l0.length l0) (hc0 : l0.length ≤ c0) (hr1 : Kd.C k140 w A1 l1.length l1) (hc1 : l1.length ≤ c1) (h : laws_eqBlkLastS.f k l0 l1 = some r) :
  Calls Try.prog 82 #[.slice A0 l0.length c0,.slice A1 l1.length c1] w fun e w'=>e=.returned (.bool r)∧Below w.heap.size w w':=by
 have hu140:=Try.underlying140;have HR0:=mA hr0;have HC0:=mA hc0;clear hr0 hc0;have HR1:=mA hr1;have HC1:=mA hc1;clear hr1 hc1;have HB:=mA (Below.refl w.heap.size w);have H:(if (l0.length:Int)=(l1.length:Int) then (laws_eqBlkLastS.l0 k l0 l1 0) else (some false))=some r:=h;clear h
 by_cases c3:(l0.length:Int)=(l1.length:Int)
 ·rw [if_pos c3] at H;have c3b0:((l0.length:Int) == (l1.length:Int))=true:=beq_iff_eq.mpr c3;have c3b1:((l0.length:Int) != (l1.length:Int))=false:=bne_eq_false_iff_eq.mpr c3
  have c3b2:(l0.length == l1.length)=true:=by first|simpa using c3|(simp at c3 ⊢;omega)
  clear c3;have H':=mA H;clear H
  go_enter Try.func82,Try.ntmps82
  go_wp2
  go_loopg [5] k (fun kq v5 w'=>∃ (x5_1:Int),v5=.int .i64 x5_1∧Aside0 (laws_eqBlkLastS.l0 kq l0 l1 x5_1=some r)∧Aside0 (kq≤k)∧Aside0 (Below w.heap.size w w'))
  case atStart=>exact ⟨(0),bZ,H',⟨Nat.le_refl _⟩,⟨pB HB.out⟩⟩
  case round =>
   clear H'
   (try clear c3);(try clear c3b0);(try clear c3b1);(try clear c3b2)
   obtain ⟨x5_1,rfl,HA,HK1,HB⟩:=hrel
   cases gk with
   | zero=>exact absurd HA.out (by simp [laws_eqBlkLastS.l0])
   | succ k1 =>
    have H:=HA.out;clear HA;simp only [laws_eqBlkLastS.l0] at H
    by_cases c4:x5_1<(l0.length:Int)
    ·rw [if_pos c4] at H;have c4b0:decide (x5_1<(l0.length:Int))=true:=decide_eq_true c4;clear c4
     by_cases c5:0≤x5_1
     ·rw [if_pos c5] at H;have c5b0:decide (0≤x5_1)=true:=decide_eq_true c5;clear c5
      by_cases c6:x5_1<(l1.length:Int)
      ·rw [if_pos c6] at H;have c6b0:decide (x5_1<(l1.length:Int))=true:=decide_eq_true c6;clear c6;obtain ⟨t688,A7,H⟩:=bI H;(try dsimp only at H)
       by_cases c8:t688=true
       ·subst c8;rw [if_pos rfl] at H;have H':=mA H;clear H
        try go_wp2
        replace HB:=mA (below_drew1 HB.out);have p686:0≤(x5_1:Int):=of_decide_eq_true bA;have q686:x5_1<(l0.length:Int):=of_decide_eq_true bA;obtain ⟨ad686,e686,hx686_0,hx686_1⟩:=at_T140 HR0.out x5_1 p686 q686;have hw686_1:=hx686_1;have hw686_0:=hx686_0;cases e686;replace hx686_0:=hC HB hx686_0;replace hx686_1:=hC HB hx686_1;replace p686:=eq_true p686;replace q686:=eq_true q686;have p687:0≤(x5_1:Int):=of_decide_eq_true bA;have q687:x5_1<(l1.length:Int):=of_decide_eq_true bA;obtain ⟨ad687,e687,hx687_0,hx687_1⟩:=at_T140 HR1.out x5_1 p687 q687;have hw687_1:=hx687_1;have hw687_0:=hx687_0;cases e687;replace hx687_0:=hC HB hx687_0;replace hx687_1:=hC HB hx687_1;replace p687:=eq_true p687;replace q687:=eq_true q687
        refine start_ (n:=10) (S:=fun w'=>w'.cell? (ad686.add ((x5_1).toNat * 2))=some (.int .i64 ((rd_T140 l0 x5_1).f0))∧w'.cell? ⟨(ad686.add ((x5_1).toNat * 2)).block,(ad686.add ((x5_1).toNat * 2)).off+1,none⟩=some (.int .i64 ((rd_T140 l0 x5_1).f1))∧w'.cell? (ad687.add ((x5_1).toNat * 2))=some (.int .i64 ((rd_T140 l1 x5_1).f0))∧w'.cell? ⟨(ad687.add ((x5_1).toNat * 2)).block,(ad687.add ((x5_1).toNat * 2)).off+1,none⟩=some (.int .i64 ((rd_T140 l1 x5_1).f1))) (ds:=[]) _ aK rfl rfl ⟨((HB.out.cell (World.block_lt_of_cell? w _ hw686_0)).trans hw686_0),((HB.out.cell (World.block_lt_of_cell? w _ hw686_1)).trans hw686_1),((HB.out.cell (World.block_lt_of_cell? w _ hw687_0)).trans hw687_0),((HB.out.cell (World.block_lt_of_cell? w _ hw687_1)).trans hw687_1)⟩ (fun hHeld=>?_);refine with_tabW laws_eqBlkLastS.tab6 laws_eqBlkLastS.bits6 (fun HT_ HW_=>?_)
        generalize wr.drew=w9 at HB hx686_0 hx686_1 hx687_0 hx687_1 hHeld ⊢
        refine pu_ 0 (some 17) (aT HT_) ?_
        refine pu_ 1 (some 18) (aT HT_) ?_
        refine pu_ 2 (some 19) (aT HT_) ?_
        refine pu_ 4 (some 21) (aT HT_) ?_
        refine pu_ 5 (some 22) (aT HT_) ?_
        refine pu_ 6 (some 23) (aT HT_) ?_
        refine ta4_ 3 (some 20) (tT HT_ HW_) hHeld ?_
        refine ta4_ 7 (some 24) (tT HT_ HW_) hHeld ?_
        refine on_ 8 (some 25) (oT HT_) ?_;intro K hK
        refine gD Try.func135 (laws_eqBlkLast.calls A7.out) ?_
        rintro e w10 ⟨rfl,hb⟩;refine ⟨_,rfl,?_⟩;replace HB:=spB HB hb
        (try clear hb)
        refine hK.out _ _ ⟨((HB.out.cell (World.block_lt_of_cell? w _ hw686_0)).trans hw686_0),((HB.out.cell (World.block_lt_of_cell? w _ hw686_1)).trans hw686_1),((HB.out.cell (World.block_lt_of_cell? w _ hw687_0)).trans hw687_0),((HB.out.cell (World.block_lt_of_cell? w _ hw687_1)).trans hw687_1)⟩ (fun hHeld=>?_);clear hK K;refine no_ (some 25) ?_
        refine pu_ 9 (some 26) (aT HT_) ?_
        refine done_ (done_of HT_.out aK) ?_
        try go_wp2
        go_roundg k1
        case measure=>have:=HK1.out;omega
        case rel=>exact ⟨(wrap64 (x5_1+1)),bZ,H',⟨by have:=HK1.out;omega⟩,⟨pB HB.out⟩⟩
       ·replace c8:=Bool.eq_false_iff.mpr c8;subst c8
        rw [if_neg nFT] at H
        obtain rfl:=Option.some.inj H
        try go_wp2
        replace HB:=mA (below_drew1 HB.out);have p686:0≤(x5_1:Int):=of_decide_eq_true bA;have q686:x5_1<(l0.length:Int):=of_decide_eq_true bA;obtain ⟨ad686,e686,hx686_0,hx686_1⟩:=at_T140 HR0.out x5_1 p686 q686;have hw686_1:=hx686_1;have hw686_0:=hx686_0;cases e686;replace hx686_0:=hC HB hx686_0;replace hx686_1:=hC HB hx686_1;replace p686:=eq_true p686;replace q686:=eq_true q686;have p687:0≤(x5_1:Int):=of_decide_eq_true bA;have q687:x5_1<(l1.length:Int):=of_decide_eq_true bA;obtain ⟨ad687,e687,hx687_0,hx687_1⟩:=at_T140 HR1.out x5_1 p687 q687;have hw687_1:=hx687_1;have hw687_0:=hx687_0;cases e687;replace hx687_0:=hC HB hx687_0;replace hx687_1:=hC HB hx687_1;replace p687:=eq_true p687;replace q687:=eq_true q687
        refine start_ (n:=10) (S:=fun w'=>w'.cell? (ad686.add ((x5_1).toNat * 2))=some (.int .i64 ((rd_T140 l0 x5_1).f0))∧w'.cell? ⟨(ad686.add ((x5_1).toNat * 2)).block,(ad686.add ((x5_1).toNat * 2)).off+1,none⟩=some (.int .i64 ((rd_T140 l0 x5_1).f1))∧w'.cell? (ad687.add ((x5_1).toNat * 2))=some (.int .i64 ((rd_T140 l1 x5_1).f0))∧w'.cell? ⟨(ad687.add ((x5_1).toNat * 2)).block,(ad687.add ((x5_1).toNat * 2)).off+1,none⟩=some (.int .i64 ((rd_T140 l1 x5_1).f1))) (ds:=[]) _ aK rfl rfl ⟨((HB.out.cell (World.block_lt_of_cell? w _ hw686_0)).trans hw686_0),((HB.out.cell (World.block_lt_of_cell? w _ hw686_1)).trans hw686_1),((HB.out.cell (World.block_lt_of_cell? w _ hw687_0)).trans hw687_0),((HB.out.cell (World.block_lt_of_cell? w _ hw687_1)).trans hw687_1)⟩ (fun hHeld=>?_);refine with_tabW laws_eqBlkLastS.tab6 laws_eqBlkLastS.bits6 (fun HT_ HW_=>?_)
        generalize wr.drew=w11 at HB hx686_0 hx686_1 hx687_0 hx687_1 hHeld ⊢
        refine pu_ 0 (some 17) (aT HT_) ?_
        refine pu_ 1 (some 18) (aT HT_) ?_
        refine pu_ 2 (some 19) (aT HT_) ?_
        refine pu_ 4 (some 21) (aT HT_) ?_
        refine pu_ 5 (some 22) (aT HT_) ?_
        refine pu_ 6 (some 23) (aT HT_) ?_
        refine ta4_ 3 (some 20) (tT HT_ HW_) hHeld ?_
        refine ta4_ 7 (some 24) (tT HT_ HW_) hHeld ?_
        refine on_ 8 (some 25) (oT HT_) ?_;intro K hK
        refine gD Try.func135 (laws_eqBlkLast.calls A7.out) ?_
        rintro e w12 ⟨rfl,hb⟩;refine ⟨_,rfl,?_⟩;replace HB:=spB HB hb
        (try clear hb)
        refine hK.out _ _ ⟨((HB.out.cell (World.block_lt_of_cell? w _ hw686_0)).trans hw686_0),((HB.out.cell (World.block_lt_of_cell? w _ hw686_1)).trans hw686_1),((HB.out.cell (World.block_lt_of_cell? w _ hw687_0)).trans hw687_0),((HB.out.cell (World.block_lt_of_cell? w _ hw687_1)).trans hw687_1)⟩ (fun hHeld=>?_);clear hK K;refine no_ (some 25) ?_
        refine pu_ 9 (some 26) (aT HT_) ?_
        refine done_ (done_of HT_.out aK) ?_
        try go_wp2
        go_ret
        exact rZ (pB HB.out)
      ·rw [if_neg c6] at H
       exact absurd H (by simp)
     ·rw [if_neg c5] at H
      exact absurd H (by simp)
    ·rw [if_neg c4] at H;have c4b0:decide (x5_1<(l0.length:Int))=false:=decide_eq_false c4;clear c4;obtain rfl:=Option.some.inj H
     go_wp2
     go_ret
     exact rZ (pB HB.out)
 ·rw [if_neg c3] at H;have c3b0:((l0.length:Int) == (l1.length:Int))=false:=beq_eq_false_iff_ne.mpr c3;have c3b1:((l0.length:Int) != (l1.length:Int))=true:=bne_iff_ne.mpr c3
  have c3b2:(l0.length == l1.length)=false:=by first|simpa using c3|(simp at c3 ⊢;omega)
  obtain rfl:=Option.some.inj H
  go_enter Try.func82,Try.ntmps82
  go_wp2
  go_ret
  exact rZ (pB HB.out)

/-! ### laws_eqWord: function 20 -/
def laws_eqWord.f (k : Nat) (a0_0 : Int) (a0_1 : Int) (a0_2 : Int) (a0_3 : Int) (a0_4 : Int) (a0_5 : Int) (a0_6 : Int) (a0_7 : Int) (a0_8 : Int) (a0_9 : Int) (a0_10 : Int) (a0_11 : Int) (a0_12 : Int) (a0_13 : Int) (a0_14 : Int) (a0_15 : Int) (a0_16 : Int) (a0_17 : Int) (a0_18 : Int) (a0_19 : Int) (a0_20 : Int) (a0_21 : Int) (a0_22 : Int) (a0_23 : Int) (l0_24 : List (S138)) (l0_25 : List (S140)) (a1_0 : Int) (a1_1 : Int) (a1_2 : Int) (a1_3 : Int) (a1_4 : Int) (a1_5 : Int) (a1_6 : Int) (a1_7 : Int) (a1_8 : Int) (a1_9 : Int) (a1_10 : Int) (a1_11 : Int) (a1_12 : Int) (a1_13 : Int) (a1_14 : Int) (a1_15 : Int) (a1_16 : Int) (a1_17 : Int) (a1_18 : Int) (a1_19 : Int) (a1_20 : Int) (a1_21 : Int) (a1_22 : Int) (a1_23 : Int) (l1_24 : List (S138)) (l1_25 : List (S140)) : Option (Bool) := if a0_0 = a1_0 then (if a0_1 = a1_1 then (if a0_2 = a1_2 then (if a0_3 = a1_3 then (if a0_4 = a1_4 then (if a0_5 = a1_5 then ((laws_eqCmd.f a0_6 a0_7 a0_8 a0_9 a0_10 a0_11 a0_12 a0_13 a0_14 a0_15 a1_6 a1_7 a1_8 a1_9 a1_10 a1_11 a1_12 a1_13 a1_14 a1_15).bind fun t691 => (if t691 = true then (if a0_16 = a1_16 then (if a0_17 = a1_17 then (if a0_18 = a1_18 then (if a0_19 = a1_19 then (if a0_20 = a1_20 then (if a0_21 = a1_21 then (if a0_22 = a1_22 then (if a0_23 = a1_23 then ((laws_eqBlkPieceS.f k l0_24 l1_24).bind fun t692 => (if t692 = true then ((laws_eqBlkLastS.f k l0_25 l1_25).bind fun t693 => (if t693 = true then (some true) else (some false))) else (some false))) else (some false)) else (some false)) else (some false)) else (some false)) else (some false)) else (some false)) else (some false)) else (some false)) else (some false))) else (some false)) else (some false)) else (some false)) else (some false)) else (some false)) else (some false)
theorem laws_eqWord.mono : ∀ a0 a1 a2 a3 a4 a5 a6 a7 a8 a9 a10 a11 a12 a13 a14 a15 a16 a17 a18 a19 a20 a21 a22 a23 a24 a25 a26 a27 a28 a29 a30 a31 a32 a33 a34 a35 a36 a37 a38 a39 a40 a41 a42 a43 a44 a45 a46 a47 a48 a49 a50 a51 k, LeO (laws_eqWord.f k a0 a1 a2 a3 a4 a5 a6 a7 a8 a9 a10 a11 a12 a13 a14 a15 a16 a17 a18 a19 a20 a21 a22 a23 a24 a25 a26 a27 a28 a29 a30 a31 a32 a33 a34 a35 a36 a37 a38 a39 a40 a41 a42 a43 a44 a45 a46 a47 a48 a49 a50 a51) (laws_eqWord.f (k + 1) a0 a1 a2 a3 a4 a5 a6 a7 a8 a9 a10 a11 a12 a13 a14 a15 a16 a17 a18 a19 a20 a21 a22 a23 a24 a25 a26 a27 a28 a29 a30 a31 a32 a33 a34 a35 a36 a37 a38 a39 a40 a41 a42 a43 a44 a45 a46 a47 a48 a49 a50 a51) := by
 intro a0 a1 a2 a3 a4 a5 a6 a7 a8 a9 a10 a11 a12 a13 a14 a15 a16 a17 a18 a19 a20 a21 a22 a23 a24 a25 a26 a27 a28 a29 a30 a31 a32 a33 a34 a35 a36 a37 a38 a39 a40 a41 a42 a43 a44 a45 a46 a47 a48 a49 a50 a51 k
 unfold laws_eqWord.f
 repeat' first
   | (with_reducible first|apply laws_eqBlkLastS.mono|apply laws_eqBlkPieceS.mono|exact LeO.refl _|exact LeO.none _|refine LeO.ite ?_ ?_|refine LeO.bind ?_ (fun _=>?_))|exact LeO.none _|refine LeO.ite ?_ ?_|refine LeO.bind ?_ (fun _=>?_)
set_option maxHeartbeats 8000000 in
set_option maxRecDepth 100000 in
theorem laws_eqWord.calls {k : Nat} {a0_0 : Int} {a0_1 : Int} {a0_2 : Int} {a0_3 : Int} {a0_4 : Int} {a0_5 : Int} {a0_6 : Int} {a0_7 : Int} {a0_8 : Int} {a0_9 : Int} {a0_10 : Int} {a0_11 : Int} {a0_12 : Int} {a0_13 : Int} {a0_14 : Int} {a0_15 : Int} {a0_16 : Int} {a0_17 : Int} {a0_18 : Int} {a0_19 : Int} {a0_20 : Int} {a0_21 : Int} {a0_22 : Int} {a0_23 : Int} {A0_24 : Option Addr} {c0_24 : Nat} {l0_24 : List (S138)} {A0_25 : Option Addr} {c0_25 : Nat} {l0_25 : List (S140)} {a1_0 : Int} {a1_1 : Int} {a1_2 : Int} {a1_3 : Int} {a1_4 : Int} {a1_5 : Int} {a1_6 : Int} {a1_7 : Int} {a1_8 : Int} {a1_9 : Int} {a1_10 : Int} {a1_11 : Int} {a1_12 : Int} {a1_13 : Int} {a1_14 : Int} {a1_15 : Int} {a1_16 : Int} {a1_17 : Int} {a1_18 : Int} {a1_19 : Int} {a1_20 : Int} {a1_21 : Int} {a1_22 : Int} {a1_23 : Int} {A1_24 : Option Addr} {c1_24 : Nat} {l1_24 : List (S138)} {A1_25 : Option Addr} {c1_25 : Nat} {l1_25 : List (S140)} {r : Bool} {w : World} (hr0_24 : Kd.C k138 w A0_24 l0_24.length l0_24) (hc0_24 : l0_24.length ≤ c0_24) (hr0_25 : Kd.C k140 w A0_25 l0_25.length l0_25) (hc0_25 : l0_25.length ≤ c0_25) (hr1_24 : Kd.C k138 w A1_24 l1_24.length l1_24) (hc1_24 : l1_24.length ≤ c1_24) (hr1_25 : Kd.C k140 w A1_25 l1_25.length l1_25) (hc1_25 : l1_25.length ≤ c1_25) (h : laws_eqWord.f k a0_0 a0_1 a0_2 a0_3 a0_4 a0_5 a0_6 a0_7 a0_8 a0_9 a0_10 a0_11 a0_12 a0_13 a0_14 a0_15 a0_16 a0_17 a0_18 a0_19 a0_20 a0_21 a0_22 a0_23 l0_24 l0_25 a1_0 a1_1 a1_2 a1_3 a1_4 a1_5 a1_6 a1_7 a1_8 a1_9 a1_10 a1_11 a1_12 a1_13 a1_14 a1_15 a1_16 a1_17 a1_18 a1_19 a1_20 a1_21 a1_22 a1_23 l1_24 l1_25 = some r) :
  Calls Try.prog 20 #[.agg #[.int .i64 a0_0,.int .i64 a0_1,.int .i64 a0_2,.int .i64 a0_3,.int .i64 a0_4,.int .i64 a0_5,.int .i64 a0_6,.int .i64 a0_7,.int .i64 a0_8,.int .i64 a0_9,.int .i64 a0_10,.int .i64 a0_11,.int .i64 a0_12,.int .i64 a0_13,.int .i64 a0_14,.int .i64 a0_15,.int .i64 a0_16,.int .i64 a0_17,.int .i64 a0_18,.int .i64 a0_19,.int .i64 a0_20,.int .i64 a0_21,.int .i64 a0_22,.int .i64 a0_23,.slice A0_24 l0_24.length c0_24,.slice A0_25 l0_25.length c0_25],.agg #[.int .i64 a1_0,.int .i64 a1_1,.int .i64 a1_2,.int .i64 a1_3,.int .i64 a1_4,.int .i64 a1_5,.int .i64 a1_6,.int .i64 a1_7,.int .i64 a1_8,.int .i64 a1_9,.int .i64 a1_10,.int .i64 a1_11,.int .i64 a1_12,.int .i64 a1_13,.int .i64 a1_14,.int .i64 a1_15,.int .i64 a1_16,.int .i64 a1_17,.int .i64 a1_18,.int .i64 a1_19,.int .i64 a1_20,.int .i64 a1_21,.int .i64 a1_22,.int .i64 a1_23,.slice A1_24 l1_24.length c1_24,.slice A1_25 l1_25.length c1_25]] w fun e w'=>e=.returned (.bool r)∧Below w.heap.size w w':=by
 have hu28:=Try.underlying28;have hu24:=Try.underlying24;have HR0_24:=mA hr0_24;have HC0_24:=mA hc0_24;clear hr0_24 hc0_24;have HR0_25:=mA hr0_25;have HC0_25:=mA hc0_25;clear hr0_25 hc0_25;have HR1_24:=mA hr1_24;have HC1_24:=mA hc1_24;clear hr1_24 hc1_24;have HR1_25:=mA hr1_25;have HC1_25:=mA hc1_25;clear hr1_25 hc1_25;have HB:=mA (Below.refl w.heap.size w);have H:(if a0_0=a1_0 then (if a0_1=a1_1 then (if a0_2=a1_2 then (if a0_3=a1_3 then (if a0_4=a1_4 then (if a0_5=a1_5 then ((laws_eqCmd.f a0_6 a0_7 a0_8 a0_9 a0_10 a0_11 a0_12 a0_13 a0_14 a0_15 a1_6 a1_7 a1_8 a1_9 a1_10 a1_11 a1_12 a1_13 a1_14 a1_15).bind fun t691=>(if t691=true then (if a0_16=a1_16 then (if a0_17=a1_17 then (if a0_18=a1_18 then (if a0_19=a1_19 then (if a0_20=a1_20 then (if a0_21=a1_21 then (if a0_22=a1_22 then (if a0_23=a1_23 then ((laws_eqBlkPieceS.f k l0_24 l1_24).bind fun t692=>(if t692=true then ((laws_eqBlkLastS.f k l0_25 l1_25).bind fun t693=>(if t693=true then (some true) else (some false))) else (some false))) else (some false)) else (some false)) else (some false)) else (some false)) else (some false)) else (some false)) else (some false)) else (some false)) else (some false))) else (some false)) else (some false)) else (some false)) else (some false)) else (some false)) else (some false))=some r:=h;clear h
 by_cases c3:a0_0=a1_0
 ·rw [if_pos c3] at H;obtain ⟨c3b0,c3b1⟩:=eqB c3;clear c3
  by_cases c4:a0_1=a1_1
  ·rw [if_pos c4] at H;obtain ⟨c4b0,c4b1⟩:=eqB c4;clear c4
   by_cases c5:a0_2=a1_2
   ·rw [if_pos c5] at H;obtain ⟨c5b0,c5b1⟩:=eqB c5;clear c5
    by_cases c6:a0_3=a1_3
    ·rw [if_pos c6] at H;obtain ⟨c6b0,c6b1⟩:=eqB c6;clear c6
     by_cases c7:a0_4=a1_4
     ·rw [if_pos c7] at H;obtain ⟨c7b0,c7b1⟩:=eqB c7;clear c7
      by_cases c8:a0_5=a1_5
      ·rw [if_pos c8] at H;obtain ⟨c8b0,c8b1⟩:=eqB c8;clear c8;obtain ⟨t691,A9,H⟩:=bI H;(try dsimp only at H)
       by_cases c10:t691=true
       ·subst c10;rw [if_pos rfl] at H
        by_cases c11:a0_16=a1_16
        ·rw [if_pos c11] at H;obtain ⟨c11b0,c11b1⟩:=eqB c11;clear c11
         by_cases c12:a0_17=a1_17
         ·rw [if_pos c12] at H;obtain ⟨c12b0,c12b1⟩:=eqB c12;clear c12
          by_cases c13:a0_18=a1_18
          ·rw [if_pos c13] at H;obtain ⟨c13b0,c13b1⟩:=eqB c13;clear c13
           by_cases c14:a0_19=a1_19
           ·rw [if_pos c14] at H;obtain ⟨c14b0,c14b1⟩:=eqB c14;clear c14
            by_cases c15:a0_20=a1_20
            ·rw [if_pos c15] at H;obtain ⟨c15b0,c15b1⟩:=eqB c15;clear c15
             by_cases c16:a0_21=a1_21
             ·rw [if_pos c16] at H;obtain ⟨c16b0,c16b1⟩:=eqB c16;clear c16
              by_cases c17:a0_22=a1_22
              ·rw [if_pos c17] at H;obtain ⟨c17b0,c17b1⟩:=eqB c17;clear c17
               by_cases c18:a0_23=a1_23
               ·rw [if_pos c18] at H;obtain ⟨c18b0,c18b1⟩:=eqB c18;clear c18;obtain ⟨t692,A19,H⟩:=bI H;(try dsimp only at H)
                by_cases c20:t692=true
                ·subst c20;rw [if_pos rfl] at H;obtain ⟨t693,A21,H⟩:=bI H;(try dsimp only at H)
                 by_cases c22:t693=true
                 ·subst c22;rw [if_pos rfl] at H;obtain rfl:=Option.some.inj H
                  go_enter Try.func20,Try.ntmps20
                  go_wp2_with (first|((with_reducible refine gLg rfl (by assumption) ?_);refine ldV ?_)|((with_reducible refine gSt rfl (by assumption) ?_);refine stV ?_)|((with_reducible refine gT 2 rfl ?_);refine bE 2 #[.int .i64 a0_0,.int .i64 a0_1,.int .i64 a0_2,.int .i64 a0_3,.int .i64 a0_4,.int .i64 a0_5,.int .i64 a0_6,.int .i64 a0_7,.int .i64 a0_8,.int .i64 a0_9,.int .i64 a0_10,.int .i64 a0_11,.int .i64 a0_12,.int .i64 a0_13,.int .i64 a0_14,.int .i64 a0_15,.int .i64 a0_16,.int .i64 a0_17,.int .i64 a0_18,.int .i64 a0_19,.int .i64 a0_20,.int .i64 a0_21,.int .i64 a0_22,.int .i64 a0_23,.slice A0_24 l0_24.length c0_24,.slice A0_25 l0_25.length c0_25] 28 ?_;intro gb689 hg w23 hbox hb;have BK689:=mA hbox;have GW689:=gbpB HB hg;have GE689:=gbpB HB hg;replace HB:=spB HB hb;clear hb hbox hg)|((with_reducible refine gT 3 rfl ?_);refine bE 3 #[.int .i64 a1_0,.int .i64 a1_1,.int .i64 a1_2,.int .i64 a1_3,.int .i64 a1_4,.int .i64 a1_5,.int .i64 a1_6,.int .i64 a1_7,.int .i64 a1_8,.int .i64 a1_9,.int .i64 a1_10,.int .i64 a1_11,.int .i64 a1_12,.int .i64 a1_13,.int .i64 a1_14,.int .i64 a1_15,.int .i64 a1_16,.int .i64 a1_17,.int .i64 a1_18,.int .i64 a1_19,.int .i64 a1_20,.int .i64 a1_21,.int .i64 a1_22,.int .i64 a1_23,.slice A1_24 l1_24.length c1_24,.slice A1_25 l1_25.length c1_25] 28 ?_;intro gb690 hg w24 hbox hb;have BK690:=mA hbox;have GW690:=gbpS HB hg;have GE690:=gbpS HB hg;replace HB:=spS HB hb;have NB689_690:=mA (lN (blk_lt (pK BK689.out)) hg);have NB690_689:=nS NB689_690;replace BK689:=bK BK689 hb;clear hb hbox hg;have hnb25:=NB689_690.out;have hnc25:=NB690_689.out;have hcz26_0:=fun i_=>blk_cell BK689.out i_;have hfz26_0:=fun i_=>blk_frozen BK689.out i_;have hcz27_0:=fun i_=>blk_cell BK690.out i_;have hfz27_0:=fun i_=>blk_frozen BK690.out i_)|((with_reducible refine gT 39 rfl ?_);refine gC (some 39) Try.func80 (laws_eqCmd.calls A9.out) ?_;rintro e w28 ⟨rfl,hb⟩;refine ⟨_,rfl,?_⟩;replace BK689:=bK BK689 hb;replace BK690:=bK BK690 hb;replace HB:=spS HB hb;(try clear hb);have hcz29_0:=fun i_=>blk_cell BK689.out i_;have hfz29_0:=fun i_=>blk_frozen BK689.out i_;have hcz30_0:=fun i_=>blk_cell BK690.out i_;have hfz30_0:=fun i_=>blk_frozen BK690.out i_)|((with_reducible refine gT 85 rfl ?_);refine gC (some 85) Try.func81 (laws_eqBlkPieceS.calls (cB HR0_24 HB) HC0_24.out (cB HR1_24 HB) HC1_24.out A19.out) ?_;rintro e w31 ⟨rfl,hb⟩;refine ⟨_,rfl,?_⟩;replace BK689:=bK BK689 hb;replace BK690:=bK BK690 hb;replace HB:=spS HB hb;(try clear hb);have hcz32_0:=fun i_=>blk_cell BK689.out i_;have hfz32_0:=fun i_=>blk_frozen BK689.out i_;have hcz33_0:=fun i_=>blk_cell BK690.out i_;have hfz33_0:=fun i_=>blk_frozen BK690.out i_)|((with_reducible refine gT 91 rfl ?_);refine gC (some 91) Try.func82 (laws_eqBlkLastS.calls (cB HR0_25 HB) HC0_25.out (cB HR1_25 HB) HC1_25.out A21.out) ?_;rintro e w34 ⟨rfl,hb⟩;refine ⟨_,rfl,?_⟩;replace BK689:=bK BK689 hb;replace BK690:=bK BK690 hb;replace HB:=spS HB hb;(try clear hb)))
                  go_ret
                  exact rZ (pS HB.out)
                 ·replace c22:=Bool.eq_false_iff.mpr c22;subst c22
                  rw [if_neg nFT] at H
                  obtain rfl:=Option.some.inj H
                  go_enter Try.func20,Try.ntmps20
                  go_wp2_with (first|((with_reducible refine gLg rfl (by assumption) ?_);refine ldV ?_)|((with_reducible refine gSt rfl (by assumption) ?_);refine stV ?_)|((with_reducible refine gT 2 rfl ?_);refine bE 2 #[.int .i64 a0_0,.int .i64 a0_1,.int .i64 a0_2,.int .i64 a0_3,.int .i64 a0_4,.int .i64 a0_5,.int .i64 a0_6,.int .i64 a0_7,.int .i64 a0_8,.int .i64 a0_9,.int .i64 a0_10,.int .i64 a0_11,.int .i64 a0_12,.int .i64 a0_13,.int .i64 a0_14,.int .i64 a0_15,.int .i64 a0_16,.int .i64 a0_17,.int .i64 a0_18,.int .i64 a0_19,.int .i64 a0_20,.int .i64 a0_21,.int .i64 a0_22,.int .i64 a0_23,.slice A0_24 l0_24.length c0_24,.slice A0_25 l0_25.length c0_25] 28 ?_;intro gb689 hg w35 hbox hb;have BK689:=mA hbox;have GW689:=gbpB HB hg;have GE689:=gbpB HB hg;replace HB:=spB HB hb;clear hb hbox hg)|((with_reducible refine gT 3 rfl ?_);refine bE 3 #[.int .i64 a1_0,.int .i64 a1_1,.int .i64 a1_2,.int .i64 a1_3,.int .i64 a1_4,.int .i64 a1_5,.int .i64 a1_6,.int .i64 a1_7,.int .i64 a1_8,.int .i64 a1_9,.int .i64 a1_10,.int .i64 a1_11,.int .i64 a1_12,.int .i64 a1_13,.int .i64 a1_14,.int .i64 a1_15,.int .i64 a1_16,.int .i64 a1_17,.int .i64 a1_18,.int .i64 a1_19,.int .i64 a1_20,.int .i64 a1_21,.int .i64 a1_22,.int .i64 a1_23,.slice A1_24 l1_24.length c1_24,.slice A1_25 l1_25.length c1_25] 28 ?_;intro gb690 hg w36 hbox hb;have BK690:=mA hbox;have GW690:=gbpS HB hg;have GE690:=gbpS HB hg;replace HB:=spS HB hb;have NB689_690:=mA (lN (blk_lt (pK BK689.out)) hg);have NB690_689:=nS NB689_690;replace BK689:=bK BK689 hb;clear hb hbox hg;have hnb37:=NB689_690.out;have hnc37:=NB690_689.out;have hcz38_0:=fun i_=>blk_cell BK689.out i_;have hfz38_0:=fun i_=>blk_frozen BK689.out i_;have hcz39_0:=fun i_=>blk_cell BK690.out i_;have hfz39_0:=fun i_=>blk_frozen BK690.out i_)|((with_reducible refine gT 39 rfl ?_);refine gC (some 39) Try.func80 (laws_eqCmd.calls A9.out) ?_;rintro e w40 ⟨rfl,hb⟩;refine ⟨_,rfl,?_⟩;replace BK689:=bK BK689 hb;replace BK690:=bK BK690 hb;replace HB:=spS HB hb;(try clear hb);have hcz41_0:=fun i_=>blk_cell BK689.out i_;have hfz41_0:=fun i_=>blk_frozen BK689.out i_;have hcz42_0:=fun i_=>blk_cell BK690.out i_;have hfz42_0:=fun i_=>blk_frozen BK690.out i_)|((with_reducible refine gT 85 rfl ?_);refine gC (some 85) Try.func81 (laws_eqBlkPieceS.calls (cB HR0_24 HB) HC0_24.out (cB HR1_24 HB) HC1_24.out A19.out) ?_;rintro e w43 ⟨rfl,hb⟩;refine ⟨_,rfl,?_⟩;replace BK689:=bK BK689 hb;replace BK690:=bK BK690 hb;replace HB:=spS HB hb;(try clear hb);have hcz44_0:=fun i_=>blk_cell BK689.out i_;have hfz44_0:=fun i_=>blk_frozen BK689.out i_;have hcz45_0:=fun i_=>blk_cell BK690.out i_;have hfz45_0:=fun i_=>blk_frozen BK690.out i_)|((with_reducible refine gT 91 rfl ?_);refine gC (some 91) Try.func82 (laws_eqBlkLastS.calls (cB HR0_25 HB) HC0_25.out (cB HR1_25 HB) HC1_25.out A21.out) ?_;rintro e w46 ⟨rfl,hb⟩;refine ⟨_,rfl,?_⟩;replace BK689:=bK BK689 hb;replace BK690:=bK BK690 hb;replace HB:=spS HB hb;(try clear hb)))
                  go_ret
                  exact rZ (pS HB.out)
                ·replace c20:=Bool.eq_false_iff.mpr c20;subst c20
                 rw [if_neg nFT] at H
                 obtain rfl:=Option.some.inj H
                 go_enter Try.func20,Try.ntmps20
                 go_wp2_with (first|((with_reducible refine gLg rfl (by assumption) ?_);refine ldV ?_)|((with_reducible refine gSt rfl (by assumption) ?_);refine stV ?_)|((with_reducible refine gT 2 rfl ?_);refine bE 2 #[.int .i64 a0_0,.int .i64 a0_1,.int .i64 a0_2,.int .i64 a0_3,.int .i64 a0_4,.int .i64 a0_5,.int .i64 a0_6,.int .i64 a0_7,.int .i64 a0_8,.int .i64 a0_9,.int .i64 a0_10,.int .i64 a0_11,.int .i64 a0_12,.int .i64 a0_13,.int .i64 a0_14,.int .i64 a0_15,.int .i64 a0_16,.int .i64 a0_17,.int .i64 a0_18,.int .i64 a0_19,.int .i64 a0_20,.int .i64 a0_21,.int .i64 a0_22,.int .i64 a0_23,.slice A0_24 l0_24.length c0_24,.slice A0_25 l0_25.length c0_25] 28 ?_;intro gb689 hg w47 hbox hb;have BK689:=mA hbox;have GW689:=gbpB HB hg;have GE689:=gbpB HB hg;replace HB:=spB HB hb;clear hb hbox hg)|((with_reducible refine gT 3 rfl ?_);refine bE 3 #[.int .i64 a1_0,.int .i64 a1_1,.int .i64 a1_2,.int .i64 a1_3,.int .i64 a1_4,.int .i64 a1_5,.int .i64 a1_6,.int .i64 a1_7,.int .i64 a1_8,.int .i64 a1_9,.int .i64 a1_10,.int .i64 a1_11,.int .i64 a1_12,.int .i64 a1_13,.int .i64 a1_14,.int .i64 a1_15,.int .i64 a1_16,.int .i64 a1_17,.int .i64 a1_18,.int .i64 a1_19,.int .i64 a1_20,.int .i64 a1_21,.int .i64 a1_22,.int .i64 a1_23,.slice A1_24 l1_24.length c1_24,.slice A1_25 l1_25.length c1_25] 28 ?_;intro gb690 hg w48 hbox hb;have BK690:=mA hbox;have GW690:=gbpS HB hg;have GE690:=gbpS HB hg;replace HB:=spS HB hb;have NB689_690:=mA (lN (blk_lt (pK BK689.out)) hg);have NB690_689:=nS NB689_690;replace BK689:=bK BK689 hb;clear hb hbox hg;have hnb49:=NB689_690.out;have hnc49:=NB690_689.out;have hcz50_0:=fun i_=>blk_cell BK689.out i_;have hfz50_0:=fun i_=>blk_frozen BK689.out i_;have hcz51_0:=fun i_=>blk_cell BK690.out i_;have hfz51_0:=fun i_=>blk_frozen BK690.out i_)|((with_reducible refine gT 39 rfl ?_);refine gC (some 39) Try.func80 (laws_eqCmd.calls A9.out) ?_;rintro e w52 ⟨rfl,hb⟩;refine ⟨_,rfl,?_⟩;replace BK689:=bK BK689 hb;replace BK690:=bK BK690 hb;replace HB:=spS HB hb;(try clear hb);have hcz53_0:=fun i_=>blk_cell BK689.out i_;have hfz53_0:=fun i_=>blk_frozen BK689.out i_;have hcz54_0:=fun i_=>blk_cell BK690.out i_;have hfz54_0:=fun i_=>blk_frozen BK690.out i_)|((with_reducible refine gT 85 rfl ?_);refine gC (some 85) Try.func81 (laws_eqBlkPieceS.calls (cB HR0_24 HB) HC0_24.out (cB HR1_24 HB) HC1_24.out A19.out) ?_;rintro e w55 ⟨rfl,hb⟩;refine ⟨_,rfl,?_⟩;replace BK689:=bK BK689 hb;replace BK690:=bK BK690 hb;replace HB:=spS HB hb;(try clear hb)))
                 go_ret
                 exact rZ (pS HB.out)
               ·rw [if_neg c18] at H;have c18b0:(a0_23 == a1_23)=false:=beq_eq_false_iff_ne.mpr c18;have c18b1:(a0_23 != a1_23)=true:=bne_iff_ne.mpr c18;obtain rfl:=Option.some.inj H
                go_enter Try.func20,Try.ntmps20
                go_wp2_with (first|((with_reducible refine gLg rfl (by assumption) ?_);refine ldV ?_)|((with_reducible refine gSt rfl (by assumption) ?_);refine stV ?_)|((with_reducible refine gT 2 rfl ?_);refine bE 2 #[.int .i64 a0_0,.int .i64 a0_1,.int .i64 a0_2,.int .i64 a0_3,.int .i64 a0_4,.int .i64 a0_5,.int .i64 a0_6,.int .i64 a0_7,.int .i64 a0_8,.int .i64 a0_9,.int .i64 a0_10,.int .i64 a0_11,.int .i64 a0_12,.int .i64 a0_13,.int .i64 a0_14,.int .i64 a0_15,.int .i64 a0_16,.int .i64 a0_17,.int .i64 a0_18,.int .i64 a0_19,.int .i64 a0_20,.int .i64 a0_21,.int .i64 a0_22,.int .i64 a0_23,.slice A0_24 l0_24.length c0_24,.slice A0_25 l0_25.length c0_25] 28 ?_;intro gb689 hg w56 hbox hb;have BK689:=mA hbox;have GW689:=gbpB HB hg;have GE689:=gbpB HB hg;replace HB:=spB HB hb;clear hb hbox hg)|((with_reducible refine gT 3 rfl ?_);refine bE 3 #[.int .i64 a1_0,.int .i64 a1_1,.int .i64 a1_2,.int .i64 a1_3,.int .i64 a1_4,.int .i64 a1_5,.int .i64 a1_6,.int .i64 a1_7,.int .i64 a1_8,.int .i64 a1_9,.int .i64 a1_10,.int .i64 a1_11,.int .i64 a1_12,.int .i64 a1_13,.int .i64 a1_14,.int .i64 a1_15,.int .i64 a1_16,.int .i64 a1_17,.int .i64 a1_18,.int .i64 a1_19,.int .i64 a1_20,.int .i64 a1_21,.int .i64 a1_22,.int .i64 a1_23,.slice A1_24 l1_24.length c1_24,.slice A1_25 l1_25.length c1_25] 28 ?_;intro gb690 hg w57 hbox hb;have BK690:=mA hbox;have GW690:=gbpS HB hg;have GE690:=gbpS HB hg;replace HB:=spS HB hb;have NB689_690:=mA (lN (blk_lt (pK BK689.out)) hg);have NB690_689:=nS NB689_690;replace BK689:=bK BK689 hb;clear hb hbox hg;have hnb58:=NB689_690.out;have hnc58:=NB690_689.out;have hcz59_0:=fun i_=>blk_cell BK689.out i_;have hfz59_0:=fun i_=>blk_frozen BK689.out i_;have hcz60_0:=fun i_=>blk_cell BK690.out i_;have hfz60_0:=fun i_=>blk_frozen BK690.out i_)|((with_reducible refine gT 39 rfl ?_);refine gC (some 39) Try.func80 (laws_eqCmd.calls A9.out) ?_;rintro e w61 ⟨rfl,hb⟩;refine ⟨_,rfl,?_⟩;replace BK689:=bK BK689 hb;replace BK690:=bK BK690 hb;replace HB:=spS HB hb;(try clear hb);have hcz62_0:=fun i_=>blk_cell BK689.out i_;have hfz62_0:=fun i_=>blk_frozen BK689.out i_;have hcz63_0:=fun i_=>blk_cell BK690.out i_;have hfz63_0:=fun i_=>blk_frozen BK690.out i_))
                go_ret
                exact rZ (pS HB.out)
              ·rw [if_neg c17] at H;have c17b0:(a0_22 == a1_22)=false:=beq_eq_false_iff_ne.mpr c17;have c17b1:(a0_22 != a1_22)=true:=bne_iff_ne.mpr c17;obtain rfl:=Option.some.inj H
               go_enter Try.func20,Try.ntmps20
               go_wp2_with (first|((with_reducible refine gLg rfl (by assumption) ?_);refine ldV ?_)|((with_reducible refine gSt rfl (by assumption) ?_);refine stV ?_)|((with_reducible refine gT 2 rfl ?_);refine bE 2 #[.int .i64 a0_0,.int .i64 a0_1,.int .i64 a0_2,.int .i64 a0_3,.int .i64 a0_4,.int .i64 a0_5,.int .i64 a0_6,.int .i64 a0_7,.int .i64 a0_8,.int .i64 a0_9,.int .i64 a0_10,.int .i64 a0_11,.int .i64 a0_12,.int .i64 a0_13,.int .i64 a0_14,.int .i64 a0_15,.int .i64 a0_16,.int .i64 a0_17,.int .i64 a0_18,.int .i64 a0_19,.int .i64 a0_20,.int .i64 a0_21,.int .i64 a0_22,.int .i64 a0_23,.slice A0_24 l0_24.length c0_24,.slice A0_25 l0_25.length c0_25] 28 ?_;intro gb689 hg w64 hbox hb;have BK689:=mA hbox;have GW689:=gbpB HB hg;have GE689:=gbpB HB hg;replace HB:=spB HB hb;clear hb hbox hg)|((with_reducible refine gT 3 rfl ?_);refine bE 3 #[.int .i64 a1_0,.int .i64 a1_1,.int .i64 a1_2,.int .i64 a1_3,.int .i64 a1_4,.int .i64 a1_5,.int .i64 a1_6,.int .i64 a1_7,.int .i64 a1_8,.int .i64 a1_9,.int .i64 a1_10,.int .i64 a1_11,.int .i64 a1_12,.int .i64 a1_13,.int .i64 a1_14,.int .i64 a1_15,.int .i64 a1_16,.int .i64 a1_17,.int .i64 a1_18,.int .i64 a1_19,.int .i64 a1_20,.int .i64 a1_21,.int .i64 a1_22,.int .i64 a1_23,.slice A1_24 l1_24.length c1_24,.slice A1_25 l1_25.length c1_25] 28 ?_;intro gb690 hg w65 hbox hb;have BK690:=mA hbox;have GW690:=gbpS HB hg;have GE690:=gbpS HB hg;replace HB:=spS HB hb;have NB689_690:=mA (lN (blk_lt (pK BK689.out)) hg);have NB690_689:=nS NB689_690;replace BK689:=bK BK689 hb;clear hb hbox hg;have hnb66:=NB689_690.out;have hnc66:=NB690_689.out;have hcz67_0:=fun i_=>blk_cell BK689.out i_;have hfz67_0:=fun i_=>blk_frozen BK689.out i_;have hcz68_0:=fun i_=>blk_cell BK690.out i_;have hfz68_0:=fun i_=>blk_frozen BK690.out i_)|((with_reducible refine gT 39 rfl ?_);refine gC (some 39) Try.func80 (laws_eqCmd.calls A9.out) ?_;rintro e w69 ⟨rfl,hb⟩;refine ⟨_,rfl,?_⟩;replace BK689:=bK BK689 hb;replace BK690:=bK BK690 hb;replace HB:=spS HB hb;(try clear hb);have hcz70_0:=fun i_=>blk_cell BK689.out i_;have hfz70_0:=fun i_=>blk_frozen BK689.out i_;have hcz71_0:=fun i_=>blk_cell BK690.out i_;have hfz71_0:=fun i_=>blk_frozen BK690.out i_))
               go_ret
               exact rZ (pS HB.out)
             ·rw [if_neg c16] at H;have c16b0:(a0_21 == a1_21)=false:=beq_eq_false_iff_ne.mpr c16;have c16b1:(a0_21 != a1_21)=true:=bne_iff_ne.mpr c16;obtain rfl:=Option.some.inj H
              go_enter Try.func20,Try.ntmps20
              go_wp2_with (first|((with_reducible refine gLg rfl (by assumption) ?_);refine ldV ?_)|((with_reducible refine gSt rfl (by assumption) ?_);refine stV ?_)|((with_reducible refine gT 2 rfl ?_);refine bE 2 #[.int .i64 a0_0,.int .i64 a0_1,.int .i64 a0_2,.int .i64 a0_3,.int .i64 a0_4,.int .i64 a0_5,.int .i64 a0_6,.int .i64 a0_7,.int .i64 a0_8,.int .i64 a0_9,.int .i64 a0_10,.int .i64 a0_11,.int .i64 a0_12,.int .i64 a0_13,.int .i64 a0_14,.int .i64 a0_15,.int .i64 a0_16,.int .i64 a0_17,.int .i64 a0_18,.int .i64 a0_19,.int .i64 a0_20,.int .i64 a0_21,.int .i64 a0_22,.int .i64 a0_23,.slice A0_24 l0_24.length c0_24,.slice A0_25 l0_25.length c0_25] 28 ?_;intro gb689 hg w72 hbox hb;have BK689:=mA hbox;have GW689:=gbpB HB hg;have GE689:=gbpB HB hg;replace HB:=spB HB hb;clear hb hbox hg)|((with_reducible refine gT 3 rfl ?_);refine bE 3 #[.int .i64 a1_0,.int .i64 a1_1,.int .i64 a1_2,.int .i64 a1_3,.int .i64 a1_4,.int .i64 a1_5,.int .i64 a1_6,.int .i64 a1_7,.int .i64 a1_8,.int .i64 a1_9,.int .i64 a1_10,.int .i64 a1_11,.int .i64 a1_12,.int .i64 a1_13,.int .i64 a1_14,.int .i64 a1_15,.int .i64 a1_16,.int .i64 a1_17,.int .i64 a1_18,.int .i64 a1_19,.int .i64 a1_20,.int .i64 a1_21,.int .i64 a1_22,.int .i64 a1_23,.slice A1_24 l1_24.length c1_24,.slice A1_25 l1_25.length c1_25] 28 ?_;intro gb690 hg w73 hbox hb;have BK690:=mA hbox;have GW690:=gbpS HB hg;have GE690:=gbpS HB hg;replace HB:=spS HB hb;have NB689_690:=mA (lN (blk_lt (pK BK689.out)) hg);have NB690_689:=nS NB689_690;replace BK689:=bK BK689 hb;clear hb hbox hg;have hnb74:=NB689_690.out;have hnc74:=NB690_689.out;have hcz75_0:=fun i_=>blk_cell BK689.out i_;have hfz75_0:=fun i_=>blk_frozen BK689.out i_;have hcz76_0:=fun i_=>blk_cell BK690.out i_;have hfz76_0:=fun i_=>blk_frozen BK690.out i_)|((with_reducible refine gT 39 rfl ?_);refine gC (some 39) Try.func80 (laws_eqCmd.calls A9.out) ?_;rintro e w77 ⟨rfl,hb⟩;refine ⟨_,rfl,?_⟩;replace BK689:=bK BK689 hb;replace BK690:=bK BK690 hb;replace HB:=spS HB hb;(try clear hb);have hcz78_0:=fun i_=>blk_cell BK689.out i_;have hfz78_0:=fun i_=>blk_frozen BK689.out i_;have hcz79_0:=fun i_=>blk_cell BK690.out i_;have hfz79_0:=fun i_=>blk_frozen BK690.out i_))
              go_ret
              exact rZ (pS HB.out)
            ·rw [if_neg c15] at H;have c15b0:(a0_20 == a1_20)=false:=beq_eq_false_iff_ne.mpr c15;have c15b1:(a0_20 != a1_20)=true:=bne_iff_ne.mpr c15;obtain rfl:=Option.some.inj H
             go_enter Try.func20,Try.ntmps20
             go_wp2_with (first|((with_reducible refine gLg rfl (by assumption) ?_);refine ldV ?_)|((with_reducible refine gSt rfl (by assumption) ?_);refine stV ?_)|((with_reducible refine gT 2 rfl ?_);refine bE 2 #[.int .i64 a0_0,.int .i64 a0_1,.int .i64 a0_2,.int .i64 a0_3,.int .i64 a0_4,.int .i64 a0_5,.int .i64 a0_6,.int .i64 a0_7,.int .i64 a0_8,.int .i64 a0_9,.int .i64 a0_10,.int .i64 a0_11,.int .i64 a0_12,.int .i64 a0_13,.int .i64 a0_14,.int .i64 a0_15,.int .i64 a0_16,.int .i64 a0_17,.int .i64 a0_18,.int .i64 a0_19,.int .i64 a0_20,.int .i64 a0_21,.int .i64 a0_22,.int .i64 a0_23,.slice A0_24 l0_24.length c0_24,.slice A0_25 l0_25.length c0_25] 28 ?_;intro gb689 hg w80 hbox hb;have BK689:=mA hbox;have GW689:=gbpB HB hg;have GE689:=gbpB HB hg;replace HB:=spB HB hb;clear hb hbox hg)|((with_reducible refine gT 3 rfl ?_);refine bE 3 #[.int .i64 a1_0,.int .i64 a1_1,.int .i64 a1_2,.int .i64 a1_3,.int .i64 a1_4,.int .i64 a1_5,.int .i64 a1_6,.int .i64 a1_7,.int .i64 a1_8,.int .i64 a1_9,.int .i64 a1_10,.int .i64 a1_11,.int .i64 a1_12,.int .i64 a1_13,.int .i64 a1_14,.int .i64 a1_15,.int .i64 a1_16,.int .i64 a1_17,.int .i64 a1_18,.int .i64 a1_19,.int .i64 a1_20,.int .i64 a1_21,.int .i64 a1_22,.int .i64 a1_23,.slice A1_24 l1_24.length c1_24,.slice A1_25 l1_25.length c1_25] 28 ?_;intro gb690 hg w81 hbox hb;have BK690:=mA hbox;have GW690:=gbpS HB hg;have GE690:=gbpS HB hg;replace HB:=spS HB hb;have NB689_690:=mA (lN (blk_lt (pK BK689.out)) hg);have NB690_689:=nS NB689_690;replace BK689:=bK BK689 hb;clear hb hbox hg;have hnb82:=NB689_690.out;have hnc82:=NB690_689.out;have hcz83_0:=fun i_=>blk_cell BK689.out i_;have hfz83_0:=fun i_=>blk_frozen BK689.out i_;have hcz84_0:=fun i_=>blk_cell BK690.out i_;have hfz84_0:=fun i_=>blk_frozen BK690.out i_)|((with_reducible refine gT 39 rfl ?_);refine gC (some 39) Try.func80 (laws_eqCmd.calls A9.out) ?_;rintro e w85 ⟨rfl,hb⟩;refine ⟨_,rfl,?_⟩;replace BK689:=bK BK689 hb;replace BK690:=bK BK690 hb;replace HB:=spS HB hb;(try clear hb);have hcz86_0:=fun i_=>blk_cell BK689.out i_;have hfz86_0:=fun i_=>blk_frozen BK689.out i_;have hcz87_0:=fun i_=>blk_cell BK690.out i_;have hfz87_0:=fun i_=>blk_frozen BK690.out i_))
             go_ret
             exact rZ (pS HB.out)
           ·rw [if_neg c14] at H;have c14b0:(a0_19 == a1_19)=false:=beq_eq_false_iff_ne.mpr c14;have c14b1:(a0_19 != a1_19)=true:=bne_iff_ne.mpr c14;obtain rfl:=Option.some.inj H
            go_enter Try.func20,Try.ntmps20
            go_wp2_with (first|((with_reducible refine gLg rfl (by assumption) ?_);refine ldV ?_)|((with_reducible refine gSt rfl (by assumption) ?_);refine stV ?_)|((with_reducible refine gT 2 rfl ?_);refine bE 2 #[.int .i64 a0_0,.int .i64 a0_1,.int .i64 a0_2,.int .i64 a0_3,.int .i64 a0_4,.int .i64 a0_5,.int .i64 a0_6,.int .i64 a0_7,.int .i64 a0_8,.int .i64 a0_9,.int .i64 a0_10,.int .i64 a0_11,.int .i64 a0_12,.int .i64 a0_13,.int .i64 a0_14,.int .i64 a0_15,.int .i64 a0_16,.int .i64 a0_17,.int .i64 a0_18,.int .i64 a0_19,.int .i64 a0_20,.int .i64 a0_21,.int .i64 a0_22,.int .i64 a0_23,.slice A0_24 l0_24.length c0_24,.slice A0_25 l0_25.length c0_25] 28 ?_;intro gb689 hg w88 hbox hb;have BK689:=mA hbox;have GW689:=gbpB HB hg;have GE689:=gbpB HB hg;replace HB:=spB HB hb;clear hb hbox hg)|((with_reducible refine gT 3 rfl ?_);refine bE 3 #[.int .i64 a1_0,.int .i64 a1_1,.int .i64 a1_2,.int .i64 a1_3,.int .i64 a1_4,.int .i64 a1_5,.int .i64 a1_6,.int .i64 a1_7,.int .i64 a1_8,.int .i64 a1_9,.int .i64 a1_10,.int .i64 a1_11,.int .i64 a1_12,.int .i64 a1_13,.int .i64 a1_14,.int .i64 a1_15,.int .i64 a1_16,.int .i64 a1_17,.int .i64 a1_18,.int .i64 a1_19,.int .i64 a1_20,.int .i64 a1_21,.int .i64 a1_22,.int .i64 a1_23,.slice A1_24 l1_24.length c1_24,.slice A1_25 l1_25.length c1_25] 28 ?_;intro gb690 hg w89 hbox hb;have BK690:=mA hbox;have GW690:=gbpS HB hg;have GE690:=gbpS HB hg;replace HB:=spS HB hb;have NB689_690:=mA (lN (blk_lt (pK BK689.out)) hg);have NB690_689:=nS NB689_690;replace BK689:=bK BK689 hb;clear hb hbox hg;have hnb90:=NB689_690.out;have hnc90:=NB690_689.out;have hcz91_0:=fun i_=>blk_cell BK689.out i_;have hfz91_0:=fun i_=>blk_frozen BK689.out i_;have hcz92_0:=fun i_=>blk_cell BK690.out i_;have hfz92_0:=fun i_=>blk_frozen BK690.out i_)|((with_reducible refine gT 39 rfl ?_);refine gC (some 39) Try.func80 (laws_eqCmd.calls A9.out) ?_;rintro e w93 ⟨rfl,hb⟩;refine ⟨_,rfl,?_⟩;replace BK689:=bK BK689 hb;replace BK690:=bK BK690 hb;replace HB:=spS HB hb;(try clear hb);have hcz94_0:=fun i_=>blk_cell BK689.out i_;have hfz94_0:=fun i_=>blk_frozen BK689.out i_;have hcz95_0:=fun i_=>blk_cell BK690.out i_;have hfz95_0:=fun i_=>blk_frozen BK690.out i_))
            go_ret
            exact rZ (pS HB.out)
          ·rw [if_neg c13] at H;have c13b0:(a0_18 == a1_18)=false:=beq_eq_false_iff_ne.mpr c13;have c13b1:(a0_18 != a1_18)=true:=bne_iff_ne.mpr c13;obtain rfl:=Option.some.inj H
           go_enter Try.func20,Try.ntmps20
           go_wp2_with (first|((with_reducible refine gLg rfl (by assumption) ?_);refine ldV ?_)|((with_reducible refine gSt rfl (by assumption) ?_);refine stV ?_)|((with_reducible refine gT 2 rfl ?_);refine bE 2 #[.int .i64 a0_0,.int .i64 a0_1,.int .i64 a0_2,.int .i64 a0_3,.int .i64 a0_4,.int .i64 a0_5,.int .i64 a0_6,.int .i64 a0_7,.int .i64 a0_8,.int .i64 a0_9,.int .i64 a0_10,.int .i64 a0_11,.int .i64 a0_12,.int .i64 a0_13,.int .i64 a0_14,.int .i64 a0_15,.int .i64 a0_16,.int .i64 a0_17,.int .i64 a0_18,.int .i64 a0_19,.int .i64 a0_20,.int .i64 a0_21,.int .i64 a0_22,.int .i64 a0_23,.slice A0_24 l0_24.length c0_24,.slice A0_25 l0_25.length c0_25] 28 ?_;intro gb689 hg w96 hbox hb;have BK689:=mA hbox;have GW689:=gbpB HB hg;have GE689:=gbpB HB hg;replace HB:=spB HB hb;clear hb hbox hg)|((with_reducible refine gT 3 rfl ?_);refine bE 3 #[.int .i64 a1_0,.int .i64 a1_1,.int .i64 a1_2,.int .i64 a1_3,.int .i64 a1_4,.int .i64 a1_5,.int .i64 a1_6,.int .i64 a1_7,.int .i64 a1_8,.int .i64 a1_9,.int .i64 a1_10,.int .i64 a1_11,.int .i64 a1_12,.int .i64 a1_13,.int .i64 a1_14,.int .i64 a1_15,.int .i64 a1_16,.int .i64 a1_17,.int .i64 a1_18,.int .i64 a1_19,.int .i64 a1_20,.int .i64 a1_21,.int .i64 a1_22,.int .i64 a1_23,.slice A1_24 l1_24.length c1_24,.slice A1_25 l1_25.length c1_25] 28 ?_;intro gb690 hg w97 hbox hb;have BK690:=mA hbox;have GW690:=gbpS HB hg;have GE690:=gbpS HB hg;replace HB:=spS HB hb;have NB689_690:=mA (lN (blk_lt (pK BK689.out)) hg);have NB690_689:=nS NB689_690;replace BK689:=bK BK689 hb;clear hb hbox hg;have hnb98:=NB689_690.out;have hnc98:=NB690_689.out;have hcz99_0:=fun i_=>blk_cell BK689.out i_;have hfz99_0:=fun i_=>blk_frozen BK689.out i_;have hcz100_0:=fun i_=>blk_cell BK690.out i_;have hfz100_0:=fun i_=>blk_frozen BK690.out i_)|((with_reducible refine gT 39 rfl ?_);refine gC (some 39) Try.func80 (laws_eqCmd.calls A9.out) ?_;rintro e w101 ⟨rfl,hb⟩;refine ⟨_,rfl,?_⟩;replace BK689:=bK BK689 hb;replace BK690:=bK BK690 hb;replace HB:=spS HB hb;(try clear hb);have hcz102_0:=fun i_=>blk_cell BK689.out i_;have hfz102_0:=fun i_=>blk_frozen BK689.out i_;have hcz103_0:=fun i_=>blk_cell BK690.out i_;have hfz103_0:=fun i_=>blk_frozen BK690.out i_))
           go_ret
           exact rZ (pS HB.out)
         ·rw [if_neg c12] at H;have c12b0:(a0_17 == a1_17)=false:=beq_eq_false_iff_ne.mpr c12;have c12b1:(a0_17 != a1_17)=true:=bne_iff_ne.mpr c12;obtain rfl:=Option.some.inj H
          go_enter Try.func20,Try.ntmps20
          go_wp2_with (first|((with_reducible refine gLg rfl (by assumption) ?_);refine ldV ?_)|((with_reducible refine gSt rfl (by assumption) ?_);refine stV ?_)|((with_reducible refine gT 2 rfl ?_);refine bE 2 #[.int .i64 a0_0,.int .i64 a0_1,.int .i64 a0_2,.int .i64 a0_3,.int .i64 a0_4,.int .i64 a0_5,.int .i64 a0_6,.int .i64 a0_7,.int .i64 a0_8,.int .i64 a0_9,.int .i64 a0_10,.int .i64 a0_11,.int .i64 a0_12,.int .i64 a0_13,.int .i64 a0_14,.int .i64 a0_15,.int .i64 a0_16,.int .i64 a0_17,.int .i64 a0_18,.int .i64 a0_19,.int .i64 a0_20,.int .i64 a0_21,.int .i64 a0_22,.int .i64 a0_23,.slice A0_24 l0_24.length c0_24,.slice A0_25 l0_25.length c0_25] 28 ?_;intro gb689 hg w104 hbox hb;have BK689:=mA hbox;have GW689:=gbpB HB hg;have GE689:=gbpB HB hg;replace HB:=spB HB hb;clear hb hbox hg)|((with_reducible refine gT 3 rfl ?_);refine bE 3 #[.int .i64 a1_0,.int .i64 a1_1,.int .i64 a1_2,.int .i64 a1_3,.int .i64 a1_4,.int .i64 a1_5,.int .i64 a1_6,.int .i64 a1_7,.int .i64 a1_8,.int .i64 a1_9,.int .i64 a1_10,.int .i64 a1_11,.int .i64 a1_12,.int .i64 a1_13,.int .i64 a1_14,.int .i64 a1_15,.int .i64 a1_16,.int .i64 a1_17,.int .i64 a1_18,.int .i64 a1_19,.int .i64 a1_20,.int .i64 a1_21,.int .i64 a1_22,.int .i64 a1_23,.slice A1_24 l1_24.length c1_24,.slice A1_25 l1_25.length c1_25] 28 ?_;intro gb690 hg w105 hbox hb;have BK690:=mA hbox;have GW690:=gbpS HB hg;have GE690:=gbpS HB hg;replace HB:=spS HB hb;have NB689_690:=mA (lN (blk_lt (pK BK689.out)) hg);have NB690_689:=nS NB689_690;replace BK689:=bK BK689 hb;clear hb hbox hg;have hnb106:=NB689_690.out;have hnc106:=NB690_689.out;have hcz107_0:=fun i_=>blk_cell BK689.out i_;have hfz107_0:=fun i_=>blk_frozen BK689.out i_;have hcz108_0:=fun i_=>blk_cell BK690.out i_;have hfz108_0:=fun i_=>blk_frozen BK690.out i_)|((with_reducible refine gT 39 rfl ?_);refine gC (some 39) Try.func80 (laws_eqCmd.calls A9.out) ?_;rintro e w109 ⟨rfl,hb⟩;refine ⟨_,rfl,?_⟩;replace BK689:=bK BK689 hb;replace BK690:=bK BK690 hb;replace HB:=spS HB hb;(try clear hb);have hcz110_0:=fun i_=>blk_cell BK689.out i_;have hfz110_0:=fun i_=>blk_frozen BK689.out i_;have hcz111_0:=fun i_=>blk_cell BK690.out i_;have hfz111_0:=fun i_=>blk_frozen BK690.out i_))
          go_ret
          exact rZ (pS HB.out)
        ·rw [if_neg c11] at H;have c11b0:(a0_16 == a1_16)=false:=beq_eq_false_iff_ne.mpr c11;have c11b1:(a0_16 != a1_16)=true:=bne_iff_ne.mpr c11;obtain rfl:=Option.some.inj H
         go_enter Try.func20,Try.ntmps20
         go_wp2_with (first|((with_reducible refine gLg rfl (by assumption) ?_);refine ldV ?_)|((with_reducible refine gSt rfl (by assumption) ?_);refine stV ?_)|((with_reducible refine gT 2 rfl ?_);refine bE 2 #[.int .i64 a0_0,.int .i64 a0_1,.int .i64 a0_2,.int .i64 a0_3,.int .i64 a0_4,.int .i64 a0_5,.int .i64 a0_6,.int .i64 a0_7,.int .i64 a0_8,.int .i64 a0_9,.int .i64 a0_10,.int .i64 a0_11,.int .i64 a0_12,.int .i64 a0_13,.int .i64 a0_14,.int .i64 a0_15,.int .i64 a0_16,.int .i64 a0_17,.int .i64 a0_18,.int .i64 a0_19,.int .i64 a0_20,.int .i64 a0_21,.int .i64 a0_22,.int .i64 a0_23,.slice A0_24 l0_24.length c0_24,.slice A0_25 l0_25.length c0_25] 28 ?_;intro gb689 hg w112 hbox hb;have BK689:=mA hbox;have GW689:=gbpB HB hg;have GE689:=gbpB HB hg;replace HB:=spB HB hb;clear hb hbox hg)|((with_reducible refine gT 3 rfl ?_);refine bE 3 #[.int .i64 a1_0,.int .i64 a1_1,.int .i64 a1_2,.int .i64 a1_3,.int .i64 a1_4,.int .i64 a1_5,.int .i64 a1_6,.int .i64 a1_7,.int .i64 a1_8,.int .i64 a1_9,.int .i64 a1_10,.int .i64 a1_11,.int .i64 a1_12,.int .i64 a1_13,.int .i64 a1_14,.int .i64 a1_15,.int .i64 a1_16,.int .i64 a1_17,.int .i64 a1_18,.int .i64 a1_19,.int .i64 a1_20,.int .i64 a1_21,.int .i64 a1_22,.int .i64 a1_23,.slice A1_24 l1_24.length c1_24,.slice A1_25 l1_25.length c1_25] 28 ?_;intro gb690 hg w113 hbox hb;have BK690:=mA hbox;have GW690:=gbpS HB hg;have GE690:=gbpS HB hg;replace HB:=spS HB hb;have NB689_690:=mA (lN (blk_lt (pK BK689.out)) hg);have NB690_689:=nS NB689_690;replace BK689:=bK BK689 hb;clear hb hbox hg;have hnb114:=NB689_690.out;have hnc114:=NB690_689.out;have hcz115_0:=fun i_=>blk_cell BK689.out i_;have hfz115_0:=fun i_=>blk_frozen BK689.out i_;have hcz116_0:=fun i_=>blk_cell BK690.out i_;have hfz116_0:=fun i_=>blk_frozen BK690.out i_)|((with_reducible refine gT 39 rfl ?_);refine gC (some 39) Try.func80 (laws_eqCmd.calls A9.out) ?_;rintro e w117 ⟨rfl,hb⟩;refine ⟨_,rfl,?_⟩;replace BK689:=bK BK689 hb;replace BK690:=bK BK690 hb;replace HB:=spS HB hb;(try clear hb);have hcz118_0:=fun i_=>blk_cell BK689.out i_;have hfz118_0:=fun i_=>blk_frozen BK689.out i_;have hcz119_0:=fun i_=>blk_cell BK690.out i_;have hfz119_0:=fun i_=>blk_frozen BK690.out i_))
         go_ret
         exact rZ (pS HB.out)
       ·replace c10:=Bool.eq_false_iff.mpr c10;subst c10
        rw [if_neg nFT] at H
        obtain rfl:=Option.some.inj H
        go_enter Try.func20,Try.ntmps20
        go_wp2_with (first|((with_reducible refine gLg rfl (by assumption) ?_);refine ldV ?_)|((with_reducible refine gSt rfl (by assumption) ?_);refine stV ?_)|((with_reducible refine gT 2 rfl ?_);refine bE 2 #[.int .i64 a0_0,.int .i64 a0_1,.int .i64 a0_2,.int .i64 a0_3,.int .i64 a0_4,.int .i64 a0_5,.int .i64 a0_6,.int .i64 a0_7,.int .i64 a0_8,.int .i64 a0_9,.int .i64 a0_10,.int .i64 a0_11,.int .i64 a0_12,.int .i64 a0_13,.int .i64 a0_14,.int .i64 a0_15,.int .i64 a0_16,.int .i64 a0_17,.int .i64 a0_18,.int .i64 a0_19,.int .i64 a0_20,.int .i64 a0_21,.int .i64 a0_22,.int .i64 a0_23,.slice A0_24 l0_24.length c0_24,.slice A0_25 l0_25.length c0_25] 28 ?_;intro gb689 hg w120 hbox hb;have BK689:=mA hbox;have GW689:=gbpB HB hg;have GE689:=gbpB HB hg;replace HB:=spB HB hb;clear hb hbox hg)|((with_reducible refine gT 3 rfl ?_);refine bE 3 #[.int .i64 a1_0,.int .i64 a1_1,.int .i64 a1_2,.int .i64 a1_3,.int .i64 a1_4,.int .i64 a1_5,.int .i64 a1_6,.int .i64 a1_7,.int .i64 a1_8,.int .i64 a1_9,.int .i64 a1_10,.int .i64 a1_11,.int .i64 a1_12,.int .i64 a1_13,.int .i64 a1_14,.int .i64 a1_15,.int .i64 a1_16,.int .i64 a1_17,.int .i64 a1_18,.int .i64 a1_19,.int .i64 a1_20,.int .i64 a1_21,.int .i64 a1_22,.int .i64 a1_23,.slice A1_24 l1_24.length c1_24,.slice A1_25 l1_25.length c1_25] 28 ?_;intro gb690 hg w121 hbox hb;have BK690:=mA hbox;have GW690:=gbpS HB hg;have GE690:=gbpS HB hg;replace HB:=spS HB hb;have NB689_690:=mA (lN (blk_lt (pK BK689.out)) hg);have NB690_689:=nS NB689_690;replace BK689:=bK BK689 hb;clear hb hbox hg;have hnb122:=NB689_690.out;have hnc122:=NB690_689.out;have hcz123_0:=fun i_=>blk_cell BK689.out i_;have hfz123_0:=fun i_=>blk_frozen BK689.out i_;have hcz124_0:=fun i_=>blk_cell BK690.out i_;have hfz124_0:=fun i_=>blk_frozen BK690.out i_)|((with_reducible refine gT 39 rfl ?_);refine gC (some 39) Try.func80 (laws_eqCmd.calls A9.out) ?_;rintro e w125 ⟨rfl,hb⟩;refine ⟨_,rfl,?_⟩;replace BK689:=bK BK689 hb;replace BK690:=bK BK690 hb;replace HB:=spS HB hb;(try clear hb)))
        go_ret
        exact rZ (pS HB.out)
      ·rw [if_neg c8] at H;have c8b0:(a0_5 == a1_5)=false:=beq_eq_false_iff_ne.mpr c8;have c8b1:(a0_5 != a1_5)=true:=bne_iff_ne.mpr c8;obtain rfl:=Option.some.inj H
       go_enter Try.func20,Try.ntmps20
       go_wp2_with (first|((with_reducible refine gLg rfl (by assumption) ?_);refine ldV ?_)|((with_reducible refine gSt rfl (by assumption) ?_);refine stV ?_)|((with_reducible refine gT 2 rfl ?_);refine bE 2 #[.int .i64 a0_0,.int .i64 a0_1,.int .i64 a0_2,.int .i64 a0_3,.int .i64 a0_4,.int .i64 a0_5,.int .i64 a0_6,.int .i64 a0_7,.int .i64 a0_8,.int .i64 a0_9,.int .i64 a0_10,.int .i64 a0_11,.int .i64 a0_12,.int .i64 a0_13,.int .i64 a0_14,.int .i64 a0_15,.int .i64 a0_16,.int .i64 a0_17,.int .i64 a0_18,.int .i64 a0_19,.int .i64 a0_20,.int .i64 a0_21,.int .i64 a0_22,.int .i64 a0_23,.slice A0_24 l0_24.length c0_24,.slice A0_25 l0_25.length c0_25] 28 ?_;intro gb689 hg w126 hbox hb;have BK689:=mA hbox;have GW689:=gbpB HB hg;have GE689:=gbpB HB hg;replace HB:=spB HB hb;clear hb hbox hg)|((with_reducible refine gT 3 rfl ?_);refine bE 3 #[.int .i64 a1_0,.int .i64 a1_1,.int .i64 a1_2,.int .i64 a1_3,.int .i64 a1_4,.int .i64 a1_5,.int .i64 a1_6,.int .i64 a1_7,.int .i64 a1_8,.int .i64 a1_9,.int .i64 a1_10,.int .i64 a1_11,.int .i64 a1_12,.int .i64 a1_13,.int .i64 a1_14,.int .i64 a1_15,.int .i64 a1_16,.int .i64 a1_17,.int .i64 a1_18,.int .i64 a1_19,.int .i64 a1_20,.int .i64 a1_21,.int .i64 a1_22,.int .i64 a1_23,.slice A1_24 l1_24.length c1_24,.slice A1_25 l1_25.length c1_25] 28 ?_;intro gb690 hg w127 hbox hb;have BK690:=mA hbox;have GW690:=gbpS HB hg;have GE690:=gbpS HB hg;replace HB:=spS HB hb;have NB689_690:=mA (lN (blk_lt (pK BK689.out)) hg);have NB690_689:=nS NB689_690;replace BK689:=bK BK689 hb;clear hb hbox hg;have hnb128:=NB689_690.out;have hnc128:=NB690_689.out;have hcz129_0:=fun i_=>blk_cell BK689.out i_;have hfz129_0:=fun i_=>blk_frozen BK689.out i_;have hcz130_0:=fun i_=>blk_cell BK690.out i_;have hfz130_0:=fun i_=>blk_frozen BK690.out i_))
       go_ret
       exact rZ (pS HB.out)
     ·rw [if_neg c7] at H;have c7b0:(a0_4 == a1_4)=false:=beq_eq_false_iff_ne.mpr c7;have c7b1:(a0_4 != a1_4)=true:=bne_iff_ne.mpr c7;obtain rfl:=Option.some.inj H
      go_enter Try.func20,Try.ntmps20
      go_wp2_with (first|((with_reducible refine gLg rfl (by assumption) ?_);refine ldV ?_)|((with_reducible refine gSt rfl (by assumption) ?_);refine stV ?_)|((with_reducible refine gT 2 rfl ?_);refine bE 2 #[.int .i64 a0_0,.int .i64 a0_1,.int .i64 a0_2,.int .i64 a0_3,.int .i64 a0_4,.int .i64 a0_5,.int .i64 a0_6,.int .i64 a0_7,.int .i64 a0_8,.int .i64 a0_9,.int .i64 a0_10,.int .i64 a0_11,.int .i64 a0_12,.int .i64 a0_13,.int .i64 a0_14,.int .i64 a0_15,.int .i64 a0_16,.int .i64 a0_17,.int .i64 a0_18,.int .i64 a0_19,.int .i64 a0_20,.int .i64 a0_21,.int .i64 a0_22,.int .i64 a0_23,.slice A0_24 l0_24.length c0_24,.slice A0_25 l0_25.length c0_25] 28 ?_;intro gb689 hg w131 hbox hb;have BK689:=mA hbox;have GW689:=gbpB HB hg;have GE689:=gbpB HB hg;replace HB:=spB HB hb;clear hb hbox hg)|((with_reducible refine gT 3 rfl ?_);refine bE 3 #[.int .i64 a1_0,.int .i64 a1_1,.int .i64 a1_2,.int .i64 a1_3,.int .i64 a1_4,.int .i64 a1_5,.int .i64 a1_6,.int .i64 a1_7,.int .i64 a1_8,.int .i64 a1_9,.int .i64 a1_10,.int .i64 a1_11,.int .i64 a1_12,.int .i64 a1_13,.int .i64 a1_14,.int .i64 a1_15,.int .i64 a1_16,.int .i64 a1_17,.int .i64 a1_18,.int .i64 a1_19,.int .i64 a1_20,.int .i64 a1_21,.int .i64 a1_22,.int .i64 a1_23,.slice A1_24 l1_24.length c1_24,.slice A1_25 l1_25.length c1_25] 28 ?_;intro gb690 hg w132 hbox hb;have BK690:=mA hbox;have GW690:=gbpS HB hg;have GE690:=gbpS HB hg;replace HB:=spS HB hb;have NB689_690:=mA (lN (blk_lt (pK BK689.out)) hg);have NB690_689:=nS NB689_690;replace BK689:=bK BK689 hb;clear hb hbox hg;have hnb133:=NB689_690.out;have hnc133:=NB690_689.out;have hcz134_0:=fun i_=>blk_cell BK689.out i_;have hfz134_0:=fun i_=>blk_frozen BK689.out i_;have hcz135_0:=fun i_=>blk_cell BK690.out i_;have hfz135_0:=fun i_=>blk_frozen BK690.out i_))
      go_ret
      exact rZ (pS HB.out)
    ·rw [if_neg c6] at H;have c6b0:(a0_3 == a1_3)=false:=beq_eq_false_iff_ne.mpr c6;have c6b1:(a0_3 != a1_3)=true:=bne_iff_ne.mpr c6;obtain rfl:=Option.some.inj H
     go_enter Try.func20,Try.ntmps20
     go_wp2_with (first|((with_reducible refine gLg rfl (by assumption) ?_);refine ldV ?_)|((with_reducible refine gSt rfl (by assumption) ?_);refine stV ?_)|((with_reducible refine gT 2 rfl ?_);refine bE 2 #[.int .i64 a0_0,.int .i64 a0_1,.int .i64 a0_2,.int .i64 a0_3,.int .i64 a0_4,.int .i64 a0_5,.int .i64 a0_6,.int .i64 a0_7,.int .i64 a0_8,.int .i64 a0_9,.int .i64 a0_10,.int .i64 a0_11,.int .i64 a0_12,.int .i64 a0_13,.int .i64 a0_14,.int .i64 a0_15,.int .i64 a0_16,.int .i64 a0_17,.int .i64 a0_18,.int .i64 a0_19,.int .i64 a0_20,.int .i64 a0_21,.int .i64 a0_22,.int .i64 a0_23,.slice A0_24 l0_24.length c0_24,.slice A0_25 l0_25.length c0_25] 28 ?_;intro gb689 hg w136 hbox hb;have BK689:=mA hbox;have GW689:=gbpB HB hg;have GE689:=gbpB HB hg;replace HB:=spB HB hb;clear hb hbox hg)|((with_reducible refine gT 3 rfl ?_);refine bE 3 #[.int .i64 a1_0,.int .i64 a1_1,.int .i64 a1_2,.int .i64 a1_3,.int .i64 a1_4,.int .i64 a1_5,.int .i64 a1_6,.int .i64 a1_7,.int .i64 a1_8,.int .i64 a1_9,.int .i64 a1_10,.int .i64 a1_11,.int .i64 a1_12,.int .i64 a1_13,.int .i64 a1_14,.int .i64 a1_15,.int .i64 a1_16,.int .i64 a1_17,.int .i64 a1_18,.int .i64 a1_19,.int .i64 a1_20,.int .i64 a1_21,.int .i64 a1_22,.int .i64 a1_23,.slice A1_24 l1_24.length c1_24,.slice A1_25 l1_25.length c1_25] 28 ?_;intro gb690 hg w137 hbox hb;have BK690:=mA hbox;have GW690:=gbpS HB hg;have GE690:=gbpS HB hg;replace HB:=spS HB hb;have NB689_690:=mA (lN (blk_lt (pK BK689.out)) hg);have NB690_689:=nS NB689_690;replace BK689:=bK BK689 hb;clear hb hbox hg;have hnb138:=NB689_690.out;have hnc138:=NB690_689.out;have hcz139_0:=fun i_=>blk_cell BK689.out i_;have hfz139_0:=fun i_=>blk_frozen BK689.out i_;have hcz140_0:=fun i_=>blk_cell BK690.out i_;have hfz140_0:=fun i_=>blk_frozen BK690.out i_))
     go_ret
     exact rZ (pS HB.out)
   ·rw [if_neg c5] at H;have c5b0:(a0_2 == a1_2)=false:=beq_eq_false_iff_ne.mpr c5;have c5b1:(a0_2 != a1_2)=true:=bne_iff_ne.mpr c5;obtain rfl:=Option.some.inj H
    go_enter Try.func20,Try.ntmps20
    go_wp2_with (first|((with_reducible refine gLg rfl (by assumption) ?_);refine ldV ?_)|((with_reducible refine gSt rfl (by assumption) ?_);refine stV ?_)|((with_reducible refine gT 2 rfl ?_);refine bE 2 #[.int .i64 a0_0,.int .i64 a0_1,.int .i64 a0_2,.int .i64 a0_3,.int .i64 a0_4,.int .i64 a0_5,.int .i64 a0_6,.int .i64 a0_7,.int .i64 a0_8,.int .i64 a0_9,.int .i64 a0_10,.int .i64 a0_11,.int .i64 a0_12,.int .i64 a0_13,.int .i64 a0_14,.int .i64 a0_15,.int .i64 a0_16,.int .i64 a0_17,.int .i64 a0_18,.int .i64 a0_19,.int .i64 a0_20,.int .i64 a0_21,.int .i64 a0_22,.int .i64 a0_23,.slice A0_24 l0_24.length c0_24,.slice A0_25 l0_25.length c0_25] 28 ?_;intro gb689 hg w141 hbox hb;have BK689:=mA hbox;have GW689:=gbpB HB hg;have GE689:=gbpB HB hg;replace HB:=spB HB hb;clear hb hbox hg)|((with_reducible refine gT 3 rfl ?_);refine bE 3 #[.int .i64 a1_0,.int .i64 a1_1,.int .i64 a1_2,.int .i64 a1_3,.int .i64 a1_4,.int .i64 a1_5,.int .i64 a1_6,.int .i64 a1_7,.int .i64 a1_8,.int .i64 a1_9,.int .i64 a1_10,.int .i64 a1_11,.int .i64 a1_12,.int .i64 a1_13,.int .i64 a1_14,.int .i64 a1_15,.int .i64 a1_16,.int .i64 a1_17,.int .i64 a1_18,.int .i64 a1_19,.int .i64 a1_20,.int .i64 a1_21,.int .i64 a1_22,.int .i64 a1_23,.slice A1_24 l1_24.length c1_24,.slice A1_25 l1_25.length c1_25] 28 ?_;intro gb690 hg w142 hbox hb;have BK690:=mA hbox;have GW690:=gbpS HB hg;have GE690:=gbpS HB hg;replace HB:=spS HB hb;have NB689_690:=mA (lN (blk_lt (pK BK689.out)) hg);have NB690_689:=nS NB689_690;replace BK689:=bK BK689 hb;clear hb hbox hg;have hnb143:=NB689_690.out;have hnc143:=NB690_689.out;have hcz144_0:=fun i_=>blk_cell BK689.out i_;have hfz144_0:=fun i_=>blk_frozen BK689.out i_;have hcz145_0:=fun i_=>blk_cell BK690.out i_;have hfz145_0:=fun i_=>blk_frozen BK690.out i_))
    go_ret
    exact rZ (pS HB.out)
  ·rw [if_neg c4] at H;have c4b0:(a0_1 == a1_1)=false:=beq_eq_false_iff_ne.mpr c4;have c4b1:(a0_1 != a1_1)=true:=bne_iff_ne.mpr c4;obtain rfl:=Option.some.inj H
   go_enter Try.func20,Try.ntmps20
   go_wp2_with (first|((with_reducible refine gLg rfl (by assumption) ?_);refine ldV ?_)|((with_reducible refine gSt rfl (by assumption) ?_);refine stV ?_)|((with_reducible refine gT 2 rfl ?_);refine bE 2 #[.int .i64 a0_0,.int .i64 a0_1,.int .i64 a0_2,.int .i64 a0_3,.int .i64 a0_4,.int .i64 a0_5,.int .i64 a0_6,.int .i64 a0_7,.int .i64 a0_8,.int .i64 a0_9,.int .i64 a0_10,.int .i64 a0_11,.int .i64 a0_12,.int .i64 a0_13,.int .i64 a0_14,.int .i64 a0_15,.int .i64 a0_16,.int .i64 a0_17,.int .i64 a0_18,.int .i64 a0_19,.int .i64 a0_20,.int .i64 a0_21,.int .i64 a0_22,.int .i64 a0_23,.slice A0_24 l0_24.length c0_24,.slice A0_25 l0_25.length c0_25] 28 ?_;intro gb689 hg w146 hbox hb;have BK689:=mA hbox;have GW689:=gbpB HB hg;have GE689:=gbpB HB hg;replace HB:=spB HB hb;clear hb hbox hg)|((with_reducible refine gT 3 rfl ?_);refine bE 3 #[.int .i64 a1_0,.int .i64 a1_1,.int .i64 a1_2,.int .i64 a1_3,.int .i64 a1_4,.int .i64 a1_5,.int .i64 a1_6,.int .i64 a1_7,.int .i64 a1_8,.int .i64 a1_9,.int .i64 a1_10,.int .i64 a1_11,.int .i64 a1_12,.int .i64 a1_13,.int .i64 a1_14,.int .i64 a1_15,.int .i64 a1_16,.int .i64 a1_17,.int .i64 a1_18,.int .i64 a1_19,.int .i64 a1_20,.int .i64 a1_21,.int .i64 a1_22,.int .i64 a1_23,.slice A1_24 l1_24.length c1_24,.slice A1_25 l1_25.length c1_25] 28 ?_;intro gb690 hg w147 hbox hb;have BK690:=mA hbox;have GW690:=gbpS HB hg;have GE690:=gbpS HB hg;replace HB:=spS HB hb;have NB689_690:=mA (lN (blk_lt (pK BK689.out)) hg);have NB690_689:=nS NB689_690;replace BK689:=bK BK689 hb;clear hb hbox hg;have hnb148:=NB689_690.out;have hnc148:=NB690_689.out;have hcz149_0:=fun i_=>blk_cell BK689.out i_;have hfz149_0:=fun i_=>blk_frozen BK689.out i_;have hcz150_0:=fun i_=>blk_cell BK690.out i_;have hfz150_0:=fun i_=>blk_frozen BK690.out i_))
   go_ret
   exact rZ (pS HB.out)
 ·rw [if_neg c3] at H;have c3b0:(a0_0 == a1_0)=false:=beq_eq_false_iff_ne.mpr c3;have c3b1:(a0_0 != a1_0)=true:=bne_iff_ne.mpr c3;obtain rfl:=Option.some.inj H
  go_enter Try.func20,Try.ntmps20
  go_wp2_with (first|((with_reducible refine gLg rfl (by assumption) ?_);refine ldV ?_)|((with_reducible refine gSt rfl (by assumption) ?_);refine stV ?_)|((with_reducible refine gT 2 rfl ?_);refine bE 2 #[.int .i64 a0_0,.int .i64 a0_1,.int .i64 a0_2,.int .i64 a0_3,.int .i64 a0_4,.int .i64 a0_5,.int .i64 a0_6,.int .i64 a0_7,.int .i64 a0_8,.int .i64 a0_9,.int .i64 a0_10,.int .i64 a0_11,.int .i64 a0_12,.int .i64 a0_13,.int .i64 a0_14,.int .i64 a0_15,.int .i64 a0_16,.int .i64 a0_17,.int .i64 a0_18,.int .i64 a0_19,.int .i64 a0_20,.int .i64 a0_21,.int .i64 a0_22,.int .i64 a0_23,.slice A0_24 l0_24.length c0_24,.slice A0_25 l0_25.length c0_25] 28 ?_;intro gb689 hg w151 hbox hb;have BK689:=mA hbox;have GW689:=gbpB HB hg;have GE689:=gbpB HB hg;replace HB:=spB HB hb;clear hb hbox hg)|((with_reducible refine gT 3 rfl ?_);refine bE 3 #[.int .i64 a1_0,.int .i64 a1_1,.int .i64 a1_2,.int .i64 a1_3,.int .i64 a1_4,.int .i64 a1_5,.int .i64 a1_6,.int .i64 a1_7,.int .i64 a1_8,.int .i64 a1_9,.int .i64 a1_10,.int .i64 a1_11,.int .i64 a1_12,.int .i64 a1_13,.int .i64 a1_14,.int .i64 a1_15,.int .i64 a1_16,.int .i64 a1_17,.int .i64 a1_18,.int .i64 a1_19,.int .i64 a1_20,.int .i64 a1_21,.int .i64 a1_22,.int .i64 a1_23,.slice A1_24 l1_24.length c1_24,.slice A1_25 l1_25.length c1_25] 28 ?_;intro gb690 hg w152 hbox hb;have BK690:=mA hbox;have GW690:=gbpS HB hg;have GE690:=gbpS HB hg;replace HB:=spS HB hb;have NB689_690:=mA (lN (blk_lt (pK BK689.out)) hg);have NB690_689:=nS NB689_690;replace BK689:=bK BK689 hb;clear hb hbox hg;have hnb153:=NB689_690.out;have hnc153:=NB690_689.out;have hcz154_0:=fun i_=>blk_cell BK689.out i_;have hfz154_0:=fun i_=>blk_frozen BK689.out i_;have hcz155_0:=fun i_=>blk_cell BK690.out i_;have hfz155_0:=fun i_=>blk_frozen BK690.out i_))
  go_ret
  exact rZ (pS HB.out)

end Go.Proofs.Ytoieojmfkkidnaa.P
