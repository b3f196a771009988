-- printed by pprint.py (this session's program over the kit's printer) out of the translation. Lean checks it.
import Derived.Test.YtoieojmfkkidnaaPx0
import Derived.Test.YtoieojmfkkidnaaPx16
namespace Go.Proofs.Ytoieojmfkkidnaa.P
open Go.RowKit Go.Proofs.YtoieojmfkkidnaaX Go.Proofs.YtoieojmfkkidnaaW.PrintWords Go.Proofs.YtoieojmfkkidnaaW.PrintLast Go.Proofs.YtoieojmfkkidnaaW.PrintMore
attribute [local go_sem] max2_int min2_int max_two min_two max_three min_three max_four min_four   -- for this text's walks alone
set_option linter.unusedVariables false
set_option linter.unusedSimpArgs false
/-! ### impl_pieceWay: function 133 -/
def impl_pieceWay.l0 : Nat → List (S155) → Int → Int → Option (Int)
 | 0,_,_,_=>none
 | k+1,x22,x23,x24=>if x24<x23 then (if 0≤x24 then (if x24<(x22.length:Int) then (if ((rd_T155 x22 x24).f0)<((rd_T155 x22 x24).f1) then (some (-1)) else (if ((rd_T155 x22 x24).f0) > ((rd_T155 x22 x24).f1) then (some 1) else (impl_pieceWay.l0 k x22 x23 (wrap64 (x24+1))))) else (none)) else (none)) else (some 0)
def impl_pieceWay.f (k : Nat) (a0_0 a0_1 a0_2 a0_3 a1_0 a1_1 a1_2 a1_3 : Int) : Option (Int) := (some (([(⟨a0_0, a1_0⟩ : S155), (⟨a0_1, a1_1⟩ : S155), (⟨a0_2, a1_2⟩ : S155)] : List (S155)) : List (S155))).bind fun y514 => (impl_pieceWay.l0 k y514 (y514.length : Int) 0)
set_option maxHeartbeats 8000000 in
set_option maxRecDepth 100000 in
theorem impl_pieceWay.calls {k : Nat} {a0_0 a0_1 a0_2 a0_3 a1_0 a1_1 a1_2 a1_3 r : Int} {w : World} (h : impl_pieceWay.f k a0_0 a0_1 a0_2 a0_3 a1_0 a1_1 a1_2 a1_3 = some r) :
  Calls Try.prog 133 #[.agg #[.int .i64 a0_0,.int .i64 a0_1,.int .i64 a0_2,.int .i64 a0_3],.agg #[.int .i64 a1_0,.int .i64 a1_1,.int .i64 a1_2,.int .i64 a1_3]] w fun e w'=>e=.returned (.int .i64 r)∧Below w.heap.size w w':=by
 have hu138:=Try.underlying138;have hu155:=Try.underlying155;have HB:=mA (Below.refl w.heap.size w);have H:((some (([(⟨a0_0,a1_0⟩:S155),(⟨a0_1,a1_1⟩:S155),(⟨a0_2,a1_2⟩:S155)]:List (S155)):List (S155))).bind fun y514=>(impl_pieceWay.l0 k y514 (y514.length:Int) 0))=some r:=h;clear h;obtain ⟨y514,hy514⟩:∃ y_:List (S155),y_=(([(⟨a0_0,a1_0⟩:S155),(⟨a0_1,a1_1⟩:S155),(⟨a0_2,a1_2⟩:S155)]:List (S155))):=⟨_,rfl⟩
 replace H:(impl_pieceWay.l0 k y514 (y514.length:Int) 0)=some r:=qH hy514 H
 have Ny514:=mA hy514;clear hy514;have H':=mA H;clear H
 go_enter Try.func133,Try.ntmps133
 go_wp2_with (first|((with_reducible refine gT 2 rfl ?_);refine bX 2 ?_;intro gb512 hg w3 hbox hb;have BK512:=mA hbox;have GW512:=gbpB HB hg;have GE512:=gbpB HB hg;replace HB:=spB HB hb;clear hb hbox hg)|((with_reducible refine gT 3 rfl ?_);refine bX 3 ?_;intro gb513 hg w4 hbox hb;have BK513:=mA hbox;have GW513:=gbpS HB hg;have GE513:=gbpS HB hg;replace HB:=spS HB hb;have NB512_513:=mA (lN (blk_lt (pK BK512.out)) hg);have hN512_513:=NB512_513.out;have NB513_512:=nS NB512_513;have hN513_512:=NB513_512.out;replace BK512:=bK BK512 hb;clear hb hbox hg;obtain ⟨hcz6_0,hcz6_1,hcz6_2,hcz6_3,hfz6_0,hfz6_1,hfz6_2,hfz6_3⟩:=box4 BK512.out;obtain ⟨hcz7_0,hcz7_1,hcz7_2,hcz7_3,hfz7_0,hfz7_1,hfz7_2,hfz7_3⟩:=box4 BK513.out)|((with_reducible refine gT 22 rfl ?_);refine Kd.R_lit k155 _ 155 ?hg (N:=22) ?hd (xs:=([(⟨a0_0,a1_0⟩:S155),(⟨a0_1,a1_1⟩:S155),(⟨a0_2,a1_2⟩:S155)]:List (S155))) (inner:=[.int .i64 a0_0,.int .i64 a1_0,.int .i64 a0_1,.int .i64 a1_1,.int .i64 a0_2,.int .i64 a1_2]) (ok:=fun _=>True) (okp:=fun _=>True) ?hr ?hp (fun _ hk=>hk) trivial (Below.refl _ _) (Nat.le_refl _) (by simp) ?_;(case hd=>rfl);(case hg=>rfl);(case hr=>first|(go_simp;done)|(go_simp;rfl));(case hp=>exact (Reps.c2 (show Kd.M k155 _ _ _ (⟨a0_0,a1_0⟩:S155) [.int .i64 a0_0,.int .i64 a1_0] from (k155_mkM _ _ _ (⟨a0_0,a1_0⟩:S155) )) (Reps.c2 (show Kd.M k155 _ _ _ (⟨a0_1,a1_1⟩:S155) [.int .i64 a0_1,.int .i64 a1_1] from (k155_mkM _ _ _ (⟨a0_1,a1_1⟩:S155) )) (Reps.c2 (show Kd.M k155 _ _ _ (⟨a0_2,a1_2⟩:S155) [.int .i64 a0_2,.int .i64 a1_2] from (k155_mkM _ _ _ (⟨a0_2,a1_2⟩:S155) )) (Reps.none _ _)))));intro v515 w8 ho9 hb hg_ hnew_;clear hg_ hnew_;(first|rw [← Ny514.out] at ho9|(simp only [Int.reduceToNat] at ho9;rw [← Ny514.out] at ho9));have HO516:=mA (Kd.R_lower ho9 (bpS HB));replace BK512:=bK BK512 hb;replace BK513:=bK BK513 hb;replace HB:=spS HB hb;clear hb ho9;obtain ⟨Ao10,co10,rfl⟩:=Kd.R_slice HO516.out))
 go_loopg [24] k (fun kq v24 w'=>∃ (x24_1:Int),v24=.int .i64 x24_1∧Aside0 (impl_pieceWay.l0 kq y514 (y514.length:Int) x24_1=some r)∧Aside0 (kq≤k)∧Aside0 (Kd.R k155 155 w' w.heap.size (fun _=>True) (.slice Ao10 y514.length co10) y514)∧Aside0 (w'.heap[gb512]?=some (.cells #[.int .i64 a0_0,.int .i64 a0_1,.int .i64 a0_2,.int .i64 a0_3] 138 (0,0)))∧Aside0 (w'.heap[gb513]?=some (.cells #[.int .i64 a1_0,.int .i64 a1_1,.int .i64 a1_2,.int .i64 a1_3] 138 (0,0)))∧Aside0 (Below w.heap.size w w'))
 case atStart=>exact ⟨(0),bZ,H',⟨Nat.le_refl _⟩,⟨pR HO516.out⟩,⟨pK BK512.out⟩,⟨pK BK513.out⟩,⟨pS HB.out⟩⟩
 case round =>
  clear H'
  (try clear hcz6_0);(try clear hcz6_1);(try clear hcz6_2);(try clear hcz6_3);(try clear hcz7_0);(try clear hcz7_1);(try clear hcz7_2);(try clear hcz7_3);(try clear hfz6_0);(try clear hfz6_1);(try clear hfz6_2);(try clear hfz6_3);(try clear hfz7_0);(try clear hfz7_1);(try clear hfz7_2);(try clear hfz7_3)
  obtain ⟨x24_1,rfl,HA,HK1,HO_22,BK512,BK513,HB⟩:=hrel
  cases gk with
  | zero=>exact absurd HA.out (by simp [impl_pieceWay.l0])
  | succ k1 =>
   have H:=HA.out;clear HA;simp only [impl_pieceWay.l0] at H
   by_cases c11:x24_1<(y514.length:Int)
   ·rw [if_pos c11] at H;have c11b0:decide (x24_1<(y514.length:Int))=true:=decide_eq_true c11;clear c11
    by_cases c12:0≤x24_1
    ·rw [if_pos c12] at H;have c12b0:decide (0≤x24_1)=true:=decide_eq_true c12;clear c12
     by_cases c13:x24_1<(y514.length:Int)
     ·rw [if_pos c13] at H;have c13b0:decide (x24_1<(y514.length:Int))=true:=decide_eq_true c13;clear c13
      by_cases c14:((rd_T155 y514 x24_1).f0)<((rd_T155 y514 x24_1).f1)
      ·rw [if_pos c14] at H;have c14b0:decide (((rd_T155 y514 x24_1).f0)<((rd_T155 y514 x24_1).f1))=true:=decide_eq_true c14;clear c14;obtain rfl:=Option.some.inj H;have p517:0≤(x24_1:Int):=of_decide_eq_true bA;have q517:x24_1<(y514.length:Int):=of_decide_eq_true bA;obtain ⟨ad517,e517,hx517_0,hx517_1⟩:=at_T155 (Kd.R_reads' HO_22.out).2.2 x24_1 p517 q517;cases e517;replace p517:=eq_true p517;replace q517:=eq_true q517
       go_wp2_with (first|((with_reducible refine gT 6 rfl ?_);refine bE 6 #[.int .i64 0,.int .i64 0] 155 ?_;intro gb518 hg w15 hbox hb;replace HO_22:=mA (Kd.R_below (Kd.R_elderB (pR HO_22.out) gb518 (Nat.le_of_eq hg.symm)) hb);have BK518:=mA hbox;have GW518:=gbpS HB hg;have GE518:=gbpS HB hg;replace HB:=spS HB hb;have NB512_518:=mA (lN (blk_lt (pK BK512.out)) hg);have hN512_518:=NB512_518.out;have NB518_512:=nS NB512_518;have hN518_512:=NB518_512.out;replace BK512:=bK BK512 hb;have NB513_518:=mA (lN (blk_lt (pK BK513.out)) hg);have hN513_518:=NB513_518.out;have NB518_513:=nS NB513_518;have hN518_513:=NB518_513.out;replace BK513:=bK BK513 hb;clear hb hbox hg;obtain ⟨hcz18_0,hcz18_1,hfz18_0,hfz18_1⟩:=box2 BK518.out))
       go_ret
       exact rZ (pS HB.out)
      ·rw [if_neg c14] at H;have c14b0:decide (((rd_T155 y514 x24_1).f0)<((rd_T155 y514 x24_1).f1))=false:=decide_eq_false c14;clear c14
       by_cases c19:((rd_T155 y514 x24_1).f0) > ((rd_T155 y514 x24_1).f1)
       ·rw [if_pos c19] at H;have c19b0:decide (((rd_T155 y514 x24_1).f1)<((rd_T155 y514 x24_1).f0))=true:=decide_eq_true c19;clear c19;obtain rfl:=Option.some.inj H;have p517:0≤(x24_1:Int):=of_decide_eq_true bA;have q517:x24_1<(y514.length:Int):=of_decide_eq_true bA;obtain ⟨ad517,e517,hx517_0,hx517_1⟩:=at_T155 (Kd.R_reads' HO_22.out).2.2 x24_1 p517 q517;cases e517;replace p517:=eq_true p517;replace q517:=eq_true q517
        go_wp2_with (first|((with_reducible refine gT 6 rfl ?_);refine bE 6 #[.int .i64 0,.int .i64 0] 155 ?_;intro gb518 hg w20 hbox hb;replace HO_22:=mA (Kd.R_below (Kd.R_elderB (pR HO_22.out) gb518 (Nat.le_of_eq hg.symm)) hb);have BK518:=mA hbox;have GW518:=gbpS HB hg;have GE518:=gbpS HB hg;replace HB:=spS HB hb;have NB512_518:=mA (lN (blk_lt (pK BK512.out)) hg);have hN512_518:=NB512_518.out;have NB518_512:=nS NB512_518;have hN518_512:=NB518_512.out;replace BK512:=bK BK512 hb;have NB513_518:=mA (lN (blk_lt (pK BK513.out)) hg);have hN513_518:=NB513_518.out;have NB518_513:=nS NB513_518;have hN518_513:=NB518_513.out;replace BK513:=bK BK513 hb;clear hb hbox hg;obtain ⟨hcz23_0,hcz23_1,hfz23_0,hfz23_1⟩:=box2 BK518.out))
        go_ret
        exact rZ (pS HB.out)
       ·rw [if_neg c19] at H;have c19b0:decide (((rd_T155 y514 x24_1).f1)<((rd_T155 y514 x24_1).f0))=false:=decide_eq_false c19;clear c19;have H':=mA H;clear H;have p517:0≤(x24_1:Int):=of_decide_eq_true bA;have q517:x24_1<(y514.length:Int):=of_decide_eq_true bA;obtain ⟨ad517,e517,hx517_0,hx517_1⟩:=at_T155 (Kd.R_reads' HO_22.out).2.2 x24_1 p517 q517;cases e517;replace p517:=eq_true p517;replace q517:=eq_true q517
        go_wp2_with (first|((with_reducible refine gT 6 rfl ?_);refine bE 6 #[.int .i64 0,.int .i64 0] 155 ?_;intro gb518 hg w24 hbox hb;replace HO_22:=mA (Kd.R_below (Kd.R_elderB (pR HO_22.out) gb518 (Nat.le_of_eq hg.symm)) hb);have BK518:=mA hbox;have GW518:=gbpS HB hg;have GE518:=gbpS HB hg;replace HB:=spS HB hb;have NB512_518:=mA (lN (blk_lt (pK BK512.out)) hg);have hN512_518:=NB512_518.out;have NB518_512:=nS NB512_518;have hN518_512:=NB518_512.out;replace BK512:=bK BK512 hb;have NB513_518:=mA (lN (blk_lt (pK BK513.out)) hg);have hN513_518:=NB513_518.out;have NB518_513:=nS NB513_518;have hN518_513:=NB518_513.out;replace BK513:=bK BK513 hb;clear hb hbox hg;obtain ⟨hcz27_0,hcz27_1,hfz27_0,hfz27_1⟩:=box2 BK518.out))
        go_roundg k1
        case measure=>have:=HK1.out;omega
        case rel=>exact ⟨(wrap64 (x24_1+1)),bZ,H',⟨by have:=HK1.out;omega⟩,⟨pR (Kd.R_mono (Kd.R_far (p:=⟨gb518,1,none⟩) (Kd.R_far (p:=⟨gb518,0,none⟩) (Kd.R_mono HO_22.out (fun k_ hk=>(⟨hk,hk.2⟩:_∧k_≠gb518))) (fun _ hk=>hk.2) (.int .i64 ((rd_T155 y514 x24_1).f0))) (fun _ hk=>hk.2) (.int .i64 ((rd_T155 y514 x24_1).f1))) (fun _ hk=>trivial))⟩,⟨pF BK512.out⟩,⟨pF BK513.out⟩,⟨pS HB.out⟩⟩
     ·rw [if_neg c13] at H
      exact absurd H (by simp)
    ·rw [if_neg c12] at H
     exact absurd H (by simp)
   ·rw [if_neg c11] at H;have c11b0:decide (x24_1<(y514.length:Int))=false:=decide_eq_false c11;clear c11;obtain rfl:=Option.some.inj H
    go_wp2
    go_ret
    exact rZ (pS HB.out)
/-! ### impl_BlkOk: function 77 -/
mutual
def impl_BlkOk.l0 : Nat → List (S138) → List (S138) → Int → Int → Option (Bool)
 | 0,_,_,_,_=>none
 | k+1,x0,x5,x6,x7=>if x7<x6 then (impl_BlkOk.j1 k x0 x5 x6 x7) else (some (decide ((x0.length:Int)≤60)))
def impl_BlkOk.j1 : Nat → List (S138) → List (S138) → Int → Int → Option (Bool)
 | 0,_,_,_,_=>none
 | k+1,x0,x5,x6,x7=>if 0≤x7 then (if x7<(x5.length:Int) then ((impl_in.f ((rd_T138 x5 x7).f0) 1 99999).bind fun t521=>(if t521=true then ((impl_in.f ((rd_T138 x5 x7).f2) 1 99999).bind fun t522=>(if t522=true then ((impl_in.f ((rd_T138 x5 x7).f1) 0 99999).bind fun t523=>(if t523=true then ((impl_in.f ((rd_T138 x5 x7).f3) 0 99999).bind fun t524=>(if t524=true then (if x7 > 0 then (if 0≤(wrap64 (x7 - 1)) then (if (wrap64 (x7 - 1))<(x0.length:Int) then ((impl_pieceWay.f k ((rd_T138 x0 (wrap64 (x7 - 1))).f0) ((rd_T138 x0 (wrap64 (x7 - 1))).f1) ((rd_T138 x0 (wrap64 (x7 - 1))).f2) ((rd_T138 x0 (wrap64 (x7 - 1))).f3) ((rd_T138 x5 x7).f0) ((rd_T138 x5 x7).f1) ((rd_T138 x5 x7).f2) ((rd_T138 x5 x7).f3)).bind fun t526=>(impl_BlkOk.j2 k x0 x5 x6 x7 (decide (t526 ≥ 0)))) else (none)) else (none)) else (impl_BlkOk.j2 k x0 x5 x6 x7 false)) else (impl_BlkOk.j2 k x0 x5 x6 x7 true))) else (impl_BlkOk.j2 k x0 x5 x6 x7 true))) else (impl_BlkOk.j2 k x0 x5 x6 x7 true))) else (impl_BlkOk.j2 k x0 x5 x6 x7 true))) else (none)) else (none)
def impl_BlkOk.j2 : Nat → List (S138) → List (S138) → Int → Int → Bool → Option (Bool)
 | 0,_,_,_,_,_=>none
 | k+1,x0,x5,x6,x7,x47=>if x47=true then (some false) else (impl_BlkOk.l0 k x0 x5 x6 (wrap64 (x7+1)))
end
def impl_BlkOk.f (k : Nat) (l0 : List (S138)) : Option (Bool) := impl_BlkOk.l0 k l0 l0 (l0.length : Int) 0
def impl_BlkOk.T4 : Bool × List (List Nat × List Nat) := (true, [([], []), ([0], [0]), ([1], [1]), ([2], [2]), ([3, 2], [3]), ([4], [4]), ([5, 4], [4, 5]), ([6, 4, 4], [4, 6]), ([7, 4], [4, 7]), ([4, 8], [4, 8]), ([9, 7], [9]), ([10], [10]), ([11, 10], [10, 11]), ([12, 10, 10], [10, 12]), ([13, 10], [10, 13]), ([10, 14], [10, 14]), ([15, 13], [15]), ([16], [16]), ([17, 16], [16, 17]), ([18, 16, 16], [16, 18]), ([19, 16], [16, 19]), ([16, 20], [16, 20]), ([21, 19], [21]), ([22], [22]), ([23, 22], [22, 23]), ([24, 22, 22], [22, 24]), ([25], [25]), ([25], [25]), ([27, 25], [25, 27]), ([26, 28, 25], [25, 26, 28]), ([29, 25], [25, 29]), ([25], [25]), ([30, 31, 25, 25], [25, 30, 31]), ([32, 25], [25, 32]), ([25, 33, 22], [22, 25, 33]), ([22, 34], [22, 34])])
def impl_BlkOk.B4 : List Nat := [0, 1, 3, 7, 15, 31, 63, 127, 255, 511, 1023, 2047, 4095, 8191, 16383, 32767, 65535, 131071, 262143, 524287, 1048575, 2097151, 4194303, 8388607, 16777215, 33554431, 67108863, 67108863, 201326591, 536870911, 1073741823, 67108863, 4294967295, 8589934591, 17179869183, 34359738367]
theorem impl_BlkOk.tab4 : rtab .any (opsOf Try.f77 4) = impl_BlkOk.T4 := by kernel_rfl
theorem impl_BlkOk.bits4 : waitsOk impl_BlkOk.T4.2 impl_BlkOk.B4 = true := by kernel_rfl
set_option maxHeartbeats 8000000 in
set_option maxRecDepth 100000 in
theorem impl_BlkOk.calls {k : Nat} {A0 : Option Addr} {c0 : Nat} {l0 : List (S138)} {r : Bool} {w : World} (hr0 : Kd.C k138 w A0 l0.length l0) (hc0 : l0.length ≤ c0) (h : impl_BlkOk.f k l0 = some r) :
  Calls Try.prog 77 #[.slice A0 l0.length c0] w fun e w'=>e=.returned (.bool r)∧Below w.heap.size w w':=by
 have hu138:=Try.underlying138;have HR0:=mA hr0;have HC0:=mA hc0;clear hr0 hc0;have HB:=mA (Below.refl w.heap.size w);have H:(impl_BlkOk.l0 k l0 l0 (l0.length:Int) 0)=some r:=h;clear h;have H':=mA H;clear H
 go_enter Try.func77,Try.ntmps77
 go_wp2
 go_loopg [7] k (fun kq v7 w'=>∃ (x7_1:Int),v7=.int .i64 x7_1∧Aside0 (impl_BlkOk.l0 kq l0 l0 (l0.length:Int) x7_1=some r)∧Aside0 (kq≤k)∧Aside0 (Below w.heap.size w w'))
 case atStart=>exact ⟨(0),bZ,H',⟨Nat.le_refl _⟩,⟨pB HB.out⟩⟩
 case round =>
  clear H';obtain ⟨x7_1,rfl,HA,HK1,HB⟩:=hrel
  cases gk with
  | zero=>exact absurd HA.out (by simp [impl_BlkOk.l0])
  | succ k1 =>
   have H:=HA.out;clear HA;simp only [impl_BlkOk.l0] at H;have HC2:=mA H;clear H
   go_upto_if 8 with (fail)
   go_cut [] (fun wc=>∃ (kq:Nat),Aside0 (impl_BlkOk.j1 kq l0 l0 (l0.length:Int) x7_1=some r)∧Aside0 (kq≤k1)∧Aside0 (Below w.heap.size w wc))
   case first =>
    have H:=HC2.out;clear HC2
    by_cases c3:x7_1<(l0.length:Int)
    ·rw [if_pos c3] at H;have c3b0:decide (x7_1<(l0.length:Int))=true:=decide_eq_true c3;clear c3
     (first|rw [c3b0]|(simp only [i64_w,i32_w];rw [c3b0])|skip)
     have H':=mA H;clear H
     go_wp2
     go_meet
     case rel=>exact ⟨_,H',⟨by have:=HK1.out;first|omega|exact Nat.le_refl _⟩,⟨pB HB.out⟩⟩
    ·rw [if_neg c3] at H;have c3b0:decide (x7_1<(l0.length:Int))=false:=decide_eq_false c3;clear c3
     (first|rw [c3b0]|(simp only [i64_w,i32_w];rw [c3b0])|skip)
     obtain rfl:=Option.some.inj H
     go_wp2
     go_ret
     exact rZ (pB HB.out)
   case rest =>
    clear HC2
    obtain ⟨kq,HA,HJ1,HB⟩:=hcut
    cases kq with
    | zero=>exact absurd HA.out (by simp [impl_BlkOk.j1])
    | succ kj1 =>
     have H:=HA.out;clear HA;simp only [impl_BlkOk.j1] at H
     by_cases c4:0≤x7_1
     ·rw [if_pos c4] at H;have c4b0:decide (0≤x7_1)=true:=decide_eq_true c4;clear c4
      by_cases c5:x7_1<(l0.length:Int)
      ·rw [if_pos c5] at H;have c5b0:decide (x7_1<(l0.length:Int))=true:=decide_eq_true c5;clear c5;have HC6:=mA H;clear H;have p519:0≤(x7_1:Int):=of_decide_eq_true bA;have q519:x7_1<(l0.length:Int):=of_decide_eq_true bA;obtain ⟨ad519,e519,hx519_0,hx519_1,hx519_2,hx519_3⟩:=at_T138 HR0.out x7_1 p519 q519;cases e519;replace hx519_0:=hC HB hx519_0;replace hx519_1:=hC HB hx519_1;replace hx519_2:=hC HB hx519_2;replace hx519_3:=hC HB hx519_3;replace p519:=eq_true p519;replace q519:=eq_true q519
       go_upto_region 4 with (first|((with_reducible refine gT 4 rfl ?_);refine bJ 4 y138 ?_;intro gb520 hg w7 hbox hb;have BK520:=mA hbox;have GW520:=gbpB HB hg;have GE520:=gbpB HB hg;replace HB:=spB HB hb;clear hb hbox hg;obtain ⟨hcz8_0,hcz8_1,hcz8_2,hcz8_3,hfz8_0,hfz8_1,hfz8_2,hfz8_3⟩:=box4 BK520.out))
       (try simp only [Act.put,List.setIfInBounds_toArray,List.set_cons_zero,List.set_cons_succ])
       go_cut [47] (fun v47 wc=>∃ (kq:Nat) (x47_5:Bool),v47=.bool x47_5∧Aside0 (impl_BlkOk.j2 kq l0 l0 (l0.length:Int) x7_1 x47_5=some r)∧Aside0 (kq≤kj1)∧Aside0 (wc.heap[gb520]?=some (.cells #[.int .i64 ((rd_T138 l0 x7_1).f0),.int .i64 ((rd_T138 l0 x7_1).f1),.int .i64 ((rd_T138 l0 x7_1).f2),.int .i64 ((rd_T138 l0 x7_1).f3)] 138 (0,0)))∧Aside0 (Below w.heap.size w wc))
       case first =>
        have H:=HC6.out;clear HC6;obtain ⟨t521,A9,H⟩:=bI H;(try dsimp only at H)
        by_cases c10:t521=true
        ·subst c10;rw [if_pos rfl] at H;obtain ⟨t522,A11,H⟩:=bI H;(try dsimp only at H)
         by_cases c12:t522=true
         ·subst c12;rw [if_pos rfl] at H;obtain ⟨t523,A13,H⟩:=bI H;(try dsimp only at H)
          by_cases c14:t523=true
          ·subst c14;rw [if_pos rfl] at H;obtain ⟨t524,A15,H⟩:=bI H;(try dsimp only at H)
           by_cases c16:t524=true
           ·subst c16;rw [if_pos rfl] at H
            by_cases c17:x7_1 > 0
            ·rw [if_pos c17] at H;have c17b0:decide (0<x7_1)=true:=decide_eq_true c17;clear c17
             (first|rw [c17b0]|(simp only [i64_w,i32_w];rw [c17b0])|skip)
             obtain ⟨ji18,hji18⟩:∃ j_:Int,(wrap64 (x7_1 - 1))=j_:=⟨_,rfl⟩
             replace H:(if 0≤(ji18) then (if (ji18)<(l0.length:Int) then ((impl_pieceWay.f kj1 ((rd_T138 l0 (ji18)).f0) ((rd_T138 l0 (ji18)).f1) ((rd_T138 l0 (ji18)).f2) ((rd_T138 l0 (ji18)).f3) ((rd_T138 l0 x7_1).f0) ((rd_T138 l0 x7_1).f1) ((rd_T138 l0 x7_1).f2) ((rd_T138 l0 x7_1).f3)).bind fun t526=>(impl_BlkOk.j2 kj1 l0 l0 (l0.length:Int) x7_1 (decide (t526 ≥ 0)))) else (none)) else (none))=some r:=by first|(rw [hji18] at H;exact H)|(simp only [hji18] at H ⊢;exact H)
             (try rw [hji18] at A9)
             (try rw [hji18] at A11)
             (try rw [hji18] at A13)
             (try rw [hji18] at A15)
             have hji18w:(IntKind.i64.wrap (x7_1 - 1))=ji18:=(i64_w _).trans hji18
             by_cases c19:0≤(ji18)
             ·rw [if_pos c19] at H;have c19b0:decide (0≤(ji18))=true:=decide_eq_true c19;clear c19
              by_cases c20:(ji18)<(l0.length:Int)
              ·rw [if_pos c20] at H;have c20b0:decide ((ji18)<(l0.length:Int))=true:=decide_eq_true c20;clear c20;obtain ⟨t526,A21,H⟩:=bI H;(try dsimp only at H);have H':=mA H;clear H
               try go_wp2
               generalize hW_:((((w7.setCell ⟨gb520,0,none⟩ (.int .i64 ((rd_T138 l0 x7_1).f0))).setCell ⟨gb520,1,none⟩ (.int .i64 ((rd_T138 l0 x7_1).f1))).setCell ⟨gb520,2,none⟩ (.int .i64 ((rd_T138 l0 x7_1).f2))).setCell ⟨gb520,3,none⟩ (.int .i64 ((rd_T138 l0 x7_1).f3)))=w22
               have n0_:Aside0 (w22.heap[gb520]?=some (.cells #[.int .i64 ((rd_T138 l0 x7_1).f0),.int .i64 ((rd_T138 l0 x7_1).f1),.int .i64 ((rd_T138 l0 x7_1).f2),.int .i64 ((rd_T138 l0 x7_1).f3)] 138 (0,0))):=⟨by rw [← hW_];exact pP BK520⟩;have n1_:Aside0 (Below w.heap.size w w22):=⟨by rw [← hW_];exact pS HB.out⟩
               (try clear BK520);(try clear HB);clear hW_
               have BK520:=n0_;have HB:=n1_;clear n0_ n1_;replace BK520:=mA (blk_drew BK520.out);replace HB:=mA (below_drew1 HB.out);have p525:0≤((ji18):Int):=of_decide_eq_true bA;have q525:(ji18)<(l0.length:Int):=of_decide_eq_true bA;obtain ⟨ad525,e525,hs525⟩:=at_R138 HR0.out (ji18) p525 q525
               obtain rfl:ad519=ad525:=(by injection e525)
               replace p525:=eq_true p525;replace q525:=eq_true q525
               refine start_ (n:=36) (S:=fun w'=>w'.heap[gb520]?=some (.cells #[.int .i64 ((rd_T138 l0 x7_1).f0),.int .i64 ((rd_T138 l0 x7_1).f1),.int .i64 ((rd_T138 l0 x7_1).f2),.int .i64 ((rd_T138 l0 x7_1).f3)] 138 (0,0))∧RS w' (ad519.add (((ji18)).toNat * 4)) (d138 (rd_T138 l0 (ji18)))) (ds:=[]) _ aK rfl rfl ⟨BK520.out,rS HB hs525⟩ (fun hHeld=>?_);refine with_tabW impl_BlkOk.tab4 impl_BlkOk.bits4 (fun HT_ HW_=>?_)
               generalize w22.drew=w23 at BK520 HB hHeld ⊢
               refine qu 0 ?_;refine qt 1 ?_
               refine qo 2 ?_;intro K hK
               refine gD Try.func74 (impl_in.calls A9.out) ?_
               rintro e w' ⟨rfl,⟨nd,rfl⟩⟩;refine ⟨_,rfl,?_⟩;refine hK.out _ _ ⟨BK520.out,rS HB hs525⟩ (fun hHeld=>?_);clear hK K;refine no_ (some 14) ?_;refine qu 3 ?_;refine qu 4 ?_;refine qu 5 ?_;refine qt 6 ?_
               refine qo 7 ?_;intro K hK
               refine gD Try.func74 (impl_in.calls A11.out) ?_
               rintro e w' ⟨rfl,⟨nd,rfl⟩⟩;refine ⟨_,rfl,?_⟩;refine hK.out _ _ ⟨BK520.out,rS HB hs525⟩ (fun hHeld=>?_);clear hK K;refine no_ (some 19) ?_;refine qu 8 ?_;refine qu 9 ?_;refine qu 10 ?_;refine qu 11 ?_;refine qt 12 ?_
               refine qo 13 ?_;intro K hK
               refine gD Try.func74 (impl_in.calls A13.out) ?_
               rintro e w' ⟨rfl,⟨nd,rfl⟩⟩;refine ⟨_,rfl,?_⟩;refine hK.out _ _ ⟨BK520.out,rS HB hs525⟩ (fun hHeld=>?_);clear hK K;refine no_ (some 25) ?_;refine qu 14 ?_;refine qu 15 ?_;refine qu 16 ?_;refine qu 17 ?_;refine qt 18 ?_
               refine qo 19 ?_;intro K hK
               refine gD Try.func74 (impl_in.calls A15.out) ?_
               rintro e w' ⟨rfl,⟨nd,rfl⟩⟩;refine ⟨_,rfl,?_⟩;refine hK.out _ _ ⟨BK520.out,rS HB hs525⟩ (fun hHeld=>?_);clear hK K;refine no_ (some 31) ?_;refine qu 20 ?_;refine qu 21 ?_;refine qu 22 ?_;refine qu 23 ?_;refine qu 24 ?_;refine qu 25 ?_;refine qu 26 ?_;refine qu 27 ?_;refine qu 28 ?_;refine qu 29 ?_;refine qt 30 ?_;refine qt 31 ?_
               refine qo 32 ?_;intro K hK
               refine goes_ Try.func133 aK rfl #[.agg #[.int .i64 ((rd_T138 l0 (ji18)).f0),.int .i64 ((rd_T138 l0 (ji18)).f1),.int .i64 ((rd_T138 l0 (ji18)).f2),.int .i64 ((rd_T138 l0 (ji18)).f3)],.agg #[.int .i64 ((rd_T138 l0 x7_1).f0),.int .i64 ((rd_T138 l0 x7_1).f1),.int .i64 ((rd_T138 l0 x7_1).f2),.int .i64 ((rd_T138 l0 x7_1).f3)]] (by rfl) rfl rfl (by (try simp only [List.map_toArray,List.map_cons,List.map_nil]);first|done|(simp only [hji18];rfl)|rfl|(simp only [List.length_drop,List.length_take];rfl)) ?_
               with_reducible refine (impl_pieceWay.calls A21.out).mono ?_
               rintro e w24 ⟨rfl,hb⟩;refine ⟨_,rfl,?_⟩;replace BK520:=bK BK520 hb;replace HB:=spS HB hb
               (try clear hb)
               refine hK.out _ _ ⟨BK520.out,rS HB hs525⟩ (fun hHeld=>?_);clear hK K;refine no_ (some 44) ?_;refine qu 33 ?_;refine qu 34 ?_;refine qu 35 ?_;refine qe ?_
               try go_wp2
               go_meet
               case rel=>exact ⟨_,(decide (t526 ≥ 0)),bZ,H',⟨by have:=HK1.out;have:=HJ1.out;first|omega|exact Nat.le_refl _⟩,⟨pK BK520.out⟩,⟨pS HB.out⟩⟩
              ·rw [if_neg c20] at H
               exact absurd H (by simp)
             ·rw [if_neg c19] at H
              exact absurd H (by simp)
            ·rw [if_neg c17] at H;have c17b0:decide (0<x7_1)=false:=decide_eq_false c17;clear c17
             (first|rw [c17b0]|(simp only [i64_w,i32_w];rw [c17b0])|skip)
             have H':=mA H;clear H
             try go_wp2
             generalize hW_:((((w7.setCell ⟨gb520,0,none⟩ (.int .i64 ((rd_T138 l0 x7_1).f0))).setCell ⟨gb520,1,none⟩ (.int .i64 ((rd_T138 l0 x7_1).f1))).setCell ⟨gb520,2,none⟩ (.int .i64 ((rd_T138 l0 x7_1).f2))).setCell ⟨gb520,3,none⟩ (.int .i64 ((rd_T138 l0 x7_1).f3)))=w25
             have n0_:Aside0 (w25.heap[gb520]?=some (.cells #[.int .i64 ((rd_T138 l0 x7_1).f0),.int .i64 ((rd_T138 l0 x7_1).f1),.int .i64 ((rd_T138 l0 x7_1).f2),.int .i64 ((rd_T138 l0 x7_1).f3)] 138 (0,0))):=⟨by rw [← hW_];exact pP BK520⟩;have n1_:Aside0 (Below w.heap.size w w25):=⟨by rw [← hW_];exact pS HB.out⟩
             (try clear BK520);(try clear HB);clear hW_
             have BK520:=n0_;have HB:=n1_;clear n0_ n1_;replace BK520:=mA (blk_drew BK520.out);replace HB:=mA (below_drew1 HB.out)
             refine start_ (n:=36) (S:=fun w'=>w'.heap[gb520]?=some (.cells #[.int .i64 ((rd_T138 l0 x7_1).f0),.int .i64 ((rd_T138 l0 x7_1).f1),.int .i64 ((rd_T138 l0 x7_1).f2),.int .i64 ((rd_T138 l0 x7_1).f3)] 138 (0,0))) (ds:=[]) _ aK rfl rfl BK520.out (fun hHeld=>?_);refine with_tabW impl_BlkOk.tab4 impl_BlkOk.bits4 (fun HT_ HW_=>?_)
             generalize w25.drew=w26 at BK520 HB hHeld ⊢
             refine qu 0 ?_;refine qt 1 ?_
             refine qo 2 ?_;intro K hK
             refine gD Try.func74 (impl_in.calls A9.out) ?_
             rintro e w' ⟨rfl,⟨nd,rfl⟩⟩;refine ⟨_,rfl,?_⟩;refine hK.out _ _ BK520.out (fun hHeld=>?_);clear hK K;refine no_ (some 14) ?_;refine qu 3 ?_;refine qu 4 ?_;refine qu 5 ?_;refine qt 6 ?_
             refine qo 7 ?_;intro K hK
             refine gD Try.func74 (impl_in.calls A11.out) ?_
             rintro e w' ⟨rfl,⟨nd,rfl⟩⟩;refine ⟨_,rfl,?_⟩;refine hK.out _ _ BK520.out (fun hHeld=>?_);clear hK K;refine no_ (some 19) ?_;refine qu 8 ?_;refine qu 9 ?_;refine qu 10 ?_;refine qu 11 ?_;refine qt 12 ?_
             refine qo 13 ?_;intro K hK
             refine gD Try.func74 (impl_in.calls A13.out) ?_
             rintro e w' ⟨rfl,⟨nd,rfl⟩⟩;refine ⟨_,rfl,?_⟩;refine hK.out _ _ BK520.out (fun hHeld=>?_);clear hK K;refine no_ (some 25) ?_;refine qu 14 ?_;refine qu 15 ?_;refine qu 16 ?_;refine qu 17 ?_;refine qt 18 ?_
             refine qo 19 ?_;intro K hK
             refine gD Try.func74 (impl_in.calls A15.out) ?_
             rintro e w' ⟨rfl,⟨nd,rfl⟩⟩;refine ⟨_,rfl,?_⟩;refine hK.out _ _ BK520.out (fun hHeld=>?_);clear hK K;refine no_ (some 31) ?_;refine qu 20 ?_;refine qu 21 ?_;refine qu 22 ?_;refine qu 23 ?_;refine qu 24 ?_;refine qu 25 ?_;refine qd 26 ?_;refine qd 27 ?_;refine qd 28 ?_;refine qd 29 ?_;refine qd 30 ?_;refine qd 31 ?_;refine qd 32 ?_;refine qd 33 ?_;refine qu 34 ?_;refine qu 35 ?_;refine qe ?_
             try go_wp2
             go_meet
             case rel=>exact ⟨_,(false),bZ,H',⟨by have:=HK1.out;have:=HJ1.out;first|omega|exact Nat.le_refl _⟩,⟨pK BK520.out⟩,⟨pS HB.out⟩⟩
           ·replace c16:=Bool.eq_false_iff.mpr c16;subst c16
            rw [if_neg nFT] at H
            have H':=mA H;clear H
            try go_wp2
            generalize hW_:((((w7.setCell ⟨gb520,0,none⟩ (.int .i64 ((rd_T138 l0 x7_1).f0))).setCell ⟨gb520,1,none⟩ (.int .i64 ((rd_T138 l0 x7_1).f1))).setCell ⟨gb520,2,none⟩ (.int .i64 ((rd_T138 l0 x7_1).f2))).setCell ⟨gb520,3,none⟩ (.int .i64 ((rd_T138 l0 x7_1).f3)))=w27
            have n0_:Aside0 (w27.heap[gb520]?=some (.cells #[.int .i64 ((rd_T138 l0 x7_1).f0),.int .i64 ((rd_T138 l0 x7_1).f1),.int .i64 ((rd_T138 l0 x7_1).f2),.int .i64 ((rd_T138 l0 x7_1).f3)] 138 (0,0))):=⟨by rw [← hW_];exact pP BK520⟩;have n1_:Aside0 (Below w.heap.size w w27):=⟨by rw [← hW_];exact pS HB.out⟩
            (try clear BK520);(try clear HB);clear hW_
            have BK520:=n0_;have HB:=n1_;clear n0_ n1_;replace BK520:=mA (blk_drew BK520.out);replace HB:=mA (below_drew1 HB.out)
            refine start_ (n:=36) (S:=fun w'=>w'.heap[gb520]?=some (.cells #[.int .i64 ((rd_T138 l0 x7_1).f0),.int .i64 ((rd_T138 l0 x7_1).f1),.int .i64 ((rd_T138 l0 x7_1).f2),.int .i64 ((rd_T138 l0 x7_1).f3)] 138 (0,0))) (ds:=[]) _ aK rfl rfl BK520.out (fun hHeld=>?_);refine with_tabW impl_BlkOk.tab4 impl_BlkOk.bits4 (fun HT_ HW_=>?_)
            generalize w27.drew=w28 at BK520 HB hHeld ⊢
            refine qu 0 ?_;refine qt 1 ?_
            refine qo 2 ?_;intro K hK
            refine gD Try.func74 (impl_in.calls A9.out) ?_
            rintro e w' ⟨rfl,⟨nd,rfl⟩⟩;refine ⟨_,rfl,?_⟩;refine hK.out _ _ BK520.out (fun hHeld=>?_);clear hK K;refine no_ (some 14) ?_;refine qu 3 ?_;refine qu 4 ?_;refine qu 5 ?_;refine qt 6 ?_
            refine qo 7 ?_;intro K hK
            refine gD Try.func74 (impl_in.calls A11.out) ?_
            rintro e w' ⟨rfl,⟨nd,rfl⟩⟩;refine ⟨_,rfl,?_⟩;refine hK.out _ _ BK520.out (fun hHeld=>?_);clear hK K;refine no_ (some 19) ?_;refine qu 8 ?_;refine qu 9 ?_;refine qu 10 ?_;refine qu 11 ?_;refine qt 12 ?_
            refine qo 13 ?_;intro K hK
            refine gD Try.func74 (impl_in.calls A13.out) ?_
            rintro e w' ⟨rfl,⟨nd,rfl⟩⟩;refine ⟨_,rfl,?_⟩;refine hK.out _ _ BK520.out (fun hHeld=>?_);clear hK K;refine no_ (some 25) ?_;refine qu 14 ?_;refine qu 15 ?_;refine qu 16 ?_;refine qu 17 ?_;refine qt 18 ?_
            refine qo 19 ?_;intro K hK
            refine gD Try.func74 (impl_in.calls A15.out) ?_
            rintro e w' ⟨rfl,⟨nd,rfl⟩⟩;refine ⟨_,rfl,?_⟩;refine hK.out _ _ BK520.out (fun hHeld=>?_);clear hK K;refine no_ (some 31) ?_;refine qu 20 ?_;refine qu 21 ?_;refine qu 22 ?_;refine qd 23 ?_;refine qd 24 ?_;refine qd 25 ?_;refine qd 26 ?_;refine qd 27 ?_;refine qd 28 ?_;refine qd 29 ?_;refine qd 30 ?_;refine qd 31 ?_;refine qd 32 ?_;refine qd 33 ?_;refine qd 34 ?_;refine qu 35 ?_;refine qe ?_
            try go_wp2
            go_meet
            case rel=>exact ⟨_,(true),bZ,H',⟨by have:=HK1.out;have:=HJ1.out;first|omega|exact Nat.le_refl _⟩,⟨pK BK520.out⟩,⟨pS HB.out⟩⟩
          ·replace c14:=Bool.eq_false_iff.mpr c14;subst c14
           rw [if_neg nFT] at H
           have H':=mA H;clear H
           try go_wp2
           generalize hW_:((((w7.setCell ⟨gb520,0,none⟩ (.int .i64 ((rd_T138 l0 x7_1).f0))).setCell ⟨gb520,1,none⟩ (.int .i64 ((rd_T138 l0 x7_1).f1))).setCell ⟨gb520,2,none⟩ (.int .i64 ((rd_T138 l0 x7_1).f2))).setCell ⟨gb520,3,none⟩ (.int .i64 ((rd_T138 l0 x7_1).f3)))=w29
           have n0_:Aside0 (w29.heap[gb520]?=some (.cells #[.int .i64 ((rd_T138 l0 x7_1).f0),.int .i64 ((rd_T138 l0 x7_1).f1),.int .i64 ((rd_T138 l0 x7_1).f2),.int .i64 ((rd_T138 l0 x7_1).f3)] 138 (0,0))):=⟨by rw [← hW_];exact pP BK520⟩;have n1_:Aside0 (Below w.heap.size w w29):=⟨by rw [← hW_];exact pS HB.out⟩
           (try clear BK520);(try clear HB);clear hW_
           have BK520:=n0_;have HB:=n1_;clear n0_ n1_;replace BK520:=mA (blk_drew BK520.out);replace HB:=mA (below_drew1 HB.out)
           refine start_ (n:=36) (S:=fun w'=>w'.heap[gb520]?=some (.cells #[.int .i64 ((rd_T138 l0 x7_1).f0),.int .i64 ((rd_T138 l0 x7_1).f1),.int .i64 ((rd_T138 l0 x7_1).f2),.int .i64 ((rd_T138 l0 x7_1).f3)] 138 (0,0))) (ds:=[]) _ aK rfl rfl BK520.out (fun hHeld=>?_);refine with_tabW impl_BlkOk.tab4 impl_BlkOk.bits4 (fun HT_ HW_=>?_)
           generalize w29.drew=w30 at BK520 HB hHeld ⊢
           refine qu 0 ?_;refine qt 1 ?_
           refine qo 2 ?_;intro K hK
           refine gD Try.func74 (impl_in.calls A9.out) ?_
           rintro e w' ⟨rfl,⟨nd,rfl⟩⟩;refine ⟨_,rfl,?_⟩;refine hK.out _ _ BK520.out (fun hHeld=>?_);clear hK K;refine no_ (some 14) ?_;refine qu 3 ?_;refine qu 4 ?_;refine qu 5 ?_;refine qt 6 ?_
           refine qo 7 ?_;intro K hK
           refine gD Try.func74 (impl_in.calls A11.out) ?_
           rintro e w' ⟨rfl,⟨nd,rfl⟩⟩;refine ⟨_,rfl,?_⟩;refine hK.out _ _ BK520.out (fun hHeld=>?_);clear hK K;refine no_ (some 19) ?_;refine qu 8 ?_;refine qu 9 ?_;refine qu 10 ?_;refine qu 11 ?_;refine qt 12 ?_
           refine qo 13 ?_;intro K hK
           refine gD Try.func74 (impl_in.calls A13.out) ?_
           rintro e w' ⟨rfl,⟨nd,rfl⟩⟩;refine ⟨_,rfl,?_⟩;refine hK.out _ _ BK520.out (fun hHeld=>?_);clear hK K;refine no_ (some 25) ?_;refine qu 14 ?_;refine qu 15 ?_;refine qu 16 ?_;refine qd 17 ?_;refine qd 18 ?_;refine qd 19 ?_;refine qd 20 ?_;refine qu 21 ?_;refine qu 22 ?_;refine qd 23 ?_;refine qd 24 ?_;refine qd 25 ?_;refine qd 26 ?_;refine qd 27 ?_;refine qd 28 ?_;refine qd 29 ?_;refine qd 30 ?_;refine qd 31 ?_;refine qd 32 ?_;refine qd 33 ?_;refine qd 34 ?_;refine qu 35 ?_;refine qe ?_
           try go_wp2
           go_meet
           case rel=>exact ⟨_,(true),bZ,H',⟨by have:=HK1.out;have:=HJ1.out;first|omega|exact Nat.le_refl _⟩,⟨pK BK520.out⟩,⟨pS HB.out⟩⟩
         ·replace c12:=Bool.eq_false_iff.mpr c12;subst c12
          rw [if_neg nFT] at H
          have H':=mA H;clear H
          try go_wp2
          generalize hW_:((((w7.setCell ⟨gb520,0,none⟩ (.int .i64 ((rd_T138 l0 x7_1).f0))).setCell ⟨gb520,1,none⟩ (.int .i64 ((rd_T138 l0 x7_1).f1))).setCell ⟨gb520,2,none⟩ (.int .i64 ((rd_T138 l0 x7_1).f2))).setCell ⟨gb520,3,none⟩ (.int .i64 ((rd_T138 l0 x7_1).f3)))=w31
          have n0_:Aside0 (w31.heap[gb520]?=some (.cells #[.int .i64 ((rd_T138 l0 x7_1).f0),.int .i64 ((rd_T138 l0 x7_1).f1),.int .i64 ((rd_T138 l0 x7_1).f2),.int .i64 ((rd_T138 l0 x7_1).f3)] 138 (0,0))):=⟨by rw [← hW_];exact pP BK520⟩;have n1_:Aside0 (Below w.heap.size w w31):=⟨by rw [← hW_];exact pS HB.out⟩
          (try clear BK520);(try clear HB);clear hW_
          have BK520:=n0_;have HB:=n1_;clear n0_ n1_;replace BK520:=mA (blk_drew BK520.out);replace HB:=mA (below_drew1 HB.out)
          refine start_ (n:=36) (S:=fun w'=>w'.heap[gb520]?=some (.cells #[.int .i64 ((rd_T138 l0 x7_1).f0),.int .i64 ((rd_T138 l0 x7_1).f1),.int .i64 ((rd_T138 l0 x7_1).f2),.int .i64 ((rd_T138 l0 x7_1).f3)] 138 (0,0))) (ds:=[]) _ aK rfl rfl BK520.out (fun hHeld=>?_);refine with_tabW impl_BlkOk.tab4 impl_BlkOk.bits4 (fun HT_ HW_=>?_)
          generalize w31.drew=w32 at BK520 HB hHeld ⊢
          refine qu 0 ?_;refine qt 1 ?_
          refine qo 2 ?_;intro K hK
          refine gD Try.func74 (impl_in.calls A9.out) ?_
          rintro e w' ⟨rfl,⟨nd,rfl⟩⟩;refine ⟨_,rfl,?_⟩;refine hK.out _ _ BK520.out (fun hHeld=>?_);clear hK K;refine no_ (some 14) ?_;refine qu 3 ?_;refine qu 4 ?_;refine qu 5 ?_;refine qt 6 ?_
          refine qo 7 ?_;intro K hK
          refine gD Try.func74 (impl_in.calls A11.out) ?_
          rintro e w' ⟨rfl,⟨nd,rfl⟩⟩;refine ⟨_,rfl,?_⟩;refine hK.out _ _ BK520.out (fun hHeld=>?_);clear hK K;refine no_ (some 19) ?_;refine qu 8 ?_;refine qu 9 ?_;refine qu 10 ?_;refine qd 11 ?_;refine qd 12 ?_;refine qd 13 ?_;refine qd 14 ?_;refine qu 15 ?_;refine qu 16 ?_;refine qd 17 ?_;refine qd 18 ?_;refine qd 19 ?_;refine qd 20 ?_;refine qu 21 ?_;refine qu 22 ?_;refine qd 23 ?_;refine qd 24 ?_;refine qd 25 ?_;refine qd 26 ?_;refine qd 27 ?_;refine qd 28 ?_;refine qd 29 ?_;refine qd 30 ?_;refine qd 31 ?_;refine qd 32 ?_;refine qd 33 ?_;refine qd 34 ?_;refine qu 35 ?_;refine qe ?_
          try go_wp2
          go_meet
          case rel=>exact ⟨_,(true),bZ,H',⟨by have:=HK1.out;have:=HJ1.out;first|omega|exact Nat.le_refl _⟩,⟨pK BK520.out⟩,⟨pS HB.out⟩⟩
        ·replace c10:=Bool.eq_false_iff.mpr c10;subst c10
         rw [if_neg nFT] at H
         have H':=mA H;clear H
         try go_wp2
         generalize hW_:((((w7.setCell ⟨gb520,0,none⟩ (.int .i64 ((rd_T138 l0 x7_1).f0))).setCell ⟨gb520,1,none⟩ (.int .i64 ((rd_T138 l0 x7_1).f1))).setCell ⟨gb520,2,none⟩ (.int .i64 ((rd_T138 l0 x7_1).f2))).setCell ⟨gb520,3,none⟩ (.int .i64 ((rd_T138 l0 x7_1).f3)))=w33
         have n0_:Aside0 (w33.heap[gb520]?=some (.cells #[.int .i64 ((rd_T138 l0 x7_1).f0),.int .i64 ((rd_T138 l0 x7_1).f1),.int .i64 ((rd_T138 l0 x7_1).f2),.int .i64 ((rd_T138 l0 x7_1).f3)] 138 (0,0))):=⟨by rw [← hW_];exact pP BK520⟩;have n1_:Aside0 (Below w.heap.size w w33):=⟨by rw [← hW_];exact pS HB.out⟩
         (try clear BK520);(try clear HB);clear hW_
         have BK520:=n0_;have HB:=n1_;clear n0_ n1_;replace BK520:=mA (blk_drew BK520.out);replace HB:=mA (below_drew1 HB.out)
         refine start_ (n:=36) (S:=fun w'=>w'.heap[gb520]?=some (.cells #[.int .i64 ((rd_T138 l0 x7_1).f0),.int .i64 ((rd_T138 l0 x7_1).f1),.int .i64 ((rd_T138 l0 x7_1).f2),.int .i64 ((rd_T138 l0 x7_1).f3)] 138 (0,0))) (ds:=[]) _ aK rfl rfl BK520.out (fun hHeld=>?_);refine with_tabW impl_BlkOk.tab4 impl_BlkOk.bits4 (fun HT_ HW_=>?_)
         generalize w33.drew=w34 at BK520 HB hHeld ⊢
         refine qu 0 ?_;refine qt 1 ?_
         refine qo 2 ?_;intro K hK
         refine gD Try.func74 (impl_in.calls A9.out) ?_
         rintro e w' ⟨rfl,⟨nd,rfl⟩⟩;refine ⟨_,rfl,?_⟩;refine hK.out _ _ BK520.out (fun hHeld=>?_);clear hK K;refine no_ (some 14) ?_;refine qu 3 ?_;refine qu 4 ?_;refine qd 5 ?_;refine qd 6 ?_;refine qd 7 ?_;refine qd 8 ?_;refine qu 9 ?_;refine qu 10 ?_;refine qd 11 ?_;refine qd 12 ?_;refine qd 13 ?_;refine qd 14 ?_;refine qu 15 ?_;refine qu 16 ?_;refine qd 17 ?_;refine qd 18 ?_;refine qd 19 ?_;refine qd 20 ?_;refine qu 21 ?_;refine qu 22 ?_;refine qd 23 ?_;refine qd 24 ?_;refine qd 25 ?_;refine qd 26 ?_;refine qd 27 ?_;refine qd 28 ?_;refine qd 29 ?_;refine qd 30 ?_;refine qd 31 ?_;refine qd 32 ?_;refine qd 33 ?_;refine qd 34 ?_;refine qu 35 ?_;refine qe ?_
         try go_wp2
         go_meet
         case rel=>exact ⟨_,(true),bZ,H',⟨by have:=HK1.out;have:=HJ1.out;first|omega|exact Nat.le_refl _⟩,⟨pK BK520.out⟩,⟨pS HB.out⟩⟩
       case rest =>
        clear HC6
        obtain ⟨kq,x47_5,rfl,HA,HJ5,BK520,HB⟩:=hcut
        cases kq with
        | zero=>exact absurd HA.out (by simp [impl_BlkOk.j2])
        | succ kj5 =>
         have H:=HA.out;clear HA;simp only [impl_BlkOk.j2] at H
         by_cases c35:x47_5=true
         ·subst c35;rw [if_pos rfl] at H;obtain rfl:=Option.some.inj H
          go_wp2
          go_ret
          exact rZ (pS HB.out)
         ·replace c35:=Bool.eq_false_iff.mpr c35;subst c35
          rw [if_neg nFT] at H
          have H':=mA H;clear H
          go_wp2
          go_roundg kj5
          case measure=>have:=HK1.out;have:=HJ1.out;have:=HJ5.out;omega
          case rel=>exact ⟨(wrap64 (x7_1+1)),bZ,H',⟨by have:=HK1.out;have:=HJ1.out;have:=HJ5.out;omega⟩,⟨pS HB.out⟩⟩
      ·rw [if_neg c5] at H
       exact absurd H (by simp)
     ·rw [if_neg c4] at H
      exact absurd H (by simp)
end Go.Proofs.Ytoieojmfkkidnaa.P
