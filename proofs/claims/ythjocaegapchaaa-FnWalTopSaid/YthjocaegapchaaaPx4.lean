-- printed by pprint.py (this session's program over the kit's printer) out of the translation. Lean checks it.
import Derived.Test.YthjocaegapchaaaPx0
import Derived.Test.YthjocaegapchaaaPx2
import Derived.Test.YthjocaegapchaaaPx3
namespace Go.Proofs.Ythjocaegapchaaa.P
open Go.RowKit Go.Proofs.YthjocaegapchaaaX Go.Proofs.YthjocaegapchaaaW.PrintWords Go.Proofs.YthjocaegapchaaaW.PrintLast Go.Proofs.YthjocaegapchaaaW.PrintMore
attribute [local go_sem] max2_int min2_int max_two min_two max_three min_three max_four min_four   -- for this text's walks alone
set_option linter.unusedVariables false
set_option linter.unusedSimpArgs false

section
attribute [local go_sem] Go.Instr.field Go.asAgg
/-! ### spec_WalRead: function 12 -/
def spec_WalRead.l0 : Nat → List (S75) → List ByteArray → Int → Option (List ByteArray × Bool)
 | 0,_,_,_=>none
 | k+1,x5,x7,x8=>if x8<(x5.length:Int) then (if 0≤x8 then (if 0≤((rd_T75 x5 x8).f0) then (if ((rd_T75 x5 x8).f0)<(x7.length:Int) then (spec_WalRead.l0 k x5 (x7.set (((rd_T75 x5 x8).f0):Int).toNat ((rd_T75 x5 x8).f1)) (wrap64 (x8+1))) else (none)) else (none)) else (none)) else (some (x7,true))
def spec_WalRead.f (k : Nat) (l0_0 : List ByteArray) (l0_1 : List (S75)) : Option (List ByteArray × Bool) := (spec_l2Form.f k l0_0 l0_1).bind fun t140 => (if t140 = true then ((spec_SecFlush.f k l0_0 l0_1).bind fun bt144 => ((spec_l2Logged.f k bt144.1).bind fun bt150 => (if bt150.2 = true then ((some (([] : List ByteArray) : List ByteArray)).bind fun y157 => ((spec_l2Home.f 0).bind fun t160 => (if 0 ≤ t160 then (if t160 ≤ (bt144.1.length : Int) then ((some (bt144.1.drop (t160 : Int).toNat : List ByteArray)).bind fun y161 => (if y157.length + y161.length < 8796093022208 then (spec_WalRead.l0 k bt150.1 (y157 ++ y161) 0) else (none))) else (none)) else (none)))) else (some ((([] : List ByteArray)), false))))) else (some ((([] : List ByteArray)), false)))
theorem spec_WalRead.mono_l : ∀ k, (∀ y0 y1 y2, LeO (spec_WalRead.l0 k y0 y1 y2) (spec_WalRead.l0 (k + 1) y0 y1 y2))
 | 0=>fun _ _ _ r h=>by simp [spec_WalRead.l0] at h
 | k+1=>by
  have ih0:=spec_WalRead.mono_l k
  ·intro y0 y1 y2
   unfold spec_WalRead.l0
   repeat' first
   | (with_reducible first|exact ih0 _ _ _|exact spec_SecFlush.mono _ _ _|exact spec_l2Form.mono _ _ _|exact spec_l2Logged.mono _ _|exact LeO.refl _|exact LeO.none _|refine LeO.ite ?_ ?_|refine LeO.bind ?_ (fun _=>?_))|exact ih0 _ _ _|exact spec_SecFlush.mono _ _ _|exact spec_l2Form.mono _ _ _|exact spec_l2Logged.mono _ _|exact LeO.none _|refine LeO.ite ?_ ?_|refine LeO.bind ?_ (fun _=>?_)
theorem spec_WalRead.mono : ∀ a0 a1 k, LeO (spec_WalRead.f k a0 a1) (spec_WalRead.f (k + 1) a0 a1) := by
 intro a0 a1 k;have ih0:=spec_WalRead.mono_l k
 unfold spec_WalRead.f
 repeat' first
   | (with_reducible first|exact ih0 _ _ _|exact spec_SecFlush.mono _ _ _|exact spec_l2Form.mono _ _ _|exact spec_l2Logged.mono _ _|exact LeO.refl _|exact LeO.none _|refine LeO.ite ?_ ?_|refine LeO.bind ?_ (fun _=>?_))|exact ih0 _ _ _|exact spec_SecFlush.mono _ _ _|exact spec_l2Form.mono _ _ _|exact spec_l2Logged.mono _ _|exact LeO.none _|refine LeO.ite ?_ ?_|refine LeO.bind ?_ (fun _=>?_)
def spec_WalRead.T11 : Bool × List (List Nat × List Nat) := (true, [([], []), ([], []), ([], []), ([1, 2], [1, 2]), ([3], [3]), ([4], [4]), ([], []), ([], []), ([6, 7], [6, 7]), ([8], [8]), ([9], [9]), ([0, 5, 0, 1, 2, 3, 4, 5, 6, 7, 8, 9, 10], [0, 5]), ([11, 10, 0, 1, 2, 3, 4, 5, 6, 7, 8, 9, 10], [10, 11])])
def spec_WalRead.B11 : List Nat := [0, 0, 0, 6, 14, 30, 0, 0, 192, 448, 960, 2047, 4095]
theorem spec_WalRead.tab11 : rtab .any (opsOf Try.f12 11) = spec_WalRead.T11 := by kernel_rfl
theorem spec_WalRead.bits11 : waitsOk spec_WalRead.T11.2 spec_WalRead.B11 = true := by kernel_rfl
set_option maxHeartbeats 8000000 in
set_option maxRecDepth 100000 in
theorem spec_WalRead.calls (k : Nat) (A0_0 : Option Addr) (c0_0 : Nat) (l0_0 : List ByteArray) (A0_1 : Option Addr) (c0_1 : Nat) (l0_1 : List (S75)) (r1 : List ByteArray) (r2 : Bool) (w : World) (hr0_0 : Kd.C Kd.string w A0_0 l0_0.length l0_0) (hc0_0 : l0_0.length ≤ c0_0) (hr0_1 : Kd.C k75 w A0_1 l0_1.length l0_1) (hc0_1 : l0_1.length ≤ c0_1) (h : spec_WalRead.f k l0_0 l0_1 = some (r1, r2)) :
  Calls Try.prog 12 #[.agg #[.slice A0_0 l0_0.length c0_0,.slice A0_1 l0_1.length c0_1]] w fun e w'=>∃ v0_:Value,e=.returned (.tuple #[v0_,.bool r2])∧Kd.R Kd.string 9 w' w.heap.size (fun _=>True) v0_ r1∧Below w.heap.size w w':=by
 have hu31:=Try.underlying31;have HR0_0:=mA hr0_0;have HC0_0:=mA hc0_0;clear hr0_0 hc0_0;have HR0_1:=mA hr0_1;have HC0_1:=mA hc0_1;clear hr0_1 hc0_1;have HB:=mA (Below.refl w.heap.size w);have H:((spec_l2Form.f k l0_0 l0_1).bind fun t140=>(if t140=true then ((spec_SecFlush.f k l0_0 l0_1).bind fun bt144=>((spec_l2Logged.f k bt144.1).bind fun bt150=>(if bt150.2=true then ((some (([]:List ByteArray):List ByteArray)).bind fun y157=>((spec_l2Home.f 0).bind fun t160=>(if 0≤t160 then (if t160≤(bt144.1.length:Int) then ((some (bt144.1.drop (t160:Int).toNat:List ByteArray)).bind fun y161=>(if y157.length+y161.length<8796093022208 then (spec_WalRead.l0 k bt150.1 (y157 ++ y161) 0) else (none))) else (none)) else (none)))) else (some ((([]:List ByteArray)),false))))) else (some ((([]:List ByteArray)),false))))=some (r1,r2):=h;clear h;obtain ⟨t140,A2,H⟩:=bI H;(try dsimp only at H)
 by_cases c3:t140=true
 ·subst c3;rw [if_pos rfl] at H;obtain ⟨⟨t144,t147⟩,A4,H⟩:=bI H;(try dsimp only at H);obtain ⟨⟨t150,t151⟩,A5,H⟩:=bI H;(try dsimp only at H)
  by_cases c6:t151=true
  ·subst c6;rw [if_pos rfl] at H;obtain ⟨y157,hy157⟩:∃ y_:List ByteArray,y_=(([]:List ByteArray)):=⟨_,rfl⟩
   replace H:((spec_l2Home.f 0).bind fun t160=>(if 0≤t160 then (if t160≤(t144.length:Int) then ((some (t144.drop (t160:Int).toNat:List ByteArray)).bind fun y161=>(if y157.length+y161.length<8796093022208 then (spec_WalRead.l0 k t150 (y157 ++ y161) 0) else (none))) else (none)) else (none)))=some (r1,r2):=qH hy157 H
   have Ny157:=mA hy157;clear hy157;obtain ⟨t160,A7,H⟩:=bI H;(try dsimp only at H)
   by_cases c8:0≤t160
   ·rw [if_pos c8] at H;have c8b0:=eq_true c8;have c8b1:decide (0≤t160)=true:=decide_eq_true c8;clear c8
    by_cases c9:t160≤(t144.length:Int)
    ·rw [if_pos c9] at H;have c9b0:=eq_true c9;have c9b1:decide (t160≤(t144.length:Int))=true:=decide_eq_true c9;clear c9;obtain ⟨y161,hy161⟩:∃ y_:List ByteArray,y_=(t144.drop (t160:Int).toNat):=⟨_,rfl⟩
     replace H:(if y157.length+y161.length<8796093022208 then (spec_WalRead.l0 k t150 (y157 ++ y161) 0) else (none))=some (r1,r2):=qH hy161 H
     have Ny161:=mA hy161;clear hy161
     by_cases c10:y157.length+y161.length<8796093022208
     ·rw [if_pos c10] at H;have LMc10:=mA c10;clear c10;obtain ⟨y165,hy165⟩:∃ y_:List ByteArray,y_=(y157 ++ y161):=⟨_,rfl⟩
      replace H:(spec_WalRead.l0 k t150 y165 0)=some (r1,r2):=qH hy165 H
      have Ny165:=mA hy165;clear hy165;have H':=mA H;clear H
      go_enter Try.func12,Try.ntmps12
      go_wp2_with (first|(refine bE 1 #[.slice A0_0 l0_0.length c0_0,.slice A0_1 l0_1.length c0_1] 31 ?_;intro gb139 hg w11 hbox hb;have BK139:=mA hbox;have GW139:=gbpB HB hg;have GE139:=gbpB HB hg;replace HB:=spB HB hb;clear hb hbox hg;obtain ⟨hcz12_0,hcz12_1,hfz12_0,hfz12_1⟩:=box2 BK139.out)|(refine gL (some 10) Try.func44 #[.agg #[.slice A0_0 l0_0.length c0_0,.slice A0_1 l0_1.length c0_1]] ?_;(with_reducible refine (spec_l2Form.calls k _ _ l0_0 _ _ l0_1 true _ ?s1 ?s2 ?s3 ?s4 A2.out).mono ?_);(case s1=>exact cB HR0_0 HB);(case s2=>exact HC0_0.out);(case s3=>exact cB HR0_1 HB);(case s4=>exact HC0_1.out);rintro e w13 ⟨rfl,hb⟩;refine ⟨_,rfl,?_⟩;replace BK139:=bK BK139 hb;replace HB:=spS HB hb;(try clear hb);obtain ⟨hcz14_0,hcz14_1,hfz14_0,hfz14_1⟩:=box2 BK139.out)|(refine gL (some 14) Try.func45 #[.agg #[.slice A0_0 l0_0.length c0_0,.slice A0_1 l0_1.length c0_1]] ?_;(with_reducible refine (spec_SecFlush.calls k _ _ l0_0 _ _ l0_1 t144 t147 _ ?s1 ?s2 ?s3 ?s4 A4.out).mono ?_);(case s1=>exact cB HR0_0 HB);(case s2=>exact HC0_0.out);(case s3=>exact cB HR0_1 HB);(case s4=>exact HC0_1.out);rintro e w15 ⟨v145,v148,rfl,ho0,ho1,hb⟩;refine ⟨_,rfl,?_⟩;have HO146:=mA (Kd.R_lower ho0 (bpS HB));have HO149:=mA (Kd.R_lower ho1 (bpS HB));replace BK139:=bK BK139 hb;replace HB:=spS HB hb;(try clear hb);(try clear ho0);(try clear ho1);obtain ⟨Ao16,co16,rfl⟩:=Kd.R_slice HO146.out)|(refine gL (some 18) Try.func46 #[.slice Ao16 t144.length co16] ?_;(with_reducible refine (spec_l2Logged.calls k _ _ t144 t150 true _ ?s1 ?s2 A5.out).mono ?_);(case s1=>exact cR HO146);(case s2=>exact cL HO146);rintro e w17 ⟨v152,rfl,ho0,hb⟩;refine ⟨_,rfl,?_⟩;replace HO146:=rB HO146 hb;have HO153:=mA (Kd.R_lower (Kd.R_new' ho0 (rL HO149)) (bpS HB));replace HO149:=rE HO149 ho0 hb;replace BK139:=bK BK139 hb;replace HB:=spS HB hb;(try clear hb);(try clear ho0))|((with_reducible refine gate_dst (N:=24) rfl ?_);refine Kd.R_lit Kd.string _ 9 ?hg (N:=24) ?hd (xs:=([]:List ByteArray)) (inner:=[]) (ok:=fun _=>True) (okp:=fun _=>True) ?hr ?hp (fun _ hk=>hk) trivial (Below.refl _ _) (Nat.le_refl _) (by simp) ?_;(case hd=>rfl);(case hg=>rfl);(case hr=>first|(go_simp;done)|(go_simp;rfl));(case hp=>exact (Reps.none _ _));intro v158 w18 ho19 hb hg_ hnew_;clear hg_ hnew_;(first|rw [← Ny157.out] at ho19|(simp only [Int.reduceToNat] at ho19;rw [← Ny157.out] at ho19));replace HO149:=rB HO149 hb;replace HO153:=rB HO153 hb;have HO159:=mA (Kd.R_lower (Kd.R_new' ho19 (rL HO146)) (bpS HB));replace HO146:=rE HO146 ho19 hb;replace BK139:=bK BK139 hb;replace HB:=spS HB hb;clear hb ho19)|(refine gL (some 26) Try.func47 #[.int .i64 0] ?_;(with_reducible refine (spec_l2Home.calls 0 t160 _ A7.out).mono ?_);rintro e w' ⟨rfl,⟨nd,rfl⟩⟩;refine ⟨_,rfl,?_⟩;have q20:(t160:Int)≤((t144.length:Int):Int):=of_decide_eq_true bA;obtain ⟨i020,hi020,_,hsz20,_⟩:=info_parts info9;have hroom20:t144.length≤co16:=cL HO146;have hC20:Kd.C Kd.string _ Ao16 t144.length t144:=(Kd.R_reads' HO146.out).2.2;have q020:(0:Int)≤(t160:Int):=of_decide_eq_true bA;have hcut20:=cut_from (P:=Try.prog) 22 9 .i64 Try.underlying22 hi020 1 hsz20 Ao16 t144.length co16 t160 q020 q20;have hr20:=Kd.C_drop (m:=(t160:Int).toNat) (c:=co16) hC20 (by omega) hroom20;obtain ⟨A20,hA20⟩:∃ A1,A1=(if co16=(t160:Int).toNat then Ao16 else (Ao16:Option Addr).map (·.add ((t160:Int).toNat * 1))):=⟨_,rfl⟩;obtain ⟨c20,hc20⟩:∃ c1,c1=co16 - (t160:Int).toNat:=⟨_,rfl⟩;have hy20:y161.length=t144.length - (t160:Int).toNat:=(by rw [Ny161.out,List.length_drop]<;>omega);rw [show (t144).drop (t160:Int).toNat=y161 from Ny161.out.symm] at hr20;replace hr20:Kd.C Kd.string _ A20 y161.length y161:=(by rw [hA20];exact hr20);rw [← hy20,← hA20,← hc20] at hcut20;have HR164:=mA hr20;have HC164:=mA (show y161.length≤c20 from by rw [hy20,hc20];exact Nat.sub_le_sub_right hroom20 _);clear hr20 hC20 hroom20 hi020 hsz20 hc20;have KY20:=mA hy20;have KA20:=mA hA20;clear hy20 hA20;have KL20:=mA (show (t160:Int).toNat≤t144.length from by omega);replace q20:=eq_true q20)|((with_reducible refine gate_builtin (b:=.append) (xs:=#[.tmp 24,.tmp 27]) rfl ?_);at_builtin;refine Kd.R_append_rows Kd.string (w0:=w) w.heap.size rfl (.tmp 24) (.tmp 27) 22 9 (.string ⟨#[]⟩) 16 rfl Try.underlying22 info9 rfl aD (by omega) v158 y157 y161 _ _ _ (fun k_=>some k_≠(.slice Ao16 t144.length co16:Value).ownBlock) (fun _=>False) rfl rfl ?aO ?aR (fun _ _ h=>h) (fun _ h=>h.elim) ?aF ?aB ?aS ?aL ?_;(case aR=>repeat (first|exact (by repeat (first|(with_reducible exact HR164.out)|(with_reducible refine Kd.C_alloc ?_ _)|(with_reducible refine Kd.C_drewN ?_ _)|(with_reducible refine Kd.C_drew ?_)|exact HR164.out))|(with_reducible refine Kd.C_alloc ?_ _)|(with_reducible refine Kd.C_drewN ?_ _)|(with_reducible refine Kd.C_drew ?_)));(case aB=>exact (pS HB.out));(case aF=>exact (fun k_ hk=>Kd.fresh' (rL HO146) k_ hk));(case aO=>exact (pR (Kd.R_mono HO159.out (fun _ hk=>hk.2))));(case aS=>exact (bpS HB));(case aL=>have:=LMc10.out;omega);intro v166 w21 ho hb hg hat;rw [← Ny165.out] at ho;replace HO149:=mA (Kd.R_over' (pR HO149.out) (Kd.R_typed (pR HO159.out)) aD hg);replace HO153:=mA (Kd.R_over' (pR HO153.out) (Kd.R_typed (pR HO159.out)) aD hg);have HO167:=mA ho;replace BK139:=mA (blk_grown (pK BK139.out) hg (rN HO159 BK139));replace HB:=mA hb;replace HR164:=mA (show Kd.C Kd.string w21 A20 y161.length y161 from by rw [Ny161.out,KA20.out];exact Kd.C_drop (m:=(t160:Int).toNat) (c:=co16) ((Kd.R_reads' (Kd.R_after (ok:=(fun _=>True)) (pR HO146.out) hg hat)).2.2) KL20.out ((Kd.R_reads' (Kd.R_after (ok:=(fun _=>True)) (pR HO146.out) hg hat)).2.1));replace HO146:=mA (Kd.R_after (ok:=(fun _=>True)) (pR HO146.out) hg hat);clear HO159;clear ho hb hg hat))
      go_loopg [8] k (fun kq v8 w'=>∃ (x7_1:List ByteArray) (x8_1:Int),v8=.int .i64 x8_1∧Aside0 (spec_WalRead.l0 kq t150 x7_1 x8_1=some (r1,r2))∧Aside0 (kq≤k)∧Aside0 (Kd.R k75 75 w' w.heap.size (fun _=>True) v152 t150)∧Aside0 (Kd.R Kd.string 9 w' w.heap.size (fun _=>True) v166 x7_1)∧Aside0 (w'.heap[gb139]?=some (.cells #[(.slice A0_0 l0_0.length c0_0),(.slice A0_1 l0_1.length c0_1)] 31 (0,0)))∧Aside0 (Below w.heap.size w w'))
      case atStart=>exact ⟨(y165),(0),bZ,H',⟨Nat.le_refl _⟩,⟨pR (Kd.R_mono HO153.out (fun _ hk=>trivial))⟩,⟨pR (Kd.R_mono HO167.out (fun _ hk=>trivial))⟩,⟨pK BK139.out⟩,⟨pS HB.out⟩⟩
      case round =>
       clear H'
       (try clear c1);(try clear c3);(try clear c6);(try clear c8);(try clear c8b0);(try clear c8b1);(try clear c9);(try clear c9b0);(try clear c9b1);(try clear c10);(try clear c20);(try clear q20);(try clear hcz12_0);(try clear hcz12_1);(try clear hcz14_0);(try clear hcz14_1);(try clear hfz12_0);(try clear hfz12_1);(try clear hfz14_0);(try clear hfz14_1);(try clear q020);(try clear q20)
       obtain ⟨x7_1,x8_1,rfl,HA,HK1,HO_5,HO_7,BK139,HB⟩:=hrel
       cases gk with
       | zero=>exact absurd HA.out (by simp [spec_WalRead.l0])
       | succ k1 =>
        have H:=HA.out;clear HA;simp only [spec_WalRead.l0] at H
        by_cases c22:x8_1<(t150.length:Int)
        ·rw [if_pos c22] at H;have c22b0:decide (x8_1<(t150.length:Int))=true:=decide_eq_true c22;clear c22
         by_cases c23:0≤x8_1
         ·rw [if_pos c23] at H;have c23b0:decide (0≤x8_1)=true:=decide_eq_true c23;clear c23
          by_cases c24:0≤((rd_T75 t150 x8_1).f0)
          ·rw [if_pos c24] at H;have c24b0:decide (0≤((rd_T75 t150 x8_1).f0))=true:=decide_eq_true c24;clear c24
           by_cases c25:((rd_T75 t150 x8_1).f0)<(x7_1.length:Int)
           ·rw [if_pos c25] at H;have c25b0:decide (((rd_T75 t150 x8_1).f0)<(x7_1.length:Int))=true:=decide_eq_true c25;clear c25;obtain ⟨y170,hy170⟩:∃ y_:List ByteArray,y_=(x7_1.set (((rd_T75 t150 x8_1).f0):Int).toNat ((rd_T75 t150 x8_1).f1)):=⟨_,rfl⟩
            replace H:(spec_WalRead.l0 k1 t150 y170 (wrap64 (x8_1+1)))=some (r1,r2):=qH hy170 H
            have Ny170:=mA hy170;clear hy170;have H':=mA H;clear H;obtain ⟨Ao27,co27,rfl⟩:=Kd.R_slice HO_5.out
            try go_wp2
            replace HO_5:=rD HO_5;replace HO_7:=rD HO_7;replace BK139:=mA (blk_drew BK139.out);replace HB:=mA (below_drew1 HB.out);have p168:0≤(x8_1:Int):=of_decide_eq_true bA;have q168:x8_1<(t150.length:Int):=of_decide_eq_true bA;obtain ⟨ad168,e168,hx168_0,hx168_1⟩:=at_T75 (Kd.R_reads' HO_5.out).2.2 x8_1 p168 q168;cases e168;replace p168:=eq_true p168;replace q168:=eq_true q168;have p169:0≤(x8_1:Int):=of_decide_eq_true bA;have q169:x8_1<(t150.length:Int):=of_decide_eq_true bA;obtain ⟨ad169,e169,hx169_0,hx169_1⟩:=at_T75 (Kd.R_reads' HO_5.out).2.2 x8_1 p169 q169
            obtain rfl:ad168=ad169:=(by injection e169)
            replace p169:=eq_true p169;replace q169:=eq_true q169;have p26:0≤(((rd_T75 t150 x8_1).f0):Int):=of_decide_eq_true bA;have q26:(((rd_T75 t150 x8_1).f0):Int)<((x7_1.length:Int):Int):=of_decide_eq_true bA
            obtain ⟨go26,co26,eo26,gb26,gl26,cl26,HG26⟩:=Kd.R_form HO_7.out (by omega)
            (first|cases eo26|(injection eo26 with ea_ en_ ec_;(first|subst ea_|(injection ea_ with ea_;subst ea_));subst ec_;clear en_))
            have GB26:=mA gb26;have GG26:=mA HG26;clear gb26 gl26 HG26;obtain ⟨hx26_0,hf26_0⟩:=Kd.R_celln (⟨#[]⟩:ByteArray) HO_7.out (((rd_T75 t150 x8_1).f0):Int) p26 q26;replace p26:=eq_true p26;replace q26:=eq_true q26;have HP29:=Kd.R_putn HO_7.out (((rd_T75 t150 x8_1).f0):Int) ((rd_T75 t150 x8_1).f1);rw [← Ny170.out] at HP29;have HQ29:=mA HP29;clear HP29
            refine start_ (n:=13) (S:=fun w'=>w'.cell? (ad168.add ((x8_1).toNat * 2))=some (.int .i64 ((rd_T75 t150 x8_1).f0))∧w'.cell? ⟨(ad168.add ((x8_1).toNat * 2)).block,(ad168.add ((x8_1).toNat * 2)).off+1,none⟩=some (.string ((rd_T75 t150 x8_1).f1))∧w'.cell? (ad168.add ((x8_1).toNat * 2))=some (.int .i64 ((rd_T75 t150 x8_1).f0))∧w'.cell? ⟨(ad168.add ((x8_1).toNat * 2)).block,(ad168.add ((x8_1).toNat * 2)).off+1,none⟩=some (.string ((rd_T75 t150 x8_1).f1))) (ds:=[12]) _ aK rfl rfl ⟨hx168_0,hx168_1,hx169_0,hx169_1⟩ (fun hHeld=>?_);refine with_tabW spec_WalRead.tab11 spec_WalRead.bits11 (fun HT_ HW_=>?_)
            generalize wr.drew=w28 at HO_5 HO_7 BK139 HB GG26 HQ29 hf26_0 hx168_0 hx168_1 hx169_0 hx169_1 hx26_0 hHeld ⊢
            refine pu_ 0 (some 35) (aT HT_) ?_
            refine pu_ 1 (some 36) (aT HT_) ?_
            refine pu_ 2 (some 37) (aT HT_) ?_
            refine pu_ 3 (some 38) (aT HT_) ?_
            refine pu_ 4 (some 39) (aT HT_) ?_
            refine pu_ 6 (some 41) (aT HT_) ?_
            refine pu_ 7 (some 42) (aT HT_) ?_
            refine pu_ 8 (some 43) (aT HT_) ?_
            refine pu_ 9 (some 44) (aT HT_) ?_
            refine ta4_ 5 (some 40) (tT HT_ HW_) hHeld ?_
            refine ta4_ 10 (some 45) (tT HT_ HW_) hHeld ?_
            refine pu_ 11 (some 46) (aT HT_) ?_
            refine last_ (i:=12) (N:=none) #[true,true,true,true,true,true,true,true,true,true,true,true,true] rfl rfl (oT HT_) aD (fun K hK=>?_)
            refine skip_ (w1:=?_) (by rfl) rfl ?_ ?_
            rotate_left
            ·go_simp;rfl
            refine hK.out _ _ ?_;clear hK K
            refine done_ (done_of HT_.out aK) ?_
            try go_wp2
            go_roundg k1
            case measure=>have:=HK1.out;omega
            case rel=>exact ⟨(y170),(wrap64 (x8_1+1)),bZ,H',⟨by have:=HK1.out;omega⟩,⟨pR (Kd.R_mono (Kd.R_far (p:=⟨go26,(((rd_T75 t150 x8_1).f0):Int).toNat,none⟩) (Kd.R_types HO_5.out GG26.out aD) (fun _ hk=>hk.2) (.string ((rd_T75 t150 x8_1).f1))) (fun _ hk=>trivial))⟩,⟨pR HQ29.out⟩,⟨by (with_reducible repeat (first|refine blk_drewN ?_ _|refine blk_drew ?_|refine blk_alloc ?_ _));refine blk_far ?_ (by have h_:=Kd.R_ne HO_7.out BK139.out aD;intro e_;exact h_ (by rw [e_];rfl)) _;(with_reducible repeat (first|refine blk_drewN ?_ _|refine blk_drew ?_|refine blk_alloc ?_ _));exact BK139.out⟩,⟨by repeat (first|(with_reducible first|exact HB.out|apply below_alloc|apply pw_below_drewN|apply below_drew1|refine below_set ?_ GB26.out|refine below_set ?_ GE139.out)|exact HB.out)⟩⟩
           ·rw [if_neg c25] at H
            exact absurd H (by simp)
          ·rw [if_neg c24] at H
           exact absurd H (by simp)
         ·rw [if_neg c23] at H
          exact absurd H (by simp)
        ·rw [if_neg c22] at H;have c22b0:decide (x8_1<(t150.length:Int))=false:=decide_eq_false c22;clear c22;simp only [Option.some.injEq,Prod.mk.injEq] at H;obtain ⟨rfl,rfl⟩:=H;obtain ⟨Ao30,co30,rfl⟩:=Kd.R_slice HO_5.out
         go_wp2
         go_ret2
         exact ⟨_,by first|rfl|(simp [errW_none,errW_some]<;>rfl)|(simp [*,errW_none,errW_some]<;>rfl),pR HO_7.out,pS HB.out⟩
     ·rw [if_neg c10] at H
      exact absurd H (by simp)
    ·rw [if_neg c9] at H
     exact absurd H (by simp)
   ·rw [if_neg c8] at H
    exact absurd H (by simp)
  ·replace c6:=Bool.eq_false_iff.mpr c6;subst c6
   rw [if_neg nFT] at H
   obtain ⟨y154,hy154⟩:∃ y_:List ByteArray,y_=(([]:List ByteArray)):=⟨_,rfl⟩
   replace H:(some (y154,false))=some (r1,r2):=qH hy154 H
   have Ny154:=mA hy154;clear hy154;simp only [Option.some.injEq,Prod.mk.injEq] at H;obtain ⟨rfl,rfl⟩:=H
   go_enter Try.func12,Try.ntmps12
   go_wp2_with (first|(refine bE 1 #[.slice A0_0 l0_0.length c0_0,.slice A0_1 l0_1.length c0_1] 31 ?_;intro gb139 hg w31 hbox hb;have BK139:=mA hbox;have GW139:=gbpB HB hg;have GE139:=gbpB HB hg;replace HB:=spB HB hb;clear hb hbox hg;obtain ⟨hcz32_0,hcz32_1,hfz32_0,hfz32_1⟩:=box2 BK139.out)|(refine gL (some 10) Try.func44 #[.agg #[.slice A0_0 l0_0.length c0_0,.slice A0_1 l0_1.length c0_1]] ?_;(with_reducible refine (spec_l2Form.calls k _ _ l0_0 _ _ l0_1 true _ ?s1 ?s2 ?s3 ?s4 A2.out).mono ?_);(case s1=>exact cB HR0_0 HB);(case s2=>exact HC0_0.out);(case s3=>exact cB HR0_1 HB);(case s4=>exact HC0_1.out);rintro e w33 ⟨rfl,hb⟩;refine ⟨_,rfl,?_⟩;replace BK139:=bK BK139 hb;replace HB:=spS HB hb;(try clear hb);obtain ⟨hcz34_0,hcz34_1,hfz34_0,hfz34_1⟩:=box2 BK139.out)|(refine gL (some 14) Try.func45 #[.agg #[.slice A0_0 l0_0.length c0_0,.slice A0_1 l0_1.length c0_1]] ?_;(with_reducible refine (spec_SecFlush.calls k _ _ l0_0 _ _ l0_1 t144 t147 _ ?s1 ?s2 ?s3 ?s4 A4.out).mono ?_);(case s1=>exact cB HR0_0 HB);(case s2=>exact HC0_0.out);(case s3=>exact cB HR0_1 HB);(case s4=>exact HC0_1.out);rintro e w35 ⟨v145,v148,rfl,ho0,ho1,hb⟩;refine ⟨_,rfl,?_⟩;have HO146:=mA (Kd.R_lower ho0 (bpS HB));have HO149:=mA (Kd.R_lower ho1 (bpS HB));replace BK139:=bK BK139 hb;replace HB:=spS HB hb;(try clear hb);(try clear ho0);(try clear ho1);obtain ⟨Ao36,co36,rfl⟩:=Kd.R_slice HO146.out)|(refine gL (some 18) Try.func46 #[.slice Ao36 t144.length co36] ?_;(with_reducible refine (spec_l2Logged.calls k _ _ t144 t150 false _ ?s1 ?s2 A5.out).mono ?_);(case s1=>exact cR HO146);(case s2=>exact cL HO146);rintro e w37 ⟨v152,rfl,ho0,hb⟩;refine ⟨_,rfl,?_⟩;replace HO146:=rB HO146 hb;have HO153:=mA (Kd.R_lower (Kd.R_new' ho0 (rL HO149)) (bpS HB));replace HO149:=rE HO149 ho0 hb;replace BK139:=bK BK139 hb;replace HB:=spS HB hb;(try clear hb);(try clear ho0))|((with_reducible refine gate_dst (N:=23) rfl ?_);refine Kd.R_lit Kd.string _ 9 ?hg (N:=23) ?hd (xs:=([]:List ByteArray)) (inner:=[]) (ok:=fun _=>True) (okp:=fun _=>True) ?hr ?hp (fun _ hk=>hk) trivial (Below.refl _ _) (Nat.le_refl _) (by simp) ?_;(case hd=>rfl);(case hg=>rfl);(case hr=>first|(go_simp;done)|(go_simp;rfl));(case hp=>exact (Reps.none _ _));intro v155 w38 ho39 hb hg_ hnew_;clear hg_ hnew_;(first|rw [← Ny154.out] at ho39|(simp only [Int.reduceToNat] at ho39;rw [← Ny154.out] at ho39));replace HO149:=rB HO149 hb;replace HO153:=rB HO153 hb;have HO156:=mA (Kd.R_lower (Kd.R_new' ho39 (rL HO146)) (bpS HB));replace HO146:=rE HO146 ho39 hb;replace BK139:=bK BK139 hb;replace HB:=spS HB hb;clear hb ho39))
   go_ret2
   exact ⟨_,by first|rfl|(simp [errW_none,errW_some]<;>rfl)|(simp [*,errW_none,errW_some]<;>rfl),pR (Kd.R_mono HO156.out (fun _ hk=>trivial)),pS HB.out⟩
 ·replace c3:=Bool.eq_false_iff.mpr c3;subst c3
  rw [if_neg nFT] at H
  obtain ⟨y141,hy141⟩:∃ y_:List ByteArray,y_=(([]:List ByteArray)):=⟨_,rfl⟩
  replace H:(some (y141,false))=some (r1,r2):=qH hy141 H
  have Ny141:=mA hy141;clear hy141;simp only [Option.some.injEq,Prod.mk.injEq] at H;obtain ⟨rfl,rfl⟩:=H
  go_enter Try.func12,Try.ntmps12
  go_wp2_with (first|(refine bE 1 #[.slice A0_0 l0_0.length c0_0,.slice A0_1 l0_1.length c0_1] 31 ?_;intro gb139 hg w40 hbox hb;have BK139:=mA hbox;have GW139:=gbpB HB hg;have GE139:=gbpB HB hg;replace HB:=spB HB hb;clear hb hbox hg;obtain ⟨hcz41_0,hcz41_1,hfz41_0,hfz41_1⟩:=box2 BK139.out)|(refine gL (some 10) Try.func44 #[.agg #[.slice A0_0 l0_0.length c0_0,.slice A0_1 l0_1.length c0_1]] ?_;(with_reducible refine (spec_l2Form.calls k _ _ l0_0 _ _ l0_1 false _ ?s1 ?s2 ?s3 ?s4 A2.out).mono ?_);(case s1=>exact cB HR0_0 HB);(case s2=>exact HC0_0.out);(case s3=>exact cB HR0_1 HB);(case s4=>exact HC0_1.out);rintro e w42 ⟨rfl,hb⟩;refine ⟨_,rfl,?_⟩;replace BK139:=bK BK139 hb;replace HB:=spS HB hb;(try clear hb))|((with_reducible refine gate_dst (N:=12) rfl ?_);refine Kd.R_lit Kd.string _ 9 ?hg (N:=12) ?hd (xs:=([]:List ByteArray)) (inner:=[]) (ok:=fun _=>True) (okp:=fun _=>True) ?hr ?hp (fun _ hk=>hk) trivial (Below.refl _ _) (Nat.le_refl _) (by simp) ?_;(case hd=>rfl);(case hg=>rfl);(case hr=>first|(go_simp;done)|(go_simp;rfl));(case hp=>exact (Reps.none _ _));intro v142 w43 ho44 hb hg_ hnew_;clear hg_ hnew_;(first|rw [← Ny141.out] at ho44|(simp only [Int.reduceToNat] at ho44;rw [← Ny141.out] at ho44));have HO143:=mA (Kd.R_lower ho44 (bpS HB));replace BK139:=bK BK139 hb;replace HB:=spS HB hb;clear hb ho44))
  go_ret2
  exact ⟨_,by first|rfl|(simp [errW_none,errW_some]<;>rfl)|(simp [*,errW_none,errW_some]<;>rfl),pR HO143.out,pS HB.out⟩
end

section
attribute [local go_sem] Go.Instr.field Go.asAgg
/-! ### impl_WalRead: function 14 -/
def impl_WalRead.l0 : Nat → List ByteArray → List (S81) → Int → Int → Option (List ByteArray × Bool)
 | 0,_,_,_,_=>none
 | k+1,x6,x21,x22,x23=>if x23<x22 then (if 0≤x23 then (if x23<(x21.length:Int) then (if 0≤((rd_T81 x21 x23).f0) then (if ((rd_T81 x21 x23).f0)<(x6.length:Int) then (impl_WalRead.l0 k (x6.set (((rd_T81 x21 x23).f0):Int).toNat ((rd_T81 x21 x23).f1)) x21 x22 (wrap64 (x23+1))) else (none)) else (none)) else (none)) else (none)) else (some (x6,true))
def impl_WalRead.f (k : Nat) (l0_0 : List ByteArray) (l0_1 : List (S75)) : Option (List ByteArray × Bool) := (impl_walLog.f k l0_0 l0_1).bind fun bt232 => (if bt232.2 = true then ((impl_SecFlush.f k l0_0 l0_1).bind fun bt236 => (if 251 ≤ (bt236.1.length : Int) then ((impl_copied_string.f (bt236.1.drop 251)).bind fun t246 => (impl_WalRead.l0 k t246 bt232.1 (bt232.1.length : Int) 0)) else (none))) else (some (([] : List ByteArray), false)))
theorem impl_WalRead.mono_l : ∀ k, (∀ y0 y1 y2 y3, LeO (impl_WalRead.l0 k y0 y1 y2 y3) (impl_WalRead.l0 (k + 1) y0 y1 y2 y3))
 | 0=>fun _ _ _ _ r h=>by simp [impl_WalRead.l0] at h
 | k+1=>by
  have ih0:=impl_WalRead.mono_l k
  ·intro y0 y1 y2 y3
   unfold impl_WalRead.l0
   repeat' first
   | (with_reducible first|exact ih0 _ _ _ _|exact impl_SecFlush.mono _ _ _|exact impl_walLog.mono _ _ _|exact LeO.refl _|exact LeO.none _|refine LeO.ite ?_ ?_|refine LeO.bind ?_ (fun _=>?_))|exact ih0 _ _ _ _|exact impl_SecFlush.mono _ _ _|exact impl_walLog.mono _ _ _|exact LeO.none _|refine LeO.ite ?_ ?_|refine LeO.bind ?_ (fun _=>?_)
theorem impl_WalRead.mono : ∀ a0 a1 k, LeO (impl_WalRead.f k a0 a1) (impl_WalRead.f (k + 1) a0 a1) := by
 intro a0 a1 k;have ih0:=impl_WalRead.mono_l k
 unfold impl_WalRead.f
 repeat' first
   | (with_reducible first|exact ih0 _ _ _ _|exact impl_SecFlush.mono _ _ _|exact impl_walLog.mono _ _ _|exact LeO.refl _|exact LeO.none _|refine LeO.ite ?_ ?_|refine LeO.bind ?_ (fun _=>?_))|exact ih0 _ _ _ _|exact impl_SecFlush.mono _ _ _|exact impl_walLog.mono _ _ _|exact LeO.none _|refine LeO.ite ?_ ?_|refine LeO.bind ?_ (fun _=>?_)
set_option maxHeartbeats 8000000 in
set_option maxRecDepth 100000 in
theorem impl_WalRead.calls (k : Nat) (A0_0 : Option Addr) (c0_0 : Nat) (l0_0 : List ByteArray) (A0_1 : Option Addr) (c0_1 : Nat) (l0_1 : List (S75)) (r1 : List ByteArray) (r2 : Bool) (w : World) (hr0_0 : Kd.C Kd.string w A0_0 l0_0.length l0_0) (hc0_0 : l0_0.length ≤ c0_0) (hr0_1 : Kd.C k75 w A0_1 l0_1.length l0_1) (hc0_1 : l0_1.length ≤ c0_1) (h : impl_WalRead.f k l0_0 l0_1 = some (r1, r2)) :
  Calls Try.prog 14 #[.agg #[.slice A0_0 l0_0.length c0_0,.slice A0_1 l0_1.length c0_1]] w fun e w'=>∃ v0_:Value,e=.returned (.tuple #[v0_,.bool r2])∧Kd.R Kd.string 9 w' w.heap.size (fun _=>True) v0_ r1∧Below w.heap.size w w':=by
 have hu31:=Try.underlying31;have hu81:=Try.underlying81;have HR0_0:=mA hr0_0;have HC0_0:=mA hc0_0;clear hr0_0 hc0_0;have HR0_1:=mA hr0_1;have HC0_1:=mA hc0_1;clear hr0_1 hc0_1;have HB:=mA (Below.refl w.heap.size w);have H:((impl_walLog.f k l0_0 l0_1).bind fun bt232=>(if bt232.2=true then ((impl_SecFlush.f k l0_0 l0_1).bind fun bt236=>(if 251≤(bt236.1.length:Int) then ((impl_copied_string.f (bt236.1.drop 251)).bind fun t246=>(impl_WalRead.l0 k t246 bt232.1 (bt232.1.length:Int) 0)) else (none))) else (some (([]:List ByteArray),false))))=some (r1,r2):=h;clear h;obtain ⟨⟨t232,t235⟩,A2,H⟩:=bI H;(try dsimp only at H)
 by_cases c3:t235=true
 ·subst c3;rw [if_pos rfl] at H;obtain ⟨⟨t236,t239⟩,A4,H⟩:=bI H;(try dsimp only at H)
  by_cases c5:251≤(t236.length:Int)
  ·rw [if_pos c5] at H;have c5b0:=eq_true c5;have c5b1:decide (251≤(t236.length:Int))=true:=decide_eq_true c5;clear c5;obtain ⟨y242,hy242⟩:∃ y_:List ByteArray,y_=(t236.drop 251):=⟨_,rfl⟩
   replace H:((impl_copied_string.f y242).bind fun t246=>(impl_WalRead.l0 k t246 t232 (t232.length:Int) 0))=some (r1,r2):=qH hy242 H
   have Ny242:=mA hy242;clear hy242;obtain ⟨t246,A6,H⟩:=bI H;(try dsimp only at H);have H':=mA H;clear H
   go_enter Try.func14,Try.ntmps14
   go_wp2_with (first|(refine bE 1 #[.slice A0_0 l0_0.length c0_0,.slice A0_1 l0_1.length c0_1] 31 ?_;intro gb231 hg w7 hbox hb;have BK231:=mA hbox;have GW231:=gbpB HB hg;have GE231:=gbpB HB hg;replace HB:=spB HB hb;clear hb hbox hg;obtain ⟨hcz8_0,hcz8_1,hfz8_0,hfz8_1⟩:=box2 BK231.out)|(refine gL (some 11) Try.func49 #[.agg #[.slice A0_0 l0_0.length c0_0,.slice A0_1 l0_1.length c0_1]] ?_;(with_reducible refine (impl_walLog.calls k _ _ l0_0 _ _ l0_1 t232 true _ ?s1 ?s2 ?s3 ?s4 A2.out).mono ?_);(case s1=>exact cB HR0_0 HB);(case s2=>exact HC0_0.out);(case s3=>exact cB HR0_1 HB);(case s4=>exact HC0_1.out);rintro e w9 ⟨v233,rfl,ho0,hb⟩;refine ⟨_,rfl,?_⟩;have HO234:=mA (Kd.R_lower ho0 (bpS HB));replace BK231:=bK BK231 hb;replace HB:=spS HB hb;(try clear hb);(try clear ho0);obtain ⟨hcz10_0,hcz10_1,hfz10_0,hfz10_1⟩:=box2 BK231.out)|(refine gL (some 17) Try.func51 #[.agg #[.slice A0_0 l0_0.length c0_0,.slice A0_1 l0_1.length c0_1]] ?_;(with_reducible refine (impl_SecFlush.calls k _ _ l0_0 _ _ l0_1 t236 t239 _ ?s1 ?s2 ?s3 ?s4 A4.out).mono ?_);(case s1=>exact cB HR0_0 HB);(case s2=>exact HC0_0.out);(case s3=>exact cB HR0_1 HB);(case s4=>exact HC0_1.out);rintro e w11 ⟨v237,v240,rfl,ho0,ho1,hb⟩;refine ⟨_,rfl,?_⟩;replace HO234:=rB HO234 hb;have HO238:=mA (Kd.R_lower ho0 (bpS HB));have HO241:=mA (Kd.R_lower ho1 (bpS HB));replace BK231:=bK BK231 hb;replace HB:=spS HB hb;(try clear hb);(try clear ho0);(try clear ho1);obtain ⟨Ao13,co13,rfl⟩:=Kd.R_slice HO238.out;have q12:(251:Int)≤((t236.length:Int):Int):=of_decide_eq_true bA;obtain ⟨i012,hi012,_,hsz12,_⟩:=info_parts info9;have hroom12:t236.length≤co13:=cL HO238;have hC12:Kd.C Kd.string _ Ao13 t236.length t236:=(Kd.R_reads' HO238.out).2.2;have hcut12:=cut_from (P:=Try.prog) 22 9 .i64 Try.underlying22 hi012 1 hsz12 Ao13 t236.length co13 251 (by omega) q12;have hr12:=Kd.C_drop (m:=(251:Int).toNat) (c:=co13) hC12 (by omega) hroom12;obtain ⟨A12,hA12⟩:∃ A1,A1=(if co13=(251:Int).toNat then Ao13 else (Ao13:Option Addr).map (·.add ((251:Int).toNat * 1))):=⟨_,rfl⟩;obtain ⟨c12,hc12⟩:∃ c1,c1=co13 - (251:Int).toNat:=⟨_,rfl⟩;have hy12:y242.length=t236.length - (251:Int).toNat:=(by rw [Ny242.out,List.length_drop]<;>omega);rw [show (t236).drop (251:Int).toNat=y242 from Ny242.out.symm] at hr12;replace hr12:Kd.C Kd.string _ A12 y242.length y242:=(by rw [hA12];exact hr12);rw [← hy12,← hA12,← hc12] at hcut12;have HR245:=mA hr12;have HC245:=mA (show y242.length≤c12 from by rw [hy12,hc12];exact Nat.sub_le_sub_right hroom12 _);clear hr12 hC12 hroom12 hi012 hsz12 hc12;have KY12:=mA hy12;have KA12:=mA hA12;clear hy12 hA12;have KL12:=mA (show 251≤t236.length from by omega);replace q12:=eq_true q12)|(refine gL (some 20) Try.func50 #[.slice A12 y242.length c12] ?_;(with_reducible refine (impl_copied_string.calls _ _ y242 t246 _ ?s1 ?s2 A6.out).mono ?_);(case s1=>repeat (first|exact (by repeat (first|(with_reducible exact HR245.out)|(with_reducible refine Kd.C_alloc ?_ _)|(with_reducible refine Kd.C_drewN ?_ _)|(with_reducible refine Kd.C_drew ?_)|exact HR245.out))|(with_reducible refine Kd.C_alloc ?_ _)|(with_reducible refine Kd.C_drewN ?_ _)|(with_reducible refine Kd.C_drew ?_)));(case s2=>exact HC245.out);rintro e w14 ⟨v247,rfl,ho0,hb⟩;refine ⟨_,rfl,?_⟩;replace HO234:=rB HO234 hb;replace HO241:=rB HO241 hb;have HO248:=mA (Kd.R_lower (Kd.R_new' ho0 (rL HO238)) (bpS HB));replace HO238:=rE HO238 ho0 hb;replace BK231:=bK BK231 hb;replace HR245:=mA (Kd.C_below (by repeat (first|(with_reducible exact HR245.out)|(with_reducible refine Kd.C_alloc ?_ _)|(with_reducible refine Kd.C_drewN ?_ _)|(with_reducible refine Kd.C_drew ?_)|exact HR245.out)) hb);replace HB:=spS HB hb;(try clear hb);(try clear ho0);obtain ⟨Ao15,co15,rfl⟩:=Kd.R_slice HO234.out))
   go_loopg [23] k (fun kq v23 w'=>∃ (x6_1:List ByteArray) (x23_1:Int),v23=.int .i64 x23_1∧Aside0 (impl_WalRead.l0 kq x6_1 t232 (t232.length:Int) x23_1=some (r1,r2))∧Aside0 (kq≤k)∧Aside0 (Kd.R Kd.string 9 w' w.heap.size (fun _=>True) v247 x6_1)∧Aside0 (Kd.R k81 81 w' w.heap.size (fun _=>True) (.slice Ao15 t232.length co15) t232)∧Aside0 (w'.heap[gb231]?=some (.cells #[(.slice A0_0 l0_0.length c0_0),(.slice A0_1 l0_1.length c0_1)] 31 (0,0)))∧Aside0 (Below w.heap.size w w'))
   case atStart=>exact ⟨(t246),(0),bZ,H',⟨Nat.le_refl _⟩,⟨pR (Kd.R_mono HO248.out (fun _ hk=>trivial))⟩,⟨pR HO234.out⟩,⟨pK BK231.out⟩,⟨pS HB.out⟩⟩
   case round =>
    clear H'
    (try clear c1);(try clear c3);(try clear c5);(try clear c5b0);(try clear c5b1);(try clear c12);(try clear q12);(try clear hcz10_0);(try clear hcz10_1);(try clear hcz8_0);(try clear hcz8_1);(try clear hfz10_0);(try clear hfz10_1);(try clear hfz8_0);(try clear hfz8_1);(try clear q12)
    obtain ⟨x6_1,x23_1,rfl,HA,HK1,HO_6,HO_21,BK231,HB⟩:=hrel
    cases gk with
    | zero=>exact absurd HA.out (by simp [impl_WalRead.l0])
    | succ k1 =>
     have H:=HA.out;clear HA;simp only [impl_WalRead.l0] at H
     by_cases c16:x23_1<(t232.length:Int)
     ·rw [if_pos c16] at H;have c16b0:decide (x23_1<(t232.length:Int))=true:=decide_eq_true c16;clear c16
      by_cases c17:0≤x23_1
      ·rw [if_pos c17] at H;have c17b0:decide (0≤x23_1)=true:=decide_eq_true c17;clear c17
       by_cases c18:x23_1<(t232.length:Int)
       ·rw [if_pos c18] at H;have c18b0:decide (x23_1<(t232.length:Int))=true:=decide_eq_true c18;clear c18
        by_cases c19:0≤((rd_T81 t232 x23_1).f0)
        ·rw [if_pos c19] at H;have c19b0:decide (0≤((rd_T81 t232 x23_1).f0))=true:=decide_eq_true c19;clear c19
         by_cases c20:((rd_T81 t232 x23_1).f0)<(x6_1.length:Int)
         ·rw [if_pos c20] at H;have c20b0:decide (((rd_T81 t232 x23_1).f0)<(x6_1.length:Int))=true:=decide_eq_true c20;clear c20;obtain ⟨y251,hy251⟩:∃ y_:List ByteArray,y_=(x6_1.set (((rd_T81 t232 x23_1).f0):Int).toNat ((rd_T81 t232 x23_1).f1)):=⟨_,rfl⟩
          replace H:(impl_WalRead.l0 k1 y251 t232 (t232.length:Int) (wrap64 (x23_1+1)))=some (r1,r2):=qH hy251 H
          have Ny251:=mA hy251;clear hy251;have H':=mA H;clear H;have p249:0≤(x23_1:Int):=of_decide_eq_true bA;have q249:x23_1<(t232.length:Int):=of_decide_eq_true bA;obtain ⟨ad249,e249,hx249_0,hx249_1⟩:=at_T81 (Kd.R_reads' HO_21.out).2.2 x23_1 p249 q249;cases e249;replace p249:=eq_true p249;replace q249:=eq_true q249
          go_wp2_with (first|(refine bE 8 #[.int .i64 0,.string (⟨#[]⟩:ByteArray)] 81 ?_;intro gb250 hg w22 hbox hb;replace HO_6:=rB HO_6 hb;replace HO_21:=mA (Kd.R_below (Kd.R_elderB (pR HO_21.out) gb250 (Nat.le_of_eq hg.symm)) hb);have BK250:=mA hbox;have GW250:=gbpS HB hg;have GE250:=gbpS HB hg;replace HB:=spS HB hb;have NB231_250:=mA (lN (blk_lt (pK BK231.out)) hg);have NB250_231:=nS NB231_250;replace BK231:=bK BK231 hb;clear hb hbox hg;have hnb23:=NB250_231.out;have hnc23:=NB231_250.out;obtain ⟨hcz24_0,hcz24_1,hfz24_0,hfz24_1⟩:=box2 BK250.out)|((with_reducible refine gate_store (t:=81) (p:=8) rfl ?_);refine store_event (t:=81) (p:=8) (v:=?vo_w25) (w1:=((w22.setCell ⟨gb250,0,none⟩ (.int .i64 ((rd_T81 t232 x23_1).f0))).setCell ⟨gb250,1,none⟩ (.string ((rd_T81 t232 x23_1).f1)))) ?hg ?ho ?hn ?hr ?_;(case ho=>rfl);(case hg=>rfl);(case hn=>rfl);(case hr=>first|(go_simp;done)|(go_simp;rfl));intro w25 hw;have n0_:Aside0 (Kd.R Kd.string 9 w25 w.heap.size (fun _=>True) v247 x6_1):=⟨(by rw [hw];exact (pU HO_6 BK250))⟩;have n1_:Aside0 (Kd.R k81 81 w25 w.heap.size (fun k_=>k_≠gb250) (.slice (some ad249) t232.length co15) t232):=⟨(by rw [hw];exact (pR (Kd.R_mono (Kd.R_far (p:=⟨gb250,1,none⟩) (Kd.R_far (p:=⟨gb250,0,none⟩) (Kd.R_mono HO_21.out (fun k_ hk=>(⟨hk,hk.2⟩:_∧k_≠gb250))) (fun _ hk=>hk.2) (.int .i64 ((rd_T81 t232 x23_1).f0))) (fun _ hk=>hk.2) (.string ((rd_T81 t232 x23_1).f1))) (fun _ hk=>hk.1.2))))⟩;have n2_:Aside0 (w25.heap[gb231]?=some (.cells #[.slice A0_0 l0_0.length c0_0,.slice A0_1 l0_1.length c0_1] 31 (0,0))):=⟨(by rw [hw];exact (pF BK231.out))⟩;have n3_:Aside0 (w25.heap[gb250]?=some (.cells #[.int .i64 ((rd_T81 t232 x23_1).f0),.string ((rd_T81 t232 x23_1).f1)] 81 (0,0))):=⟨(by rw [hw];exact (pP BK250))⟩;have n4_:Aside0 (Below w.heap.size w w25):=⟨(by rw [hw];exact (pS HB.out))⟩;clear hw;clear HO_6;clear HO_21;clear BK231;clear BK250;clear HB;have HO_6:=n0_;have HO_21:=n1_;have BK231:=n2_;have BK250:=n3_;have HB:=n4_;clear n0_ n1_ n2_ n3_ n4_;obtain ⟨hcz26_0,hcz26_1,hfz26_0,hfz26_1⟩:=box2 BK250.out;have p21:0≤(((rd_T81 t232 x23_1).f0):Int):=of_decide_eq_true bA;have q21:(((rd_T81 t232 x23_1).f0):Int)<((x6_1.length:Int):Int):=of_decide_eq_true bA;obtain ⟨go21,co21,eo21,gb21,gl21,cl21,HG21⟩:=Kd.R_form HO_6.out (by omega);(first|cases eo21|(injection eo21 with ea_ en_ ec_;(first|subst ea_|(injection ea_ with ea_;subst ea_));subst ec_;clear en_));have GB21:=mA gb21;have GG21:=mA HG21;clear gb21 gl21 HG21;obtain ⟨hx21_0,hf21_0⟩:=Kd.R_celln (⟨#[]⟩:ByteArray) HO_6.out (((rd_T81 t232 x23_1).f0):Int) p21 q21;replace p21:=eq_true p21;replace q21:=eq_true q21;obtain ⟨hy27_,hz27_⟩:=Kd.R_celln (⟨#[]⟩:ByteArray) HO_6.out (((rd_T81 t232 x23_1).f0):Int) (of_decide_eq_true bA) (of_decide_eq_true bA);have HP27:=Kd.R_putg HO_6.out (((rd_T81 t232 x23_1).f0):Int) ((rd_T81 t232 x23_1).f1))|((with_reducible refine gate_store (t:=9) (p:=32) rfl ?_);refine store_event (t:=9) (p:=32) (v:=?vo_w28) (w1:=(w25.setCell ⟨go21,(((rd_T81 t232 x23_1).f0):Int).toNat,none⟩ (.string ((rd_T81 t232 x23_1).f1)))) ?hg ?ho ?hn ?hr ?_;(case ho=>rfl);(case hg=>rfl);(case hn=>rfl);(case hr=>first|(go_simp;done)|(go_simp;rfl));intro w28 hw;have hg:w25.grownBy w28 (some go21):=(by rw [hw];exact HP27.2);have hp_:Kd.R Kd.string 9 w28 w.heap.size (fun _=>True) (.slice (some ⟨go21,0,none⟩) x6_1.length co21) y251:=(by rw [hw,Ny251.out];exact HP27.1);clear HP27;replace HO_21:=mA (Kd.R_over' (v:=(.slice (some ⟨go21,0,none⟩) x6_1.length co21)) (pR HO_21.out) (Kd.R_typed HO_6.out) aD hg);replace BK231:=mA (blk_grown (pK BK231.out) hg (rN HO_6 BK231));replace BK250:=mA (blk_grown (pK BK250.out) hg (rN HO_6 BK250));replace HO_6:=mA hp_;replace HB:=mA (by rw [hw];exact below_set (HB.out) GB21.out:Below w.heap.size w w28);clear hg hw hp_))
          go_roundg k1
          case measure=>have:=HK1.out;omega
          case rel=>exact ⟨(y251),(wrap64 (x23_1+1)),bZ,H',⟨by have:=HK1.out;omega⟩,⟨pR HO_6.out⟩,⟨pR (Kd.R_mono HO_21.out (fun _ hk=>trivial))⟩,⟨pK BK231.out⟩,⟨pS HB.out⟩⟩
         ·rw [if_neg c20] at H
          exact absurd H (by simp)
        ·rw [if_neg c19] at H
         exact absurd H (by simp)
       ·rw [if_neg c18] at H
        exact absurd H (by simp)
      ·rw [if_neg c17] at H
       exact absurd H (by simp)
     ·rw [if_neg c16] at H;have c16b0:decide (x23_1<(t232.length:Int))=false:=decide_eq_false c16;clear c16;simp only [Option.some.injEq,Prod.mk.injEq] at H;obtain ⟨rfl,rfl⟩:=H
      go_wp2
      go_ret2
      exact ⟨_,by first|rfl|(simp [errW_none,errW_some]<;>rfl)|(simp [*,errW_none,errW_some]<;>rfl),pR HO_6.out,pS HB.out⟩
  ·rw [if_neg c5] at H
   exact absurd H (by simp)
 ·replace c3:=Bool.eq_false_iff.mpr c3;subst c3
  rw [if_neg nFT] at H
  simp only [Option.some.injEq,Prod.mk.injEq] at H;obtain ⟨rfl,rfl⟩:=H
  go_enter Try.func14,Try.ntmps14
  go_wp2_with (first|(refine bE 1 #[.slice A0_0 l0_0.length c0_0,.slice A0_1 l0_1.length c0_1] 31 ?_;intro gb231 hg w29 hbox hb;have BK231:=mA hbox;have GW231:=gbpB HB hg;have GE231:=gbpB HB hg;replace HB:=spB HB hb;clear hb hbox hg;obtain ⟨hcz30_0,hcz30_1,hfz30_0,hfz30_1⟩:=box2 BK231.out)|(refine gL (some 11) Try.func49 #[.agg #[.slice A0_0 l0_0.length c0_0,.slice A0_1 l0_1.length c0_1]] ?_;(with_reducible refine (impl_walLog.calls k _ _ l0_0 _ _ l0_1 t232 false _ ?s1 ?s2 ?s3 ?s4 A2.out).mono ?_);(case s1=>exact cB HR0_0 HB);(case s2=>exact HC0_0.out);(case s3=>exact cB HR0_1 HB);(case s4=>exact HC0_1.out);rintro e w31 ⟨v233,rfl,ho0,hb⟩;refine ⟨_,rfl,?_⟩;have HO234:=mA (Kd.R_lower ho0 (bpS HB));replace BK231:=bK BK231 hb;replace HB:=spS HB hb;(try clear hb);(try clear ho0)))
  go_ret2
  exact ⟨_,by first|rfl|(simp [errW_none,errW_some]<;>rfl)|(simp [*,errW_none,errW_some]<;>rfl),aN,pS HB.out⟩
end

end Go.Proofs.Ythjocaegapchaaa.P
