-- printed by pprint.py (this session's program over the kit's printer) out of the translation. Lean checks it.
import Derived.Test.YthjocaegapchaaaPx0
import Derived.Test.YthjocaegapchaaaPx2
namespace Go.Proofs.Ythjocaegapchaaa.P
open Go.RowKit Go.Proofs.YthjocaegapchaaaX Go.Proofs.YthjocaegapchaaaW.PrintWords Go.Proofs.YthjocaegapchaaaW.PrintLast Go.Proofs.YthjocaegapchaaaW.PrintMore
attribute [local go_sem] max2_int min2_int max_two min_two max_three min_three max_four min_four   -- for this text's walks alone
set_option linter.unusedVariables false
set_option linter.unusedSimpArgs false

/-! ### spec_l1Copy: function 69 -/
def spec_l1Copy.f (l0_0 : List ByteArray) (l0_1 : List (S75)) : Option (List ByteArray × (List (S75))) := (some (([] : List ByteArray) : List ByteArray)).bind fun y627 => (if y627.length + l0_0.length < 8796093022208 then ((some (([] : List (S75)) : List (S75))).bind fun y633 => (if y633.length + l0_1.length < 5864062014805 then (some ((y627 ++ l0_0), (y633 ++ l0_1))) else (none))) else (none))
def spec_l1Copy.T1 : Bool × List (List Nat × List Nat) := (true, [([], []), ([], []), ([1], [1]), ([0, 2], [0, 2]), ([], []), ([], []), ([5], [5]), ([4, 6, 3], [4, 6]), ([3, 7], [3, 7]), ([8, 7, 0, 1, 2, 3, 4, 5, 6, 7, 8], [8])])
def spec_l1Copy.B1 : List Nat := [0, 0, 2, 7, 0, 0, 32, 127, 255, 511]
theorem spec_l1Copy.tab1 : rtab .any (opsOf Try.f69 1) = spec_l1Copy.T1 := by kernel_rfl
theorem spec_l1Copy.bits1 : waitsOk spec_l1Copy.T1.2 spec_l1Copy.B1 = true := by kernel_rfl
set_option maxHeartbeats 8000000 in
set_option maxRecDepth 100000 in
theorem spec_l1Copy.calls (A0_0 : Option Addr) (c0_0 : Nat) (l0_0 : List ByteArray) (A0_1 : Option Addr) (c0_1 : Nat) (l0_1 : List (S75)) (r1 : List ByteArray) (r2 : List (S75)) (w : World) (hr0_0 : Kd.C Kd.string w A0_0 l0_0.length l0_0) (hc0_0 : l0_0.length ≤ c0_0) (hr0_1 : Kd.C k75 w A0_1 l0_1.length l0_1) (hc0_1 : l0_1.length ≤ c0_1) (h : spec_l1Copy.f l0_0 l0_1 = some (r1, r2)) :
  Calls Try.prog 69 #[.agg #[.slice A0_0 l0_0.length c0_0,.slice A0_1 l0_1.length c0_1]] w fun e w'=>∃ v0_ v1_:Value,e=.returned (.agg #[v0_,v1_])∧Kd.R Kd.string 9 w' w.heap.size (fun _=>True) v0_ r1∧Kd.R k75 75 w' w.heap.size (fun _=>True) v1_ r2∧Below w.heap.size w w':=by
 have hu31:=Try.underlying31;have HR0_0:=mA hr0_0;have HC0_0:=mA hc0_0;clear hr0_0 hc0_0;have HR0_1:=mA hr0_1;have HC0_1:=mA hc0_1;clear hr0_1 hc0_1;have HB:=mA (Below.refl w.heap.size w);have H:((some (([]:List ByteArray):List ByteArray)).bind fun y627=>(if y627.length+l0_0.length<8796093022208 then ((some (([]:List (S75)):List (S75))).bind fun y633=>(if y633.length+l0_1.length<5864062014805 then (some ((y627 ++ l0_0),(y633 ++ l0_1))) else (none))) else (none)))=some (r1,r2):=h;clear h;obtain ⟨y627,hy627⟩:∃ y_:List ByteArray,y_=(([]:List ByteArray)):=⟨_,rfl⟩
 replace H:(if y627.length+l0_0.length<8796093022208 then ((some (([]:List (S75)):List (S75))).bind fun y633=>(if y633.length+l0_1.length<5864062014805 then (some ((y627 ++ l0_0),(y633 ++ l0_1))) else (none))) else (none))=some (r1,r2):=qH hy627 H
 have Ny627:=mA hy627;clear hy627
 by_cases c2:y627.length+l0_0.length<8796093022208
 ·rw [if_pos c2] at H;have LMc2:=mA c2;clear c2;obtain ⟨y630,hy630⟩:∃ y_:List ByteArray,y_=(y627 ++ l0_0):=⟨_,rfl⟩
  replace H:((some (([]:List (S75)):List (S75))).bind fun y633=>(if y633.length+l0_1.length<5864062014805 then (some (y630,(y633 ++ l0_1))) else (none)))=some (r1,r2):=qH hy630 H
  have Ny630:=mA hy630;clear hy630;obtain ⟨y633,hy633⟩:∃ y_:List (S75),y_=(([]:List (S75))):=⟨_,rfl⟩
  replace H:(if y633.length+l0_1.length<5864062014805 then (some (y630,(y633 ++ l0_1))) else (none))=some (r1,r2):=qH hy633 H
  have Ny633:=mA hy633;clear hy633
  by_cases c3:y633.length+l0_1.length<5864062014805
  ·rw [if_pos c3] at H;have LMc3:=mA c3;clear c3;obtain ⟨y636,hy636⟩:∃ y_:List (S75),y_=(y633 ++ l0_1):=⟨_,rfl⟩
   replace H:(some (y630,y636))=some (r1,r2):=qH hy636 H
   have Ny636:=mA hy636;clear hy636;simp only [Option.some.injEq,Prod.mk.injEq] at H;obtain ⟨rfl,rfl⟩:=H
   go_enter Try.func69,Try.ntmps69
   try go_wp2_with (first|(refine bE 1 #[.slice A0_0 l0_0.length c0_0,.slice A0_1 l0_1.length c0_1] 31 ?_;intro gb625 hg w4 hbox hb;have BK625:=mA hbox;have GW625:=gbpB HB hg;have GE625:=gbpB HB hg;replace HB:=spB HB hb;clear hb hbox hg)|(refine bE 2 #[.slice none 0 0,.slice none 0 0] 31 ?_;intro gb626 hg w5 hbox hb;have BK626:=mA hbox;have GW626:=gbpS HB hg;have GE626:=gbpS HB hg;replace HB:=spS HB hb;have NB625_626:=mA (lN (blk_lt (pK BK625.out)) hg);have NB626_625:=nS NB625_626;replace BK625:=bK BK625 hb;clear hb hbox hg))
   replace BK625:=mA (blk_drew BK625.out);replace BK626:=mA (blk_drew BK626.out);replace HB:=mA (below_drew1 HB.out)
   refine start_ (n:=10) (S:=fun w'=>w'.cell? ⟨gb625,0,none⟩=some (.slice A0_0 l0_0.length c0_0)∧w'.cell? ⟨gb625,1,none⟩=some (.slice A0_1 l0_1.length c0_1)) (ds:=[]) _ aK rfl rfl ⟨eC BK625 0,eC BK625 1⟩ (fun hHeld=>?_);refine with_tabW spec_l1Copy.tab1 spec_l1Copy.bits1 (fun HT_ HW_=>?_)
   generalize w5.drew=w6 at BK625 BK626 HB hHeld ⊢
   refine pul_ 1 (some 4) #[false,true,false,false,false,false,false,false,false,false] (aT HT_) ?_
   refine pul_ 5 (some 8) #[false,true,false,false,false,true,false,false,false,false] (aT HT_) ?_
   refine ta2l_ 2 (some 5) #[false,true,true,false,false,true,false,false,false,false] (tT HT_ HW_) hHeld ?_
   refine ta2l_ 6 (some 9) #[false,true,true,false,false,true,true,false,false,false] (tT HT_ HW_) hHeld ?_
   refine join_ (σ:=Value × Value × Value) 3 #[true,true,true,true,true,true,true,false,false,false] (fun s_=>[(3,s_.1),(6,s_.2.1),(7,s_.2.2)]) (fun s_ w'=>(w'.cell? ⟨gb625,0,none⟩=some (.slice A0_0 l0_0.length c0_0)∧w'.cell? ⟨gb625,1,none⟩=some (.slice A0_1 l0_1.length c0_1))∧(Kd.R Kd.string 9 w' w.heap.size (fun _=>True) s_.2.1 y630)∧(Kd.R k75 75 w' w.heap.size (fun _=>True) s_.2.2 y633)∧(w'.heap[gb625]?=some (.cells #[.slice A0_0 l0_0.length c0_0,.slice A0_1 l0_1.length c0_1] 31 (0,0)))∧(w'.heap[gb626]?=some (.cells #[.slice none 0 0,.slice none 0 0] 31 (0,0)))∧(Below w.heap.size w w')) ?_ ?_;rotate_left
   ·intro hCont
    refine two_ (i:=0) (j:=4) (Ni:=some 3) (Nj:=some 7) #[true,true,true,false,false,true,true,false,false,false] #[false,true,true,false,true,true,true,false,false,false] rfl rfl rfl rfl (two_of HT_.out aK) aD aD (fun K hK=>?_) (fun K hK=>?_)
    ·skip
     refine Kd.R_lit_step Kd.string _ 9 ?hg (N:=3) ?hd (xs:=([]:List ByteArray)) (inner:=[]) (ok:=fun _=>True) (okp:=fun _=>True) ?hr ?hp (fun _ hk=>hk) trivial (Below.refl _ _) (Nat.le_refl _) (by simp) ?_;(case hd=>rfl);(case hg=>rfl);(case hr=>first|(go_simp;done)|(go_simp;rfl));(case hp=>exact (Reps.none _ _))
     intro v628 w7 ho8 hb hg_ hnew_;clear hg_ hnew_
     (first|rw [← Ny627.out] at ho8|(simp only [Int.reduceToNat] at ho8;rw [← Ny627.out] at ho8))
     have HO629:=mA (Kd.R_lower ho8 (bpS HB));replace BK625:=bK BK625 hb;replace BK626:=bK BK626 hb;replace HB:=spS HB hb;clear hb ho8;refine hK.out _ _ ⟨eC BK625 0,eC BK625 1⟩ (fun hHeld=>?_);clear hK K;refine no_ (some 3) ?_
     refine two_ (i:=3) (j:=4) (Ni:=some 6) (Nj:=some 7) #[true,true,true,true,false,true,true,false,false,false] #[true,true,true,false,true,true,true,false,false,false] rfl rfl rfl rfl (two_of HT_.out aK) aD aD (fun K hK=>?_) (fun K hK=>?_)
     ·skip
      refine Kd.R_append_rows_step Kd.string (w0:=w) w.heap.size (by rfl) (.tmp 3) (.tmp 5) 22 9 (.string ⟨#[]⟩) 16 rfl Try.underlying22 info9 rfl aD (by omega) v628 y627 l0_0 _ _ _ (fun _=>True) (fun _=>False) rfl rfl ?aO ?aR (fun _ _ h=>h) (fun _ h=>h.elim) ?aF ?aB ?aS ?aL ?_
      (case aR=>exact cB HR0_0 HB)
      (case aB=>exact (pS HB.out))
      (case aF=>exact (fun _ _=>trivial))
      (case aO=>exact (pR HO629.out))
      (case aS=>exact (bpS HB))
      (case aL=>have:=LMc2.out;omega)
      intro v631 w9 ho hb hg hat;rw [← Ny630.out] at ho
      have HO632:=mA ho;replace BK625:=mA (blk_grown (pK BK625.out) hg (rN HO629 BK625));replace BK626:=mA (blk_grown (pK BK626.out) hg (rN HO629 BK626));replace HB:=mA hb;clear HO629;clear ho hb hg hat;refine hK.out _ _ ⟨eC BK625 0,eC BK625 1⟩ (fun hHeld=>?_);clear hK K;refine no_ (some 6) ?_
      refine one_ (i:=4) (N:=some 7) #[true,true,true,true,true,true,true,false,false,false] rfl rfl (oT HT_) aD (fun K hK=>?_)
      refine Kd.R_lit_step k75 _ 75 ?hg (N:=7) ?hd (xs:=([]:List (S75))) (inner:=[]) (ok:=fun _=>True) (okp:=fun _=>True) ?hr ?hp (fun _ hk=>hk) trivial (Below.refl _ _) (Nat.le_refl _) (by simp) ?_;(case hd=>rfl);(case hg=>rfl);(case hr=>first|(go_simp;done)|(go_simp;rfl));(case hp=>exact (Reps.none _ _))
      intro v634 w10 ho11 hb hg_ hnew_;clear hg_ hnew_
      (first|rw [← Ny633.out] at ho11|(simp only [Int.reduceToNat] at ho11;rw [← Ny633.out] at ho11))
      replace HO632:=rB HO632 hb;have HO635:=mA (Kd.R_lower ho11 (bpS HB));replace BK625:=bK BK625 hb;replace BK626:=bK BK626 hb;replace HB:=spS HB hb;clear hb ho11;refine hK.out _ _ ⟨eC BK625 0,eC BK625 1⟩ (fun hHeld=>?_);clear hK K;refine no_ (some 7) ?_
      exact norm_ (by simp only [putAll,Act.put,List.setIfInBounds_toArray,List.set_cons_zero,List.set_cons_succ]) (hCont (v628,v631,v634) _ ⟨hHeld,(pR HO632.out),(pR HO635.out),(pK BK625.out),(pK BK626.out),(pS HB.out)⟩)
     ·skip
      refine Kd.R_lit_step k75 _ 75 ?hg (N:=7) ?hd (xs:=([]:List (S75))) (inner:=[]) (ok:=fun _=>True) (okp:=fun _=>True) ?hr ?hp (fun _ hk=>hk) trivial (Below.refl _ _) (Nat.le_refl _) (by simp) ?_;(case hd=>rfl);(case hg=>rfl);(case hr=>first|(go_simp;done)|(go_simp;rfl));(case hp=>exact (Reps.none _ _))
      intro v634 w9 ho10 hb hg_ hnew_;clear hg_ hnew_
      (first|rw [← Ny633.out] at ho10|(simp only [Int.reduceToNat] at ho10;rw [← Ny633.out] at ho10))
      replace HO629:=rB HO629 hb;have HO635:=mA (Kd.R_lower ho10 (bpS HB));replace BK625:=bK BK625 hb;replace BK626:=bK BK626 hb;replace HB:=spS HB hb;clear hb ho10;refine hK.out _ _ ⟨eC BK625 0,eC BK625 1⟩ (fun hHeld=>?_);clear hK K;refine no_ (some 7) ?_
      refine one_ (i:=3) (N:=some 6) #[true,true,true,true,true,true,true,false,false,false] rfl rfl (oT HT_) aD (fun K hK=>?_)
      refine Kd.R_append_rows_step Kd.string (w0:=w) w.heap.size (by rfl) (.tmp 3) (.tmp 5) 22 9 (.string ⟨#[]⟩) 16 rfl Try.underlying22 info9 rfl aD (by omega) v628 y627 l0_0 _ _ _ (fun _=>True) (fun _=>False) rfl rfl ?aO ?aR (fun _ _ h=>h) (fun _ h=>h.elim) ?aF ?aB ?aS ?aL ?_
      (case aR=>exact cB HR0_0 HB)
      (case aB=>exact (pS HB.out))
      (case aF=>exact (fun _ _=>trivial))
      (case aO=>exact (pR HO629.out))
      (case aS=>exact (bpS HB))
      (case aL=>have:=LMc2.out;omega)
      intro v631 w11 ho hb hg hat;rw [← Ny630.out] at ho
      replace HO635:=mA (Kd.R_over' (pR HO635.out) (Kd.R_typed (pR HO629.out)) aD hg);have HO632:=mA ho;replace BK625:=mA (blk_grown (pK BK625.out) hg (rN HO629 BK625));replace BK626:=mA (blk_grown (pK BK626.out) hg (rN HO629 BK626));replace HB:=mA hb;clear HO629;clear ho hb hg hat;refine hK.out _ _ ⟨eC BK625 0,eC BK625 1⟩ (fun hHeld=>?_);clear hK K;refine no_ (some 6) ?_
      exact norm_ (by simp only [putAll,Act.put,List.setIfInBounds_toArray,List.set_cons_zero,List.set_cons_succ]) (hCont (v628,v631,v634) _ ⟨hHeld,(pR HO632.out),(pR HO635.out),(pK BK625.out),(pK BK626.out),(pS HB.out)⟩)
    ·skip
     refine Kd.R_lit_step k75 _ 75 ?hg (N:=7) ?hd (xs:=([]:List (S75))) (inner:=[]) (ok:=fun _=>True) (okp:=fun _=>True) ?hr ?hp (fun _ hk=>hk) trivial (Below.refl _ _) (Nat.le_refl _) (by simp) ?_;(case hd=>rfl);(case hg=>rfl);(case hr=>first|(go_simp;done)|(go_simp;rfl));(case hp=>exact (Reps.none _ _))
     intro v634 w7 ho8 hb hg_ hnew_;clear hg_ hnew_
     (first|rw [← Ny633.out] at ho8|(simp only [Int.reduceToNat] at ho8;rw [← Ny633.out] at ho8))
     have HO635:=mA (Kd.R_lower ho8 (bpS HB));replace BK625:=bK BK625 hb;replace BK626:=bK BK626 hb;replace HB:=spS HB hb;clear hb ho8;refine hK.out _ _ ⟨eC BK625 0,eC BK625 1⟩ (fun hHeld=>?_);clear hK K;refine no_ (some 7) ?_
     refine one_ (i:=0) (N:=some 3) #[true,true,true,false,true,true,true,false,false,false] rfl rfl (oT HT_) aD (fun K hK=>?_)
     refine Kd.R_lit_step Kd.string _ 9 ?hg (N:=3) ?hd (xs:=([]:List ByteArray)) (inner:=[]) (ok:=fun _=>True) (okp:=fun _=>True) ?hr ?hp (fun _ hk=>hk) trivial (Below.refl _ _) (Nat.le_refl _) (by simp) ?_;(case hd=>rfl);(case hg=>rfl);(case hr=>first|(go_simp;done)|(go_simp;rfl));(case hp=>exact (Reps.none _ _))
     intro v628 w9 ho10 hb hg_ hnew_;clear hg_ hnew_
     (first|rw [← Ny627.out] at ho10|(simp only [Int.reduceToNat] at ho10;rw [← Ny627.out] at ho10))
     replace HO635:=rB HO635 hb;have HO629:=mA (Kd.R_lower ho10 (bpS HB));replace BK625:=bK BK625 hb;replace BK626:=bK BK626 hb;replace HB:=spS HB hb;clear hb ho10;refine hK.out _ _ ⟨eC BK625 0,eC BK625 1⟩ (fun hHeld=>?_);clear hK K;refine no_ (some 3) ?_
     refine one_ (i:=3) (N:=some 6) #[true,true,true,true,true,true,true,false,false,false] rfl rfl (oT HT_) aD (fun K hK=>?_)
     refine Kd.R_append_rows_step Kd.string (w0:=w) w.heap.size (by rfl) (.tmp 3) (.tmp 5) 22 9 (.string ⟨#[]⟩) 16 rfl Try.underlying22 info9 rfl aD (by omega) v628 y627 l0_0 _ _ _ (fun _=>True) (fun _=>False) rfl rfl ?aO ?aR (fun _ _ h=>h) (fun _ h=>h.elim) ?aF ?aB ?aS ?aL ?_
     (case aR=>exact cB HR0_0 HB)
     (case aB=>exact (pS HB.out))
     (case aF=>exact (fun _ _=>trivial))
     (case aO=>exact (pR HO629.out))
     (case aS=>exact (bpS HB))
     (case aL=>have:=LMc2.out;omega)
     intro v631 w11 ho hb hg hat;rw [← Ny630.out] at ho
     replace HO635:=mA (Kd.R_over' (pR HO635.out) (Kd.R_typed (pR HO629.out)) aD hg);have HO632:=mA ho;replace BK625:=mA (blk_grown (pK BK625.out) hg (rN HO629 BK625));replace BK626:=mA (blk_grown (pK BK626.out) hg (rN HO629 BK626));replace HB:=mA hb;clear HO629;clear ho hb hg hat;refine hK.out _ _ ⟨eC BK625 0,eC BK625 1⟩ (fun hHeld=>?_);clear hK K;refine no_ (some 6) ?_
     exact norm_ (by simp only [putAll,Act.put,List.setIfInBounds_toArray,List.set_cons_zero,List.set_cons_succ]) (hCont (v628,v631,v634) _ ⟨hHeld,(pR HO632.out),(pR HO635.out),(pK BK625.out),(pK BK626.out),(pS HB.out)⟩)
   rintro ⟨v628,v631,v634⟩ w12 ⟨hS_,h0_,h1_,h2_,h3_,h4_⟩;have n0_:Aside0 (Kd.R Kd.string 9 w12 w.heap.size (fun _=>True) v631 y630):=⟨h0_⟩;have n1_:Aside0 (Kd.R k75 75 w12 w.heap.size (fun _=>True) v634 y633):=⟨h1_⟩;have n2_:Aside0 (w12.heap[gb625]?=some (.cells #[.slice A0_0 l0_0.length c0_0,.slice A0_1 l0_1.length c0_1] 31 (0,0))):=⟨h2_⟩;have n3_:Aside0 (w12.heap[gb626]?=some (.cells #[.slice none 0 0,.slice none 0 0] 31 (0,0))):=⟨h3_⟩;have n4_:Aside0 (Below w.heap.size w w12):=⟨h4_⟩;clear BK625;clear BK626;clear HB;clear h0_ h1_ h2_ h3_ h4_;have HO632:=n0_;have HO635:=n1_;have BK625:=n2_;have BK626:=n3_;have HB:=n4_;clear n0_ n1_ n2_ n3_ n4_;have hHeld:w12.cell? ⟨gb625,0,none⟩=some (.slice A0_0 l0_0.length c0_0)∧w12.cell? ⟨gb625,1,none⟩=some (.slice A0_1 l0_1.length c0_1):=hS_;refine norm_ (a':=?_) ?_ ?_;rotate_left
   ·simp only [putAll,Act.put,List.setIfInBounds_toArray,List.set_cons_zero,List.set_cons_succ];rfl
   refine one_ (i:=7) (N:=some 10) #[true,true,true,true,true,true,true,true,false,false] rfl rfl (oT HT_) aD (fun K hK=>?_)
   refine Kd.R_append_rows_step k75 (w0:=w) w.heap.size (by rfl) (.tmp 7) (.tmp 9) 29 75 (.agg #[(.int .i64 0),(.string ⟨#[]⟩)]) 24 rfl Try.underlying29 info75 rfl aD (by omega) v634 y633 l0_1 _ _ _ (fun _=>True) (fun _=>False) rfl rfl ?aO ?aR (fun _ _ h=>h) (fun _ h=>h.elim) ?aF ?aB ?aS ?aL ?_
   (case aR=>exact cB HR0_1 HB)
   (case aB=>exact (pS HB.out))
   (case aF=>exact (fun _ _=>trivial))
   (case aO=>exact (pR HO635.out))
   (case aS=>exact (bpS HB))
   (case aL=>have:=LMc3.out;omega)
   intro v637 w13 ho hb hg hat;rw [← Ny636.out] at ho
   replace HO632:=mA (Kd.R_over' (pR HO632.out) (Kd.R_typed (pR HO635.out)) aD hg);have HO638:=mA ho;replace BK625:=mA (blk_grown (pK BK625.out) hg (rN HO635 BK625));replace BK626:=mA (blk_grown (pK BK626.out) hg (rN HO635 BK626));replace HB:=mA hb;clear HO635;clear ho hb hg hat;obtain ⟨Ao14,co14,eo14⟩:=Kd.R_slice HO638.out
   (first|subst eo14|(injection eo14 with f1_ f2_ f3_;have f4_:=f1_.symm;have f5_:=f3_.symm;clear f1_ f2_ f3_;subst f4_;subst f5_))
   obtain ⟨Ao15,co15,eo15⟩:=Kd.R_slice HO632.out
   (first|subst eo15|(injection eo15 with f1_ f2_ f3_;have f4_:=f1_.symm;have f5_:=f3_.symm;clear f1_ f2_ f3_;subst f4_;subst f5_))
   refine hK.out _ _ ⟨eC BK625 0,eC BK625 1⟩ (fun hHeld=>?_);clear hK K;refine no_ (some 10) ?_
   refine pul_ 8 (some 11) #[true,true,true,true,true,true,true,true,true,false] (aT HT_) ?_
   refine one_ (i:=9) (N:=none) #[true,true,true,true,true,true,true,true,true,true] rfl rfl (oT HT_) aD (fun K hK=>?_)
   have hs16:w13.cell? ⟨gb626,0,none⟩=some (.slice none 0 0):=eC BK626 0;have hfs16:=blk_frozen BK626.out 0;have hns16_0:=NB625_626.out;have hms16_0:=NB626_625.out;have hs17:w13.cell? ⟨gb626,1,none⟩=some (.slice none 0 0):=eC BK626 1;have hfs17:=blk_frozen BK626.out 1;have hns17_0:=NB625_626.out;have hms17_0:=NB626_625.out
   refine skip_ (w1:=?_) (by rfl) rfl ?_ ?_
   rotate_left
   ·go_simp;rfl
   refine hK.out _ _ ⟨((cell_far (p:=⟨gb626,_,none⟩) NB625_626.out _).trans (((cell_far (p:=⟨gb626,_,none⟩) NB625_626.out _).trans (hHeld.1)))),((cell_far (p:=⟨gb626,_,none⟩) NB625_626.out _).trans (((cell_far (p:=⟨gb626,_,none⟩) NB625_626.out _).trans (hHeld.2))))⟩ (fun hHeld=>?_);clear hK K
   refine done_ (done_of HT_.out aK) ?_
   try go_wp2
   refine bodyPost_ret (results_cell_row rfl _ _ gb626 31 #[.slice Ao15 y630.length co15,.slice Ao14 y636.length co14] (0,0) _ rfl (pP BK626) Try.underlying31 rfl aK) rfl ?_
   exact ⟨_,_,by first|rfl|(simp [errW_none,errW_some]<;>rfl)|(simp [*,errW_none,errW_some]<;>rfl),pU HO632 BK626,pU HO638 BK626,pS HB.out⟩
  ·rw [if_neg c3] at H
   exact absurd H (by simp)
 ·rw [if_neg c2] at H
  exact absurd H (by simp)

/-! ### spec_SecCut: function 70 -/
def spec_SecCut.l0 : Nat → List Int → Int → List ByteArray → List (S75) → List ByteArray → List (S75) → Option (List ByteArray × (List (S75)))
 | 0,_,_,_,_,_,_=>none
 | k+1,x1,x6,x640000,x640001,x643000,x643001=>if x6<(x640001.length:Int) then (if x6<(x1.length:Int) then (if 0≤x6 then (if (rd x1 x6)=0 then (spec_SecCut.l0 k x1 (wrap64 (x6+1)) x640000 x640001 x643000 x643001) else (if x643001.length<5864062014805 then (spec_SecCut.l0 k x1 (wrap64 (x6+1)) x640000 x640001 x643000 (x643001 ++ [(⟨(rd_T75 x640001 x6).f0,(rd_T75 x640001 x6).f1⟩:S75)])) else (none))) else (none)) else (spec_SecCut.l0 k x1 (wrap64 (x6+1)) x640000 x640001 x643000 x643001)) else ((spec_SecFlush.f k x643000 x643001).bind fun bt648=>(some (bt648.1,bt648.2)))
def spec_SecCut.f (k : Nat) (l0_0 : List ByteArray) (l0_1 : List (S75)) (l1 : List Int) : Option (List ByteArray × (List (S75))) := (spec_SecOk.f k l0_0 l0_1).bind fun t641 => (if t641 = true then (spec_SecCut.l0 k l1 0 l0_0 l0_1 l0_0 ([] : List (S75))) else (some (([] : List ByteArray), ([] : List (S75)))))
theorem spec_SecCut.mono_l : ∀ k, (∀ y0 y1 y2 y3 y4 y5, LeO (spec_SecCut.l0 k y0 y1 y2 y3 y4 y5) (spec_SecCut.l0 (k + 1) y0 y1 y2 y3 y4 y5))
 | 0=>fun _ _ _ _ _ _ r h=>by simp [spec_SecCut.l0] at h
 | k+1=>by
  have ih0:=spec_SecCut.mono_l k
  ·intro y0 y1 y2 y3 y4 y5
   unfold spec_SecCut.l0
   repeat' first
   | (with_reducible first|exact ih0 _ _ _ _ _ _|exact spec_SecFlush.mono _ _ _|exact spec_SecOk.mono _ _ _|exact LeO.refl _|exact LeO.none _|refine LeO.ite ?_ ?_|refine LeO.bind ?_ (fun _=>?_))|exact ih0 _ _ _ _ _ _|exact spec_SecFlush.mono _ _ _|exact spec_SecOk.mono _ _ _|exact LeO.none _|refine LeO.ite ?_ ?_|refine LeO.bind ?_ (fun _=>?_)
theorem spec_SecCut.mono : ∀ a0 a1 a2 k, LeO (spec_SecCut.f k a0 a1 a2) (spec_SecCut.f (k + 1) a0 a1 a2) := by
 intro a0 a1 a2 k;have ih0:=spec_SecCut.mono_l k
 unfold spec_SecCut.f
 repeat' first
   | (with_reducible first|exact ih0 _ _ _ _ _ _|exact spec_SecFlush.mono _ _ _|exact spec_SecOk.mono _ _ _|exact LeO.refl _|exact LeO.none _|refine LeO.ite ?_ ?_|refine LeO.bind ?_ (fun _=>?_))|exact ih0 _ _ _ _ _ _|exact spec_SecFlush.mono _ _ _|exact spec_SecOk.mono _ _ _|exact LeO.none _|refine LeO.ite ?_ ?_|refine LeO.bind ?_ (fun _=>?_)
def spec_SecCut.T8 : Bool × List (List Nat × List Nat) := (true, [([], []), ([0], [0]), ([], []), ([2], [2]), ([], []), ([3, 4], [3, 4]), ([5], [5]), ([6], [6]), ([1, 7], [1, 7]), ([0, 1, 2, 3, 4, 5, 6, 7, 8], []), ([9, 8, 8, 0, 1, 2, 3, 4, 5, 6, 7, 8], [8, 9])])
def spec_SecCut.B8 : List Nat := [0, 1, 0, 4, 0, 28, 60, 124, 255, 511, 1023]
theorem spec_SecCut.tab8 : rtab .any (opsOf Try.f70 8) = spec_SecCut.T8 := by kernel_rfl
theorem spec_SecCut.bits8 : waitsOk spec_SecCut.T8.2 spec_SecCut.B8 = true := by kernel_rfl
set_option maxHeartbeats 8000000 in
set_option maxRecDepth 100000 in
theorem spec_SecCut.calls (k : Nat) (A0_0 : Option Addr) (c0_0 : Nat) (l0_0 : List ByteArray) (A0_1 : Option Addr) (c0_1 : Nat) (l0_1 : List (S75)) (A1 : Option Addr) (c1 : Nat) (l1 : List Int) (r1 : List ByteArray) (r2 : List (S75)) (w : World) (hr0_0 : Kd.C Kd.string w A0_0 l0_0.length l0_0) (hc0_0 : l0_0.length ≤ c0_0) (hr0_1 : Kd.C k75 w A0_1 l0_1.length l0_1) (hc0_1 : l0_1.length ≤ c0_1) (hr1 : Kd.C (Kd.int .i64) w A1 l1.length l1) (hc1 : l1.length ≤ c1) (h : spec_SecCut.f k l0_0 l0_1 l1 = some (r1, r2)) :
  Calls Try.prog 70 #[.agg #[.slice A0_0 l0_0.length c0_0,.slice A0_1 l0_1.length c0_1],.slice A1 l1.length c1] w fun e w'=>∃ v0_ v1_:Value,e=.returned (.agg #[v0_,v1_])∧Kd.R Kd.string 9 w' w.heap.size (fun _=>True) v0_ r1∧Kd.R k75 75 w' w.heap.size (fun _=>True) v1_ r2∧Below w.heap.size w w':=by
 have hu31:=Try.underlying31;have hu75:=Try.underlying75;have HR0_0:=mA hr0_0;have HC0_0:=mA hc0_0;clear hr0_0 hc0_0;have HR0_1:=mA hr0_1;have HC0_1:=mA hc0_1;clear hr0_1 hc0_1;have HR1:=mA hr1;have HC1:=mA hc1;clear hr1 hc1;have HB:=mA (Below.refl w.heap.size w);have H:((spec_SecOk.f k l0_0 l0_1).bind fun t641=>(if t641=true then (spec_SecCut.l0 k l1 0 l0_0 l0_1 l0_0 ([]:List (S75))) else (some (([]:List ByteArray),([]:List (S75))))))=some (r1,r2):=h;clear h;obtain ⟨t641,A3,H⟩:=bI H;(try dsimp only at H)
 by_cases c4:t641=true
 ·subst c4;rw [if_pos rfl] at H;have H':=mA H;clear H
  go_enter Try.func70,Try.ntmps70
  go_wp2_with (first|(refine bE 2 #[.slice A0_0 l0_0.length c0_0,.slice A0_1 l0_1.length c0_1] 31 ?_;intro gb639 hg w5 hbox hb;have BK639:=mA hbox;have GW639:=gbpB HB hg;have GE639:=gbpB HB hg;replace HB:=spB HB hb;clear hb hbox hg)|(refine bE 4 #[.slice none 0 0,.slice none 0 0] 31 ?_;intro gb640 hg w6 hbox hb;have BK640:=mA hbox;have GW640:=gbpS HB hg;have GE640:=gbpS HB hg;replace HB:=spS HB hb;have NB639_640:=mA (lN (blk_lt (pK BK639.out)) hg);have NB640_639:=nS NB639_640;replace BK639:=bK BK639 hb;clear hb hbox hg;have hnb7:=NB639_640.out;have hnc7:=NB640_639.out;obtain ⟨hcz8_0,hcz8_1,hfz8_0,hfz8_1⟩:=box2 BK639.out)|(refine gL (some 8) Try.func68 #[.agg #[.slice A0_0 l0_0.length c0_0,.slice A0_1 l0_1.length c0_1]] ?_;(with_reducible refine (spec_SecOk.calls k _ _ l0_0 _ _ l0_1 true _ ?s1 ?s2 ?s3 ?s4 A3.out).mono ?_);(case s1=>exact cB HR0_0 HB);(case s2=>exact HC0_0.out);(case s3=>exact cB HR0_1 HB);(case s4=>exact HC0_1.out);rintro e w9 ⟨rfl,hb⟩;refine ⟨_,rfl,?_⟩;replace BK639:=bK BK639 hb;replace BK640:=bK BK640 hb;replace HB:=spS HB hb;(try clear hb);obtain ⟨hcz10_0,hcz10_1,hfz10_0,hfz10_1⟩:=box2 BK639.out)|(refine bE 5 #[.slice none 0 0,.slice none 0 0] 31 ?_;intro gb642 hg w11 hbox hb;have BK642:=mA hbox;have GW642:=gbpS HB hg;have GE642:=gbpS HB hg;replace HB:=spS HB hb;have NB639_642:=mA (lN (blk_lt (pK BK639.out)) hg);have NB642_639:=nS NB639_642;replace BK639:=bK BK639 hb;have NB640_642:=mA (lN (blk_lt (pK BK640.out)) hg);have NB642_640:=nS NB640_642;replace BK640:=bK BK640 hb;clear hb hbox hg;have hnb12:=NB642_639.out;have hnc12:=NB639_642.out;have hnb13:=NB642_640.out;have hnc13:=NB640_642.out;obtain ⟨hcz14_0,hcz14_1,hfz14_0,hfz14_1⟩:=box2 BK642.out))
  go_loopg [6] k (fun kq v6 w'=>∃ (x6_1:Int) (x643001_1:List (S75)) (u643001:Value),v6=.int .i64 x6_1∧Aside0 (spec_SecCut.l0 kq l1 x6_1 l0_0 l0_1 l0_0 x643001_1=some (r1,r2))∧Aside0 (kq≤k)∧Aside0 (Kd.R k75 75 w' w.heap.size (fun _=>True) u643001 x643001_1)∧Aside0 (w'.heap[gb639]?=some (.cells #[(.slice A0_0 l0_0.length c0_0),(.slice A0_1 l0_1.length c0_1)] 31 (0,0)))∧Aside0 (w'.heap[gb640]?=some (.cells #[(.slice none 0 0),(.slice none 0 0)] 31 (0,0)))∧Aside0 (w'.heap[gb642]?=some (.cells #[(.slice A0_0 l0_0.length c0_0),u643001] 31 (0,0)))∧Aside0 (Below w.heap.size w w'))
  case atStart=>exact ⟨(0),(([]:List (S75))),(.slice none 0 0),bZ,H',⟨Nat.le_refl _⟩,⟨aN⟩,⟨pF BK639.out⟩,⟨pF BK640.out⟩,⟨pP BK642⟩,⟨pS HB.out⟩⟩
  case round =>
   clear H'
   (try clear c4);(try clear hcz10_0);(try clear hcz10_1);(try clear hcz14_0);(try clear hcz14_1);(try clear hcz8_0);(try clear hcz8_1);(try clear hfz10_0);(try clear hfz10_1);(try clear hfz14_0);(try clear hfz14_1);(try clear hfz8_0);(try clear hfz8_1)
   obtain ⟨x6_1,x643001_1,u643001,rfl,HA,HK1,HO_643001,BK639,BK640,BK642,HB⟩:=hrel
   cases gk with
   | zero=>exact absurd HA.out (by simp [spec_SecCut.l0])
   | succ k1 =>
    have H:=HA.out;clear HA;simp only [spec_SecCut.l0] at H
    by_cases c15:x6_1<(l0_1.length:Int)
    ·rw [if_pos c15] at H;have c15b0:decide (x6_1<(l0_1.length:Int))=true:=decide_eq_true c15;clear c15
     by_cases c16:x6_1<(l1.length:Int)
     ·rw [if_pos c16] at H;have c16b0:decide (x6_1<(l1.length:Int))=true:=decide_eq_true c16;clear c16
      by_cases c17:0≤x6_1
      ·rw [if_pos c17] at H;have c17b0:decide (0≤x6_1)=true:=decide_eq_true c17;clear c17
       by_cases c18:(rd l1 x6_1)=0
       ·rw [if_pos c18] at H;obtain ⟨c18b0,c18b1⟩:=eqB c18;clear c18;have H':=mA H;clear H;have hnb19:=NB639_640.out;have hnc19:=NB640_639.out;have hnb20:=NB639_642.out;have hnc20:=NB642_639.out;obtain ⟨hcz21_0,hcz21_1,hfz21_0,hfz21_1⟩:=box2 BK639.out;have p643:0≤(x6_1:Int):=of_decide_eq_true bA;have q643:x6_1<(l1.length:Int):=of_decide_eq_true bA;obtain ⟨ad643,e643,hx643_0⟩:=Kd.at_int HR1.out x6_1 p643 q643;cases e643;replace hx643_0:=hC HB hx643_0;replace p643:=eq_true p643;replace q643:=eq_true q643
        go_wp2
        go_roundg k1
        case measure=>have:=HK1.out;omega
        case rel=>exact ⟨(wrap64 (x6_1+1)),(x643001_1),(u643001),bZ,H',⟨by have:=HK1.out;omega⟩,⟨pR HO_643001.out⟩,⟨pK BK639.out⟩,⟨pK BK640.out⟩,⟨pK BK642.out⟩,⟨pS HB.out⟩⟩
       ·rw [if_neg c18] at H;have c18b0:((rd l1 x6_1) == 0)=false:=beq_eq_false_iff_ne.mpr c18;have c18b1:((rd l1 x6_1) != 0)=true:=bne_iff_ne.mpr c18
        by_cases c22:x643001_1.length<5864062014805
        ·rw [if_pos c22] at H;have LMc22:=mA c22;clear c22;obtain ⟨y645,hy645⟩:∃ y_:List (S75),y_=(x643001_1 ++ [(⟨(rd_T75 l0_1 x6_1).f0,(rd_T75 l0_1 x6_1).f1⟩:S75)]):=⟨_,rfl⟩
         replace H:(spec_SecCut.l0 k1 l1 (wrap64 (x6_1+1)) l0_0 l0_1 l0_0 y645)=some (r1,r2):=qH hy645 H
         have Ny645:=mA hy645;clear hy645;have H':=mA H;clear H;have hnb23:=NB639_640.out;have hnc23:=NB640_639.out;have hnb24:=NB639_642.out;have hnc24:=NB642_639.out;obtain ⟨hcz25_0,hcz25_1,hfz25_0,hfz25_1⟩:=box2 BK639.out;have p643:0≤(x6_1:Int):=of_decide_eq_true bA;have q643:x6_1<(l1.length:Int):=of_decide_eq_true bA;obtain ⟨ad643,e643,hx643_0⟩:=Kd.at_int HR1.out x6_1 p643 q643;cases e643;replace hx643_0:=hC HB hx643_0;replace p643:=eq_true p643;replace q643:=eq_true q643
         try go_wp2
         replace HO_643001:=rD HO_643001;replace BK639:=mA (blk_drew BK639.out);replace BK640:=mA (blk_drew BK640.out);replace BK642:=mA (blk_drew BK642.out);replace HB:=mA (below_drew1 HB.out);have p644:0≤(x6_1:Int):=of_decide_eq_true bA;have q644:x6_1<(l0_1.length:Int):=of_decide_eq_true bA;obtain ⟨ad644,e644,hx644_0,hx644_1⟩:=at_T75 HR0_1.out x6_1 p644 q644;have hw644_1:=hx644_1;have hw644_0:=hx644_0;cases e644;replace hx644_0:=hC HB hx644_0;replace hx644_1:=hC HB hx644_1;replace p644:=eq_true p644;replace q644:=eq_true q644
         refine start_ (n:=11) (S:=fun w'=>w'.cell? ⟨gb642,0,none⟩=some (.slice A0_0 l0_0.length c0_0)∧w'.cell? ⟨gb642,1,none⟩=some (u643001)∧w'.cell? ⟨gb639,0,none⟩=some (.slice A0_0 l0_0.length c0_0)∧w'.cell? ⟨gb639,1,none⟩=some (.slice (some ad644) l0_1.length c0_1)∧w'.cell? (ad644.add ((x6_1).toNat * 2))=some (.int .i64 ((rd_T75 l0_1 x6_1).f0))∧w'.cell? ⟨(ad644.add ((x6_1).toNat * 2)).block,(ad644.add ((x6_1).toNat * 2)).off+1,none⟩=some (.string ((rd_T75 l0_1 x6_1).f1))) (ds:=[10]) _ aK rfl rfl ⟨eC BK642 0,eC BK642 1,eC BK639 0,eC BK639 1,((HB.out.cell (World.block_lt_of_cell? w _ hw644_0)).trans hw644_0),((HB.out.cell (World.block_lt_of_cell? w _ hw644_1)).trans hw644_1)⟩ (fun hHeld=>?_);refine with_tabW spec_SecCut.tab8 spec_SecCut.bits8 (fun HT_ HW_=>?_)
         generalize wr.drew=w26 at HO_643001 BK639 BK640 BK642 HB hx644_0 hx644_1 hHeld ⊢
         refine pu_ 0 (some 32) (aT HT_) ?_
         refine pu_ 2 (some 34) (aT HT_) ?_
         refine pu_ 4 (some 36) (aT HT_) ?_
         refine ta6_ 1 (some 33) (tT HT_ HW_) hHeld ?_
         refine ta6_ 3 (some 35) (tT HT_ HW_) hHeld ?_
         refine pu_ 5 (some 37) (aT HT_) ?_
         refine ta6_ 6 (some 38) (tT HT_ HW_) hHeld ?_
         refine on_ 7 (some 39) (oT HT_) ?_;intro K hK
         refine value_ (w1:=?_) (v:=?_) (by rfl) rfl ?_ ?_
         rotate_left 2
         ·go_simp
          constructor
          ·rfl
          ·rfl
         refine hK.out _ _ ⟨(blk_cell (blk_alloc BK642.out _) 0).trans rfl,(blk_cell (blk_alloc BK642.out _) 1).trans rfl,(blk_cell (blk_alloc BK639.out _) 0).trans rfl,(blk_cell (blk_alloc BK639.out _) 1).trans rfl,(World.cell?_alloc_lt _ _ _ (World.block_lt_of_cell? _ _ (((HB.out.cell (World.block_lt_of_cell? w _ hw644_0)).trans hw644_0)))).trans (((HB.out.cell (World.block_lt_of_cell? w _ hw644_0)).trans hw644_0)),(World.cell?_alloc_lt _ _ _ (World.block_lt_of_cell? _ _ (((HB.out.cell (World.block_lt_of_cell? w _ hw644_1)).trans hw644_1)))).trans (((HB.out.cell (World.block_lt_of_cell? w _ hw644_1)).trans hw644_1))⟩ (fun hHeld=>?_);clear hK K;refine no_ (some 39) ?_
         refine on_ 8 (some 40) (oT HT_) ?_;intro K hK
         refine Kd.R_append_step k75 (w0:=w) w.heap.size (by rfl) (.tmp 33) (.tmp 39) 29 75 (.agg #[(.int .i64 0),(.string ⟨#[]⟩)]) 24 rfl Try.underlying29 info75 rfl aD (by omega) u643001 x643001_1 (⟨(rd_T75 l0_1 x6_1).f0,(rd_T75 l0_1 x6_1).f1⟩:S75) [.int .i64 ((rd_T75 l0_1 x6_1).f0),.string ((rd_T75 l0_1 x6_1).f1)] (fun _=>True) (fun _=>False) rfl rfl ?aP (fun _ hk=>hk.elim) ?aF ?aO ?aB ?aS ?aL ?_
         (case aP=>exact k75_mkM _ _ _ (⟨(rd_T75 l0_1 x6_1).f0,(rd_T75 l0_1 x6_1).f1⟩:S75))
         (case aB=>exact (pS HB.out))
         (case aF=>exact (fun _ _=>trivial))
         (case aO=>exact (pR HO_643001.out))
         (case aS=>exact (bpS HB))
         (case aL=>have:=LMc22.out;omega)
         intro v646 w27 ho hb hg hat;rw [← Ny645.out] at ho
         have HO647:=mA ho;replace BK639:=mA (blk_grown (pK BK639.out) hg (rN HO_643001 BK639));replace BK640:=mA (blk_grown (pK BK640.out) hg (rN HO_643001 BK640));replace BK642:=mA (blk_grown (pK BK642.out) hg (rN HO_643001 BK642));replace HB:=mA hb;clear HO_643001;clear ho hb hg hat;obtain ⟨Ao28,co28,eo28⟩:=Kd.R_slice HO647.out
         (first|subst eo28|(injection eo28 with f1_ f2_ f3_;have f4_:=f1_.symm;have f5_:=f3_.symm;clear f1_ f2_ f3_;subst f4_;subst f5_))
         refine hK.out _ _ ⟨eC BK642 0,eC BK642 1,eC BK639 0,eC BK639 1,((HB.out.cell (World.block_lt_of_cell? w _ hw644_0)).trans hw644_0),((HB.out.cell (World.block_lt_of_cell? w _ hw644_1)).trans hw644_1)⟩ (fun hHeld=>?_);clear hK K;refine no_ (some 40) ?_
         refine pu_ 9 (some 41) (aT HT_) ?_
         refine last_ (i:=10) (N:=none) #[true,true,true,true,true,true,true,true,true,true,true] rfl rfl (oT HT_) aD (fun K hK=>?_)
         have hs29:w27.cell? ⟨gb642,1,none⟩=some (u643001):=eC BK642 1;have hfs29:=blk_frozen BK642.out 1;have hns29_0:=NB639_642.out;have hns29_1:=NB640_642.out;have hms29_0:=NB642_639.out;have hms29_1:=NB642_640.out
         refine skip_ (w1:=?_) (by rfl) rfl ?_ ?_
         rotate_left
         ·go_simp;rfl
         refine hK.out _ _ ?_;clear hK K
         refine done_ (done_of HT_.out aK) ?_
         try go_wp2
         go_roundg k1
         case measure=>have:=HK1.out;omega
         case rel=>exact ⟨(wrap64 (x6_1+1)),(y645),(.slice Ao28 y645.length co28),bZ,H',⟨by have:=HK1.out;omega⟩,⟨pU HO647 BK642⟩,⟨pF BK639.out⟩,⟨pF BK640.out⟩,⟨pP BK642⟩,⟨pS HB.out⟩⟩
        ·rw [if_neg c22] at H
         exact absurd H (by simp)
      ·rw [if_neg c17] at H
       exact absurd H (by simp)
     ·rw [if_neg c16] at H;have c16b0:decide (x6_1<(l1.length:Int))=false:=decide_eq_false c16;clear c16;have H':=mA H;clear H;have hnb30:=NB639_640.out;have hnc30:=NB640_639.out;have hnb31:=NB639_642.out;have hnc31:=NB642_639.out;obtain ⟨hcz32_0,hcz32_1,hfz32_0,hfz32_1⟩:=box2 BK639.out
      go_wp2
      go_roundg k1
      case measure=>have:=HK1.out;omega
      case rel=>exact ⟨(wrap64 (x6_1+1)),(x643001_1),(u643001),bZ,H',⟨by have:=HK1.out;omega⟩,⟨pR HO_643001.out⟩,⟨pK BK639.out⟩,⟨pK BK640.out⟩,⟨pK BK642.out⟩,⟨pS HB.out⟩⟩
    ·rw [if_neg c15] at H;have c15b0:decide (x6_1<(l0_1.length:Int))=false:=decide_eq_false c15;clear c15;obtain ⟨⟨t648,t651⟩,A33,H⟩:=bI H;(try dsimp only at H);simp only [Option.some.injEq,Prod.mk.injEq] at H;obtain ⟨rfl,rfl⟩:=H;have hnb34:=NB639_640.out;have hnc34:=NB640_639.out;have hnb35:=NB639_642.out;have hnc35:=NB642_639.out;obtain ⟨hcz36_0,hcz36_1,hfz36_0,hfz36_1⟩:=box2 BK639.out;have hnb37:=NB642_640.out;have hnc37:=NB640_642.out;obtain ⟨hcz38_0,hcz38_1,hfz38_0,hfz38_1⟩:=box2 BK642.out;obtain ⟨Ao39,co39,rfl⟩:=Kd.R_slice HO_643001.out
     go_wp2_with (first|(refine gL (some 43) Try.func45 #[.agg #[.slice A0_0 l0_0.length c0_0,.slice Ao39 x643001_1.length co39]] ?_;(with_reducible refine (spec_SecFlush.calls k1 _ _ l0_0 _ _ x643001_1 t648 t651 _ ?s1 ?s2 ?s3 ?s4 A33.out).mono ?_);(case s1=>exact cB HR0_0 HB);(case s2=>exact HC0_0.out);(case s3=>exact cR HO_643001);(case s4=>exact cL HO_643001);rintro e w40 ⟨v649,v652,rfl,ho0,ho1,hb⟩;refine ⟨_,rfl,?_⟩;have HO650:=mA (Kd.R_lower ho0 (bpS HB));have HO653:=mA (Kd.R_lower (Kd.R_new' ho1 (rL HO_643001)) (bpS HB));replace HO_643001:=rE HO_643001 ho1 hb;replace BK639:=bK BK639 hb;replace BK640:=bK BK640 hb;replace BK642:=bK BK642 hb;replace HB:=spS HB hb;(try clear hb);(try clear ho0);(try clear ho1);obtain ⟨Ao41,co41,rfl⟩:=Kd.R_slice HO650.out;obtain ⟨hcz42_0,hcz42_1,hfz42_0,hfz42_1⟩:=box2 BK640.out;obtain ⟨Ao43,co43,rfl⟩:=Kd.R_slice HO653.out))
     refine bodyPost_ret (results_cell_row rfl _ _ gb640 31 #[.slice Ao41 t648.length co41,.slice Ao43 t651.length co43] (0,0) _ rfl (pP BK640) Try.underlying31 rfl aK) rfl ?_
     exact ⟨_,_,by first|rfl|(simp [errW_none,errW_some]<;>rfl)|(simp [*,errW_none,errW_some]<;>rfl),pU HO650 BK640,pU HO653 BK640,pS HB.out⟩
 ·replace c4:=Bool.eq_false_iff.mpr c4;subst c4
  rw [if_neg nFT] at H
  simp only [Option.some.injEq,Prod.mk.injEq] at H;obtain ⟨rfl,rfl⟩:=H
  go_enter Try.func70,Try.ntmps70
  go_wp2_with (first|(refine bE 2 #[.slice A0_0 l0_0.length c0_0,.slice A0_1 l0_1.length c0_1] 31 ?_;intro gb639 hg w44 hbox hb;have BK639:=mA hbox;have GW639:=gbpB HB hg;have GE639:=gbpB HB hg;replace HB:=spB HB hb;clear hb hbox hg)|(refine bE 4 #[.slice none 0 0,.slice none 0 0] 31 ?_;intro gb640 hg w45 hbox hb;have BK640:=mA hbox;have GW640:=gbpS HB hg;have GE640:=gbpS HB hg;replace HB:=spS HB hb;have NB639_640:=mA (lN (blk_lt (pK BK639.out)) hg);have NB640_639:=nS NB639_640;replace BK639:=bK BK639 hb;clear hb hbox hg;have hnb46:=NB639_640.out;have hnc46:=NB640_639.out;obtain ⟨hcz47_0,hcz47_1,hfz47_0,hfz47_1⟩:=box2 BK639.out)|(refine gL (some 8) Try.func68 #[.agg #[.slice A0_0 l0_0.length c0_0,.slice A0_1 l0_1.length c0_1]] ?_;(with_reducible refine (spec_SecOk.calls k _ _ l0_0 _ _ l0_1 false _ ?s1 ?s2 ?s3 ?s4 A3.out).mono ?_);(case s1=>exact cB HR0_0 HB);(case s2=>exact HC0_0.out);(case s3=>exact cB HR0_1 HB);(case s4=>exact HC0_1.out);rintro e w48 ⟨rfl,hb⟩;refine ⟨_,rfl,?_⟩;replace BK639:=bK BK639 hb;replace BK640:=bK BK640 hb;replace HB:=spS HB hb;(try clear hb);obtain ⟨hcz49_0,hcz49_1,hfz49_0,hfz49_1⟩:=box2 BK640.out))
  refine bodyPost_ret (results_cell_row rfl _ _ gb640 31 #[.slice none 0 0,.slice none 0 0] (0,0) _ rfl (pP BK640) Try.underlying31 rfl aK) rfl ?_
  exact ⟨_,_,by first|rfl|(simp [errW_none,errW_some]<;>rfl)|(simp [*,errW_none,errW_some]<;>rfl),aN,aN,pS HB.out⟩

/-! ### spec_SecPut: function 71 -/
mutual
def spec_SecPut.j0 : Nat → Int → ByteArray → List ByteArray → List (S75) → Option (List ByteArray × (List (S75)) × Bool)
 | 0,_,_,_,_=>none
 | k+1,x1,x2,x655000,x655001=>(spec_l1Copy.f x655000 x655001).bind fun bt657=>((spec_l1WriteOk.f (x655000.length:Int) x1 x2).bind fun t664=>(if t664=true then (spec_SecPut.j1 k x1 x2 (decide ((x655001.length:Int) ≥ 600)) bt657.1 bt657.2) else (spec_SecPut.j1 k x1 x2 true bt657.1 bt657.2)))
def spec_SecPut.j1 : Nat → Int → ByteArray → Bool → List ByteArray → List (S75) → Option (List ByteArray × (List (S75)) × Bool)
 | 0,_,_,_,_,_=>none
 | k+1,x1,x2,x27,x664000,x664001=>if x27=true then (some (x664000,x664001,false)) else (if x664001.length<5864062014805 then (some (x664000,(x664001 ++ [(⟨x1,x2⟩:S75)]),true)) else (none))
end
def spec_SecPut.f (k : Nat) (l0_0 : List ByteArray) (l0_1 : List (S75)) (a1 : Int) (a2 : ByteArray) : Option (List ByteArray × (List (S75)) × Bool) := (spec_SecOk.f k l0_0 l0_1).bind fun t656 => (if t656 = true then (spec_SecPut.j0 k a1 a2 l0_0 l0_1) else (some (([] : List ByteArray), ([] : List (S75)), false)))
theorem spec_SecPut.mono_l : ∀ k, (∀ y0 y1 y2 y3, LeO (spec_SecPut.j0 k y0 y1 y2 y3) (spec_SecPut.j0 (k + 1) y0 y1 y2 y3)) ∧ (∀ y0 y1 y2 y3 y4, LeO (spec_SecPut.j1 k y0 y1 y2 y3 y4) (spec_SecPut.j1 (k + 1) y0 y1 y2 y3 y4))
 | 0=>⟨fun _ _ _ _ r h=>by simp [spec_SecPut.j0] at h,fun _ _ _ _ _ r h=>by simp [spec_SecPut.j1] at h⟩
 | k+1=>by
  obtain ⟨ih0,ih1⟩:=spec_SecPut.mono_l k;refine ⟨?_,?_⟩
  ·intro y0 y1 y2 y3
   unfold spec_SecPut.j0
   repeat' first
   | (with_reducible first|exact ih0 _ _ _ _|exact ih1 _ _ _ _ _|exact spec_SecOk.mono _ _ _|exact LeO.refl _|exact LeO.none _|refine LeO.ite ?_ ?_|refine LeO.bind ?_ (fun _=>?_))|exact ih0 _ _ _ _|exact ih1 _ _ _ _ _|exact spec_SecOk.mono _ _ _|exact LeO.none _|refine LeO.ite ?_ ?_|refine LeO.bind ?_ (fun _=>?_)
  ·intro y0 y1 y2 y3 y4
   unfold spec_SecPut.j1
   repeat' first
   | (with_reducible first|exact ih0 _ _ _ _|exact ih1 _ _ _ _ _|exact spec_SecOk.mono _ _ _|exact LeO.refl _|exact LeO.none _|refine LeO.ite ?_ ?_|refine LeO.bind ?_ (fun _=>?_))|exact ih0 _ _ _ _|exact ih1 _ _ _ _ _|exact spec_SecOk.mono _ _ _|exact LeO.none _|refine LeO.ite ?_ ?_|refine LeO.bind ?_ (fun _=>?_)
theorem spec_SecPut.mono : ∀ a0 a1 a2 a3 k, LeO (spec_SecPut.f k a0 a1 a2 a3) (spec_SecPut.f (k + 1) a0 a1 a2 a3) := by
 intro a0 a1 a2 a3 k;obtain ⟨ih0,ih1⟩:=spec_SecPut.mono_l k
 unfold spec_SecPut.f
 repeat' first
   | (with_reducible first|exact ih0 _ _ _ _|exact ih1 _ _ _ _ _|exact spec_SecOk.mono _ _ _|exact LeO.refl _|exact LeO.none _|refine LeO.ite ?_ ?_|refine LeO.bind ?_ (fun _=>?_))|exact ih0 _ _ _ _|exact ih1 _ _ _ _ _|exact spec_SecOk.mono _ _ _|exact LeO.none _|refine LeO.ite ?_ ?_|refine LeO.bind ?_ (fun _=>?_)
set_option maxHeartbeats 8000000 in
set_option maxRecDepth 100000 in
theorem spec_SecPut.calls (k : Nat) (A0_0 : Option Addr) (c0_0 : Nat) (l0_0 : List ByteArray) (A0_1 : Option Addr) (c0_1 : Nat) (l0_1 : List (S75)) (a1 : Int) (a2 : ByteArray) (r1 : List ByteArray) (r2 : List (S75)) (r3 : Bool) (w : World) (hr0_0 : Kd.C Kd.string w A0_0 l0_0.length l0_0) (hc0_0 : l0_0.length ≤ c0_0) (hr0_1 : Kd.C k75 w A0_1 l0_1.length l0_1) (hc0_1 : l0_1.length ≤ c0_1) (h : spec_SecPut.f k l0_0 l0_1 a1 a2 = some (r1, r2, r3)) :
  Calls Try.prog 71 #[.agg #[.slice A0_0 l0_0.length c0_0,.slice A0_1 l0_1.length c0_1],.int .i64 a1,.string a2] w fun e w'=>∃ v0_ v1_:Value,e=.returned (.tuple #[.agg #[v0_,v1_],.bool r3])∧Kd.R Kd.string 9 w' w.heap.size (fun _=>True) v0_ r1∧Kd.R k75 75 w' w.heap.size (fun _=>True) v1_ r2∧Below w.heap.size w w':=by
 have hu31:=Try.underlying31;have hu75:=Try.underlying75;have HR0_0:=mA hr0_0;have HC0_0:=mA hc0_0;clear hr0_0 hc0_0;have HR0_1:=mA hr0_1;have HC0_1:=mA hc0_1;clear hr0_1 hc0_1;have HB:=mA (Below.refl w.heap.size w);have H:((spec_SecOk.f k l0_0 l0_1).bind fun t656=>(if t656=true then (spec_SecPut.j0 k a1 a2 l0_0 l0_1) else (some (([]:List ByteArray),([]:List (S75)),false))))=some (r1,r2,r3):=h;clear h;obtain ⟨t656,A4,H⟩:=bI H;(try dsimp only at H);have HC5:=mA H;clear H
 go_enter Try.func71,Try.ntmps71
 go_upto_if 11 with (first|((with_reducible refine gate_dst (N:=3) rfl ?_);(try (refine gate_guard (by rfl) ?_;dsimp only));refine bE 3 #[.slice A0_0 l0_0.length c0_0,.slice A0_1 l0_1.length c0_1] 31 ?_;intro gb654 hg w6 hbox hb;have BK654:=mA hbox;have GW654:=gbpB HB hg;have GE654:=gbpB HB hg;replace HB:=spB HB hb;clear hb hbox hg)|((with_reducible refine gate_dst (N:=6) rfl ?_);(try (refine gate_guard (by rfl) ?_;dsimp only));refine bE 6 #[.slice none 0 0,.slice none 0 0] 31 ?_;intro gb655 hg w7 hbox hb;have BK655:=mA hbox;have GW655:=gbpS HB hg;have GE655:=gbpS HB hg;replace HB:=spS HB hb;have NB654_655:=mA (lN (blk_lt (pK BK654.out)) hg);have NB655_654:=nS NB654_655;replace BK654:=bK BK654 hb;clear hb hbox hg;have hnb8:=NB654_655.out;have hnc8:=NB655_654.out;obtain ⟨hcz9_0,hcz9_1,hfz9_0,hfz9_1⟩:=box2 BK654.out)|(refine gL (some 10) Try.func68 #[.agg #[.slice A0_0 l0_0.length c0_0,.slice A0_1 l0_1.length c0_1]] ?_;(with_reducible refine (spec_SecOk.calls k _ _ l0_0 _ _ l0_1 t656 _ ?s1 ?s2 ?s3 ?s4 A4.out).mono ?_);(case s1=>exact cB HR0_0 HB);(case s2=>exact HC0_0.out);(case s3=>exact cB HR0_1 HB);(case s4=>exact HC0_1.out);rintro e w10 ⟨rfl,hb⟩;refine ⟨_,rfl,?_⟩;replace BK654:=bK BK654 hb;replace BK655:=bK BK655 hb;replace HB:=spS HB hb;(try clear hb)))
 (try simp only [Act.put,List.setIfInBounds_toArray,List.set_cons_zero,List.set_cons_succ])
 go_cut [] (fun wc=>∃ (kq:Nat),Aside0 (spec_SecPut.j0 kq a1 a2 l0_0 l0_1=some (r1,r2,r3))∧Aside0 (kq≤k)∧Aside0 (wc.heap[gb654]?=some (.cells #[(.slice A0_0 l0_0.length c0_0),(.slice A0_1 l0_1.length c0_1)] 31 (0,0)))∧Aside0 (wc.heap[gb655]?=some (.cells #[(.slice none 0 0),(.slice none 0 0)] 31 (0,0)))∧Aside0 (Below w.heap.size w wc))
 case first =>
  have H:=HC5.out;clear HC5
  by_cases c11:t656=true
  ·subst c11;rw [if_pos rfl] at H;have H':=mA H;clear H
   go_wp2
   go_meet
   case rel=>exact ⟨_,H',⟨by first|omega|exact Nat.le_refl _⟩,⟨pK BK654.out⟩,⟨pK BK655.out⟩,⟨pS HB.out⟩⟩
  ·replace c11:=Bool.eq_false_iff.mpr c11;subst c11
   rw [if_neg nFT] at H
   simp only [Option.some.injEq,Prod.mk.injEq] at H;obtain ⟨rfl,rfl,rfl⟩:=H;have hnb12:=NB655_654.out;have hnc12:=NB654_655.out;obtain ⟨hcz13_0,hcz13_1,hfz13_0,hfz13_1⟩:=box2 BK655.out
   go_wp2
   refine bodyPost_ret (results_ct rfl _ _ gb655 31 #[.slice none 0 0,.slice none 0 0] (0,0) _ rfl (pP BK655) Try.underlying31 rfl aK) rfl ?_
   exact ⟨_,_,by first|rfl|(simp [errW_none,errW_some]<;>rfl)|(simp [*,errW_none,errW_some]<;>rfl),aN,aN,pS HB.out⟩
 case rest =>
  clear HC5
  (try clear hcz9_0);(try clear hcz9_1);(try clear hfz9_0);(try clear hfz9_1)
  obtain ⟨kq,HA,HJ4,BK654,BK655,HB⟩:=hcut
  cases kq with
  | zero=>exact absurd HA.out (by simp [spec_SecPut.j0])
  | succ kj4 =>
   have H:=HA.out;clear HA;simp only [spec_SecPut.j0] at H;obtain ⟨⟨t657,t660⟩,A14,H⟩:=bI H;(try dsimp only at H);have HC15:=mA H;clear H;have hnb16:=NB654_655.out;have hnc16:=NB655_654.out;obtain ⟨hcz17_0,hcz17_1,hfz17_0,hfz17_1⟩:=box2 BK654.out
   go_upto_region 4 with (first|(refine gL (some 14) Try.func69 #[.agg #[.slice A0_0 l0_0.length c0_0,.slice A0_1 l0_1.length c0_1]] ?_;(with_reducible refine (spec_l1Copy.calls _ _ l0_0 _ _ l0_1 t657 t660 _ ?s1 ?s2 ?s3 ?s4 A14.out).mono ?_);(case s1=>exact cB HR0_0 HB);(case s2=>exact HC0_0.out);(case s3=>exact cB HR0_1 HB);(case s4=>exact HC0_1.out);rintro e w18 ⟨v658,v661,rfl,ho0,ho1,hb⟩;refine ⟨_,rfl,?_⟩;have HO659:=mA (Kd.R_lower ho0 (bpS HB));have HO662:=mA (Kd.R_lower ho1 (bpS HB));replace BK654:=bK BK654 hb;replace BK655:=bK BK655 hb;replace HB:=spS HB hb;(try clear hb);(try clear ho0);(try clear ho1))|((with_reducible refine gate_dst (N:=8) rfl ?_);(try (refine gate_guard (by rfl) ?_;dsimp only));refine bE 8 #[.slice none 0 0,.slice none 0 0] 31 ?_;intro gb663 hg w19 hbox hb;replace HO659:=rB HO659 hb;replace HO662:=rB HO662 hb;have BK663:=mA hbox;have GW663:=gbpS HB hg;have GE663:=gbpS HB hg;replace HB:=spS HB hb;have NB654_663:=mA (lN (blk_lt (pK BK654.out)) hg);have NB663_654:=nS NB654_663;replace BK654:=bK BK654 hb;have NB655_663:=mA (lN (blk_lt (pK BK655.out)) hg);have NB663_655:=nS NB655_663;replace BK655:=bK BK655 hb;clear hb hbox hg;obtain ⟨Ao20,co20,rfl⟩:=Kd.R_slice HO659.out;have hnb21:=NB663_654.out;have hnc21:=NB654_663.out;have hnb22:=NB663_655.out;have hnc22:=NB655_663.out;obtain ⟨hcz23_0,hcz23_1,hfz23_0,hfz23_1⟩:=box2 BK663.out;obtain ⟨Ao24,co24,rfl⟩:=Kd.R_slice HO662.out))
   (try simp only [Act.put,List.setIfInBounds_toArray,List.set_cons_zero,List.set_cons_succ])
   go_cut [27] (fun v27 wc=>∃ (kq:Nat) (x27_14:Bool),v27=.bool x27_14∧Aside0 (spec_SecPut.j1 kq a1 a2 x27_14 t657 t660=some (r1,r2,r3))∧Aside0 (kq≤kj4)∧Aside0 (Kd.R Kd.string 9 wc w.heap.size (fun _=>True) (.slice Ao20 t657.length co20) t657)∧Aside0 (Kd.R k75 75 wc w.heap.size (fun _=>True) (.slice Ao24 t660.length co24) t660)∧Aside0 (wc.heap[gb654]?=some (.cells #[(.slice A0_0 l0_0.length c0_0),(.slice A0_1 l0_1.length c0_1)] 31 (0,0)))∧Aside0 (wc.heap[gb655]?=some (.cells #[(.slice none 0 0),(.slice none 0 0)] 31 (0,0)))∧Aside0 (wc.heap[gb663]?=some (.cells #[(.slice Ao20 t657.length co20),(.slice Ao24 t660.length co24)] 31 (0,0)))∧Aside0 (Below w.heap.size w wc))
   case first =>
    have H:=HC15.out;clear HC15;obtain ⟨t664,A25,H⟩:=bI H;(try dsimp only at H)
    by_cases c26:t664=true
    ·subst c26;rw [if_pos rfl] at H;have H':=mA H;clear H;have hnb27:=NB654_655.out;have hnc27:=NB655_654.out;have hnb28:=NB654_663.out;have hnc28:=NB663_654.out;obtain ⟨hcz29_0,hcz29_1,hfz29_0,hfz29_1⟩:=box2 BK654.out
     go_wp2_with (first|(refine gL (some 20) Try.func89 #[.int .i64 (l0_0.length:Int),.int .i64 a1,.string a2] ?_;(with_reducible refine (spec_l1WriteOk.calls (l0_0.length:Int) a1 a2 true _ A25.out).mono ?_);rintro e w' ⟨rfl,⟨nd,rfl⟩⟩;refine ⟨_,rfl,?_⟩))
     go_meet
     case rel=>exact ⟨_,(decide ((l0_1.length:Int) ≥ 600)),bZ,H',⟨by have:=HJ4.out;first|omega|exact Nat.le_refl _⟩,⟨pU HO659 BK663⟩,⟨pU HO662 BK663⟩,⟨pF BK654.out⟩,⟨pF BK655.out⟩,⟨pP BK663⟩,⟨pS HB.out⟩⟩
    ·replace c26:=Bool.eq_false_iff.mpr c26;subst c26
     rw [if_neg nFT] at H
     have H':=mA H;clear H;have hnb30:=NB654_655.out;have hnc30:=NB655_654.out;have hnb31:=NB654_663.out;have hnc31:=NB663_654.out;obtain ⟨hcz32_0,hcz32_1,hfz32_0,hfz32_1⟩:=box2 BK654.out
     go_wp2_with (first|(refine gL (some 20) Try.func89 #[.int .i64 (l0_0.length:Int),.int .i64 a1,.string a2] ?_;(with_reducible refine (spec_l1WriteOk.calls (l0_0.length:Int) a1 a2 false _ A25.out).mono ?_);rintro e w' ⟨rfl,⟨nd,rfl⟩⟩;refine ⟨_,rfl,?_⟩))
     go_meet
     case rel=>exact ⟨_,(true),bZ,H',⟨by have:=HJ4.out;first|omega|exact Nat.le_refl _⟩,⟨pU HO659 BK663⟩,⟨pU HO662 BK663⟩,⟨pF BK654.out⟩,⟨pF BK655.out⟩,⟨pP BK663⟩,⟨pS HB.out⟩⟩
   case rest =>
    clear HC15
    (try clear hcz17_0);(try clear hcz17_1);(try clear hcz23_0);(try clear hcz23_1);(try clear hcz9_0);(try clear hcz9_1);(try clear hfz17_0);(try clear hfz17_1);(try clear hfz23_0);(try clear hfz23_1);(try clear hfz9_0);(try clear hfz9_1)
    obtain ⟨kq,x27_14,rfl,HA,HJ14,HO_664000,HO_664001,BK654,BK655,BK663,HB⟩:=hcut
    cases kq with
    | zero=>exact absurd HA.out (by simp [spec_SecPut.j1])
    | succ kj14 =>
     have H:=HA.out;clear HA;simp only [spec_SecPut.j1] at H
     by_cases c33:x27_14=true
     ·subst c33;rw [if_pos rfl] at H;simp only [Option.some.injEq,Prod.mk.injEq] at H;obtain ⟨rfl,rfl,rfl⟩:=H;have hnb34:=NB663_654.out;have hnc34:=NB654_663.out;have hnb35:=NB663_655.out;have hnc35:=NB655_663.out;obtain ⟨hcz36_0,hcz36_1,hfz36_0,hfz36_1⟩:=box2 BK663.out;have hnb37:=NB655_654.out;have hnc37:=NB654_655.out;obtain ⟨hcz38_0,hcz38_1,hfz38_0,hfz38_1⟩:=box2 BK655.out
      go_wp2
      refine bodyPost_ret (results_ct rfl _ _ gb655 31 #[.slice Ao20 t657.length co20,.slice Ao24 t660.length co24] (0,0) _ rfl (pP BK655) Try.underlying31 rfl aK) rfl ?_
      exact ⟨_,_,by first|rfl|(simp [errW_none,errW_some]<;>rfl)|(simp [*,errW_none,errW_some]<;>rfl),pU HO_664000 BK655,pU HO_664001 BK655,pS HB.out⟩
     ·replace c33:=Bool.eq_false_iff.mpr c33;subst c33
      rw [if_neg nFT] at H
      by_cases c39:t660.length<5864062014805
      ·rw [if_pos c39] at H;have LMc39:=mA c39;clear c39;obtain ⟨y665,hy665⟩:∃ y_:List (S75),y_=(t660 ++ [(⟨a1,a2⟩:S75)]):=⟨_,rfl⟩
       replace H:(some (t657,y665,true))=some (r1,r2,r3):=qH hy665 H
       have Ny665:=mA hy665;clear hy665;simp only [Option.some.injEq,Prod.mk.injEq] at H;obtain ⟨rfl,rfl,rfl⟩:=H;have hnb40:=NB663_654.out;have hnc40:=NB654_663.out;have hnb41:=NB663_655.out;have hnc41:=NB655_663.out;obtain ⟨hcz42_0,hcz42_1,hfz42_0,hfz42_1⟩:=box2 BK663.out
       go_wp2_with (first|((with_reducible refine gate_builtin (b:=.append) (xs:=#[.tmp 30,.tmp 34]) rfl ?_);(try (refine gate_guard (by rfl) ?_;dsimp only));at_builtin;refine Kd.R_append k75 (w0:=w) w.heap.size rfl (.tmp 30) (.tmp 34) 29 75 (.agg #[(.int .i64 0),(.string ⟨#[]⟩)]) 24 rfl Try.underlying29 info75 rfl aD (by omega) (.slice Ao24 t660.length co24) t660 (⟨a1,a2⟩:S75) [.int .i64 a1,.string a2] (fun _=>True) (fun _=>False) rfl rfl ?aP (fun _ hk=>hk.elim) ?aF ?aO ?aB ?aS ?aL ?_;(case aP=>exact k75_mkM _ _ _ (⟨a1,a2⟩:S75));(case aB=>exact (pS HB.out));(case aF=>exact (fun _ _=>trivial));(case aO=>exact (pR HO_664001.out));(case aS=>exact (bpS HB));(case aL=>have:=LMc39.out;omega);intro v666 w43 ho hb hg hat;rw [← Ny665.out] at ho;replace HO_664000:=mA (Kd.R_over' (pR HO_664000.out) (Kd.R_typed (pR HO_664001.out)) aD hg);have HO667:=mA ho;replace BK654:=mA (blk_grown (pK BK654.out) hg (rN HO_664001 BK654));replace BK655:=mA (blk_grown (pK BK655.out) hg (rN HO_664001 BK655));replace BK663:=mA (blk_grown (pK BK663.out) hg (rN HO_664001 BK663));replace HB:=mA hb;clear HO_664001;clear ho hb hg hat;obtain ⟨Ao44,co44,rfl⟩:=Kd.R_slice HO667.out;obtain ⟨hcz45_0,hcz45_1,hfz45_0,hfz45_1⟩:=box2 BK663.out;have hnb46:=NB655_654.out;have hnc46:=NB654_655.out;obtain ⟨hcz47_0,hcz47_1,hfz47_0,hfz47_1⟩:=box2 BK655.out))
       refine bodyPost_ret (results_ct rfl _ _ gb655 31 #[.slice Ao20 t657.length co20,.slice Ao44 y665.length co44] (0,0) _ rfl (pP BK655) Try.underlying31 rfl aK) rfl ?_
       exact ⟨_,_,by first|rfl|(simp [errW_none,errW_some]<;>rfl)|(simp [*,errW_none,errW_some]<;>rfl),pUU HO_664000 BK663 BK655,pUU HO667 BK663 BK655,pS HB.out⟩
      ·rw [if_neg c39] at H
       exact absurd H (by simp)

/-! ### spec_WalDo: function 33 -/
mutual
def spec_WalDo.j0 : Nat → List (S61) → Bool → Int → List Int → Bool → List ByteArray → List (S75) → Option (List ByteArray × (List (S75)))
 | 0,_,_,_,_,_,_,_=>none
 | k+1,x1,x2,x3,x4,x19,x669000,x669001=>if x19=true then (some (([]:List ByteArray),([]:List (S75)))) else ((spec_l1Copy.f x669000 x669001).bind fun bt671=>(spec_WalDo.l0 k x1 x2 x3 x4 0 bt671.1 bt671.2))
def spec_WalDo.l0 : Nat → List (S61) → Bool → Int → List Int → Int → List ByteArray → List (S75) → Option (List ByteArray × (List (S75)))
 | 0,_,_,_,_,_,_,_=>none
 | k+1,x1,x2,x3,x4,x11,x669000,x669001=>if x11<(x1.length:Int) then (if x2=true then (spec_WalDo.j2 k x1 x2 x3 x4 x11 (decide (x11 ≥ x3)) x669000 x669001) else (spec_WalDo.j2 k x1 x2 x3 x4 x11 false x669000 x669001)) else (if x2=true then ((spec_SecCut.f k x669000 x669001 x4).bind fun bt677=>(some (bt677.1,bt677.2))) else (some (x669000,x669001)))
def spec_WalDo.j2 : Nat → List (S61) → Bool → Int → List Int → Int → Bool → List ByteArray → List (S75) → Option (List ByteArray × (List (S75)))
 | 0,_,_,_,_,_,_,_,_=>none
 | k+1,x1,x2,x3,x4,x11,x34,x669000,x669001=>if x34=true then ((spec_SecCut.f k x669000 x669001 x4).bind fun bt683=>(some (bt683.1,bt683.2))) else (if 0≤x11 then (if x11<(x1.length:Int) then (if (rd_T61 x1 x11).f0=true then ((spec_SecFlush.f k x669000 x669001).bind fun bt690=>(spec_WalDo.l0 k x1 x2 x3 x4 (wrap64 (x11+1)) bt690.1 bt690.2)) else ((spec_SecPut.f k x669000 x669001 ((rd_T61 x1 x11).f1) ((rd_T61 x1 x11).f2)).bind fun bt698=>(spec_WalDo.l0 k x1 x2 x3 x4 (wrap64 (x11+1)) bt698.1 bt698.2.1))) else (none)) else (none))
end
def spec_WalDo.f (k : Nat) (l0_0 : List ByteArray) (l0_1 : List (S75)) (l1 : List (S61)) (a2 : Bool) (a3 : Int) (l4 : List Int) : Option (List ByteArray × (List (S75))) := (spec_SecOk.f k l0_0 l0_1).bind fun t670 => (if t670 = true then (spec_WalDo.j0 k l1 a2 a3 l4 (decide ((l1.length : Int) > 600)) l0_0 l0_1) else (spec_WalDo.j0 k l1 a2 a3 l4 true l0_0 l0_1))
theorem spec_WalDo.mono_l : ∀ k, (∀ y0 y1 y2 y3 y4 y5 y6, LeO (spec_WalDo.j0 k y0 y1 y2 y3 y4 y5 y6) (spec_WalDo.j0 (k + 1) y0 y1 y2 y3 y4 y5 y6)) ∧ (∀ y0 y1 y2 y3 y4 y5 y6, LeO (spec_WalDo.l0 k y0 y1 y2 y3 y4 y5 y6) (spec_WalDo.l0 (k + 1) y0 y1 y2 y3 y4 y5 y6)) ∧ (∀ y0 y1 y2 y3 y4 y5 y6 y7, LeO (spec_WalDo.j2 k y0 y1 y2 y3 y4 y5 y6 y7) (spec_WalDo.j2 (k + 1) y0 y1 y2 y3 y4 y5 y6 y7))
 | 0=>⟨fun _ _ _ _ _ _ _ r h=>by simp [spec_WalDo.j0] at h,fun _ _ _ _ _ _ _ r h=>by simp [spec_WalDo.l0] at h,fun _ _ _ _ _ _ _ _ r h=>by simp [spec_WalDo.j2] at h⟩
 | k+1=>by
  obtain ⟨ih0,ih1,ih2⟩:=spec_WalDo.mono_l k;refine ⟨?_,?_,?_⟩
  ·intro y0 y1 y2 y3 y4 y5 y6
   unfold spec_WalDo.j0
   repeat' first
   | (with_reducible first|exact ih0 _ _ _ _ _ _ _|exact ih1 _ _ _ _ _ _ _|exact ih2 _ _ _ _ _ _ _ _|exact spec_SecCut.mono _ _ _ _|exact spec_SecFlush.mono _ _ _|exact spec_SecOk.mono _ _ _|exact spec_SecPut.mono _ _ _ _ _|exact LeO.refl _|exact LeO.none _|refine LeO.ite ?_ ?_|refine LeO.bind ?_ (fun _=>?_))|exact ih0 _ _ _ _ _ _ _|exact ih1 _ _ _ _ _ _ _|exact ih2 _ _ _ _ _ _ _ _|exact spec_SecCut.mono _ _ _ _|exact spec_SecFlush.mono _ _ _|exact spec_SecOk.mono _ _ _|exact spec_SecPut.mono _ _ _ _ _|exact LeO.none _|refine LeO.ite ?_ ?_|refine LeO.bind ?_ (fun _=>?_)
  ·intro y0 y1 y2 y3 y4 y5 y6
   unfold spec_WalDo.l0
   repeat' first
   | (with_reducible first|exact ih0 _ _ _ _ _ _ _|exact ih1 _ _ _ _ _ _ _|exact ih2 _ _ _ _ _ _ _ _|exact spec_SecCut.mono _ _ _ _|exact spec_SecFlush.mono _ _ _|exact spec_SecOk.mono _ _ _|exact spec_SecPut.mono _ _ _ _ _|exact LeO.refl _|exact LeO.none _|refine LeO.ite ?_ ?_|refine LeO.bind ?_ (fun _=>?_))|exact ih0 _ _ _ _ _ _ _|exact ih1 _ _ _ _ _ _ _|exact ih2 _ _ _ _ _ _ _ _|exact spec_SecCut.mono _ _ _ _|exact spec_SecFlush.mono _ _ _|exact spec_SecOk.mono _ _ _|exact spec_SecPut.mono _ _ _ _ _|exact LeO.none _|refine LeO.ite ?_ ?_|refine LeO.bind ?_ (fun _=>?_)
  ·intro y0 y1 y2 y3 y4 y5 y6 y7
   unfold spec_WalDo.j2
   repeat' first
   | (with_reducible first|exact ih0 _ _ _ _ _ _ _|exact ih1 _ _ _ _ _ _ _|exact ih2 _ _ _ _ _ _ _ _|exact spec_SecCut.mono _ _ _ _|exact spec_SecFlush.mono _ _ _|exact spec_SecOk.mono _ _ _|exact spec_SecPut.mono _ _ _ _ _|exact LeO.refl _|exact LeO.none _|refine LeO.ite ?_ ?_|refine LeO.bind ?_ (fun _=>?_))|exact ih0 _ _ _ _ _ _ _|exact ih1 _ _ _ _ _ _ _|exact ih2 _ _ _ _ _ _ _ _|exact spec_SecCut.mono _ _ _ _|exact spec_SecFlush.mono _ _ _|exact spec_SecOk.mono _ _ _|exact spec_SecPut.mono _ _ _ _ _|exact LeO.none _|refine LeO.ite ?_ ?_|refine LeO.bind ?_ (fun _=>?_)
theorem spec_WalDo.mono : ∀ a0 a1 a2 a3 a4 a5 k, LeO (spec_WalDo.f k a0 a1 a2 a3 a4 a5) (spec_WalDo.f (k + 1) a0 a1 a2 a3 a4 a5) := by
 intro a0 a1 a2 a3 a4 a5 k;obtain ⟨ih0,ih1,ih2⟩:=spec_WalDo.mono_l k
 unfold spec_WalDo.f
 repeat' first
   | (with_reducible first|exact ih0 _ _ _ _ _ _ _|exact ih1 _ _ _ _ _ _ _|exact ih2 _ _ _ _ _ _ _ _|exact spec_SecCut.mono _ _ _ _|exact spec_SecFlush.mono _ _ _|exact spec_SecOk.mono _ _ _|exact spec_SecPut.mono _ _ _ _ _|exact LeO.refl _|exact LeO.none _|refine LeO.ite ?_ ?_|refine LeO.bind ?_ (fun _=>?_))|exact ih0 _ _ _ _ _ _ _|exact ih1 _ _ _ _ _ _ _|exact ih2 _ _ _ _ _ _ _ _|exact spec_SecCut.mono _ _ _ _|exact spec_SecFlush.mono _ _ _|exact spec_SecOk.mono _ _ _|exact spec_SecPut.mono _ _ _ _ _|exact LeO.none _|refine LeO.ite ?_ ?_|refine LeO.bind ?_ (fun _=>?_)
def spec_WalDo.T11 : Bool × List (List Nat × List Nat) := (true, [([], []), ([], []), ([], []), ([1, 2], [1, 2]), ([3], [3]), ([4], [4]), ([], []), ([], []), ([6, 7], [6, 7]), ([8], [8]), ([9], [9]), ([0, 5, 10], [0, 5, 10]), ([11], [11]), ([12], [12]), ([12], [12]), ([13, 11, 0, 1, 2, 3, 4, 5, 6, 7, 8, 9, 10, 11, 12, 13], [13])])
def spec_WalDo.B11 : List Nat := [0, 0, 0, 6, 14, 30, 0, 0, 192, 448, 960, 2047, 4095, 8191, 8191, 16383]
theorem spec_WalDo.tab11 : rtab .any (opsOf Try.f33 11) = spec_WalDo.T11 := by kernel_rfl
theorem spec_WalDo.bits11 : waitsOk spec_WalDo.T11.2 spec_WalDo.B11 = true := by kernel_rfl
set_option maxHeartbeats 8000000 in
set_option maxRecDepth 100000 in
theorem spec_WalDo.calls (k : Nat) (A0_0 : Option Addr) (c0_0 : Nat) (l0_0 : List ByteArray) (A0_1 : Option Addr) (c0_1 : Nat) (l0_1 : List (S75)) (A1 : Option Addr) (c1 : Nat) (l1 : List (S61)) (a2 : Bool) (a3 : Int) (A4 : Option Addr) (c4 : Nat) (l4 : List Int) (r1 : List ByteArray) (r2 : List (S75)) (w : World) (hr0_0 : Kd.C Kd.string w A0_0 l0_0.length l0_0) (hc0_0 : l0_0.length ≤ c0_0) (hr0_1 : Kd.C k75 w A0_1 l0_1.length l0_1) (hc0_1 : l0_1.length ≤ c0_1) (hr1 : Kd.C k61 w A1 l1.length l1) (hc1 : l1.length ≤ c1) (hr4 : Kd.C (Kd.int .i64) w A4 l4.length l4) (hc4 : l4.length ≤ c4) (h : spec_WalDo.f k l0_0 l0_1 l1 a2 a3 l4 = some (r1, r2)) :
  Calls Try.prog 33 #[.agg #[.slice A0_0 l0_0.length c0_0,.slice A0_1 l0_1.length c0_1],.slice A1 l1.length c1,.bool a2,.int .i64 a3,.slice A4 l4.length c4] w fun e w'=>∃ v0_ v1_:Value,e=.returned (.agg #[v0_,v1_])∧Kd.R Kd.string 9 w' w.heap.size (fun _=>True) v0_ r1∧Kd.R k75 75 w' w.heap.size (fun _=>True) v1_ r2∧Below w.heap.size w w':=by
 have hu31:=Try.underlying31;have HR0_0:=mA hr0_0;have HC0_0:=mA hc0_0;clear hr0_0 hc0_0;have HR0_1:=mA hr0_1;have HC0_1:=mA hc0_1;clear hr0_1 hc0_1;have HR1:=mA hr1;have HC1:=mA hc1;clear hr1 hc1;have HR4:=mA hr4;have HC4:=mA hc4;clear hr4 hc4;have HB:=mA (Below.refl w.heap.size w);have H:((spec_SecOk.f k l0_0 l0_1).bind fun t670=>(if t670=true then (spec_WalDo.j0 k l1 a2 a3 l4 (decide ((l1.length:Int) > 600)) l0_0 l0_1) else (spec_WalDo.j0 k l1 a2 a3 l4 true l0_0 l0_1)))=some (r1,r2):=h;clear h;have HC6:=mA H;clear H
 go_enter Try.func33,Try.ntmps33
 go_upto_region 1 with (first|((with_reducible refine gate_dst (N:=5) rfl ?_);(try (refine gate_guard (by rfl) ?_;dsimp only));refine bE 5 #[.slice A0_0 l0_0.length c0_0,.slice A0_1 l0_1.length c0_1] 31 ?_;intro gb668 hg w7 hbox hb;have BK668:=mA hbox;have GW668:=gbpB HB hg;have GE668:=gbpB HB hg;replace HB:=spB HB hb;clear hb hbox hg)|((with_reducible refine gate_dst (N:=10) rfl ?_);(try (refine gate_guard (by rfl) ?_;dsimp only));refine bE 10 #[.slice none 0 0,.slice none 0 0] 31 ?_;intro gb669 hg w8 hbox hb;have BK669:=mA hbox;have GW669:=gbpS HB hg;have GE669:=gbpS HB hg;replace HB:=spS HB hb;have NB668_669:=mA (lN (blk_lt (pK BK668.out)) hg);have NB669_668:=nS NB668_669;replace BK668:=bK BK668 hb;clear hb hbox hg))
 (try simp only [Act.put,List.setIfInBounds_toArray,List.set_cons_zero,List.set_cons_succ])
 go_cut [19] (fun v19 wc=>∃ (kq:Nat) (x19_5:Bool),v19=.bool x19_5∧Aside0 (spec_WalDo.j0 kq l1 a2 a3 l4 x19_5 l0_0 l0_1=some (r1,r2))∧Aside0 (kq≤k)∧Aside0 (wc.heap[gb668]?=some (.cells #[(.slice A0_0 l0_0.length c0_0),(.slice A0_1 l0_1.length c0_1)] 31 (0,0)))∧Aside0 (wc.heap[gb669]?=some (.cells #[(.slice none 0 0),(.slice none 0 0)] 31 (0,0)))∧Aside0 (Below w.heap.size w wc))
 case first =>
  have H:=HC6.out;clear HC6;obtain ⟨t670,A9,H⟩:=bI H;(try dsimp only at H)
  by_cases c10:t670=true
  ·subst c10;rw [if_pos rfl] at H;have H':=mA H;clear H;have hnb11:=NB668_669.out;have hnc11:=NB669_668.out;obtain ⟨hcz12_0,hcz12_1,hfz12_0,hfz12_1⟩:=box2 BK668.out
   go_wp2_with (first|(refine gL (some 13) Try.func68 #[.agg #[.slice A0_0 l0_0.length c0_0,.slice A0_1 l0_1.length c0_1]] ?_;(with_reducible refine (spec_SecOk.calls k _ _ l0_0 _ _ l0_1 true _ ?s1 ?s2 ?s3 ?s4 A9.out).mono ?_);(case s1=>exact cB HR0_0 HB);(case s2=>exact HC0_0.out);(case s3=>exact cB HR0_1 HB);(case s4=>exact HC0_1.out);rintro e w13 ⟨rfl,hb⟩;refine ⟨_,rfl,?_⟩;replace BK668:=bK BK668 hb;replace BK669:=bK BK669 hb;replace HB:=spS HB hb;(try clear hb)))
   go_meet
   case rel=>exact ⟨_,(decide ((l1.length:Int) > 600)),bZ,H',⟨by first|omega|exact Nat.le_refl _⟩,⟨pK BK668.out⟩,⟨pK BK669.out⟩,⟨pS HB.out⟩⟩
  ·replace c10:=Bool.eq_false_iff.mpr c10;subst c10
   rw [if_neg nFT] at H
   have H':=mA H;clear H;have hnb14:=NB668_669.out;have hnc14:=NB669_668.out;obtain ⟨hcz15_0,hcz15_1,hfz15_0,hfz15_1⟩:=box2 BK668.out
   go_wp2_with (first|(refine gL (some 13) Try.func68 #[.agg #[.slice A0_0 l0_0.length c0_0,.slice A0_1 l0_1.length c0_1]] ?_;(with_reducible refine (spec_SecOk.calls k _ _ l0_0 _ _ l0_1 false _ ?s1 ?s2 ?s3 ?s4 A9.out).mono ?_);(case s1=>exact cB HR0_0 HB);(case s2=>exact HC0_0.out);(case s3=>exact cB HR0_1 HB);(case s4=>exact HC0_1.out);rintro e w16 ⟨rfl,hb⟩;refine ⟨_,rfl,?_⟩;replace BK668:=bK BK668 hb;replace BK669:=bK BK669 hb;replace HB:=spS HB hb;(try clear hb)))
   go_meet
   case rel=>exact ⟨_,(true),bZ,H',⟨by first|omega|exact Nat.le_refl _⟩,⟨pK BK668.out⟩,⟨pK BK669.out⟩,⟨pS HB.out⟩⟩
 case rest =>
  clear HC6
  obtain ⟨kq,x19_5,rfl,HA,HJ5,BK668,BK669,HB⟩:=hcut
  cases kq with
  | zero=>exact absurd HA.out (by simp [spec_WalDo.j0])
  | succ kj5 =>
   have H:=HA.out;clear HA;simp only [spec_WalDo.j0] at H
   by_cases c17:x19_5=true
   ·subst c17;rw [if_pos rfl] at H;simp only [Option.some.injEq,Prod.mk.injEq] at H;obtain ⟨rfl,rfl⟩:=H;have hnb18:=NB669_668.out;have hnc18:=NB668_669.out;obtain ⟨hcz19_0,hcz19_1,hfz19_0,hfz19_1⟩:=box2 BK669.out
    go_wp2
    refine bodyPost_ret (results_cell_row rfl _ _ gb669 31 #[.slice none 0 0,.slice none 0 0] (0,0) _ rfl (pP BK669) Try.underlying31 rfl aK) rfl ?_
    exact ⟨_,_,by first|rfl|(simp [errW_none,errW_some]<;>rfl)|(simp [*,errW_none,errW_some]<;>rfl),aN,aN,pS HB.out⟩
   ·replace c17:=Bool.eq_false_iff.mpr c17;subst c17
    rw [if_neg nFT] at H
    obtain ⟨⟨t671,t674⟩,A20,H⟩:=bI H;(try dsimp only at H);have H':=mA H;clear H;have hnb21:=NB668_669.out;have hnc21:=NB669_668.out;obtain ⟨hcz22_0,hcz22_1,hfz22_0,hfz22_1⟩:=box2 BK668.out
    go_wp2_with (first|(refine gL (some 22) Try.func69 #[.agg #[.slice A0_0 l0_0.length c0_0,.slice A0_1 l0_1.length c0_1]] ?_;(with_reducible refine (spec_l1Copy.calls _ _ l0_0 _ _ l0_1 t671 t674 _ ?s1 ?s2 ?s3 ?s4 A20.out).mono ?_);(case s1=>exact cB HR0_0 HB);(case s2=>exact HC0_0.out);(case s3=>exact cB HR0_1 HB);(case s4=>exact HC0_1.out);rintro e w23 ⟨v672,v675,rfl,ho0,ho1,hb⟩;refine ⟨_,rfl,?_⟩;have HO673:=mA (Kd.R_lower ho0 (bpS HB));have HO676:=mA (Kd.R_lower ho1 (bpS HB));replace BK668:=bK BK668 hb;replace BK669:=bK BK669 hb;replace HB:=spS HB hb;(try clear hb);(try clear ho0);(try clear ho1);obtain ⟨Ao24,co24,rfl⟩:=Kd.R_slice HO673.out;obtain ⟨hcz25_0,hcz25_1,hfz25_0,hfz25_1⟩:=box2 BK668.out;obtain ⟨Ao26,co26,rfl⟩:=Kd.R_slice HO676.out))
    go_loopg [11] kj5 (fun kq v11 w'=>∃ (x11_2:Int) (x669000_2:List ByteArray) (x669001_2:List (S75)) (u669000:Value) (u669001:Value),v11=.int .i64 x11_2∧Aside0 (spec_WalDo.l0 kq l1 a2 a3 l4 x11_2 x669000_2 x669001_2=some (r1,r2))∧Aside0 (kq≤kj5)∧Aside0 (Kd.R Kd.string 9 w' w.heap.size (fun _=>True) u669000 x669000_2)∧Aside0 (Kd.R k75 75 w' w.heap.size (fun _=>True) u669001 x669001_2)∧Aside0 (w'.heap[gb668]?=some (.cells #[u669000,u669001] 31 (0,0)))∧Aside0 (w'.heap[gb669]?=some (.cells #[(.slice none 0 0),(.slice none 0 0)] 31 (0,0)))∧Aside0 (Below w.heap.size w w'))
    case atStart=>exact ⟨(0),(t671),(t674),(.slice Ao24 t671.length co24),(.slice Ao26 t674.length co26),bZ,H',⟨Nat.le_refl _⟩,⟨pU HO673 BK668⟩,⟨pU HO676 BK668⟩,⟨pP BK668⟩,⟨pF BK669.out⟩,⟨pS HB.out⟩⟩
    case round =>
     clear H'
     (try clear c17);(try clear hcz19_0);(try clear hcz19_1);(try clear hcz22_0);(try clear hcz22_1);(try clear hcz25_0);(try clear hcz25_1);(try clear hfz19_0);(try clear hfz19_1);(try clear hfz22_0);(try clear hfz22_1);(try clear hfz25_0);(try clear hfz25_1)
     obtain ⟨x11_2,x669000_2,x669001_2,u669000,u669001,rfl,HA,HK2,HO_669000,HO_669001,BK668,BK669,HB⟩:=hrel
     cases gk with
     | zero=>exact absurd HA.out (by simp [spec_WalDo.l0])
     | succ k2 =>
      have H:=HA.out;clear HA;simp only [spec_WalDo.l0] at H
      by_cases c27:x11_2<(l1.length:Int)
      ·rw [if_pos c27] at H;have c27b0:decide (x11_2<(l1.length:Int))=true:=decide_eq_true c27;clear c27;have HC28:=mA H;clear H
       go_upto_region 7 with (fail)
       go_cut [34] (fun v34 wc=>∃ (kq:Nat) (x34_27:Bool),v34=.bool x34_27∧Aside0 (spec_WalDo.j2 kq l1 a2 a3 l4 x11_2 x34_27 x669000_2 x669001_2=some (r1,r2))∧Aside0 (kq≤k2)∧Aside0 (Kd.R Kd.string 9 wc w.heap.size (fun _=>True) u669000 x669000_2)∧Aside0 (Kd.R k75 75 wc w.heap.size (fun _=>True) u669001 x669001_2)∧Aside0 (wc.heap[gb668]?=some (.cells #[u669000,u669001] 31 (0,0)))∧Aside0 (wc.heap[gb669]?=some (.cells #[(.slice none 0 0),(.slice none 0 0)] 31 (0,0)))∧Aside0 (Below w.heap.size w wc))
       case first =>
        have H:=HC28.out;clear HC28
        by_cases c29:a2=true
        ·subst c29;rw [if_pos rfl] at H;have H':=mA H;clear H
         go_wp2
         go_meet
         case rel=>exact ⟨_,(decide (x11_2 ≥ a3)),bZ,H',⟨by have:=HJ5.out;have:=HK2.out;first|omega|exact Nat.le_refl _⟩,⟨pR HO_669000.out⟩,⟨pR HO_669001.out⟩,⟨pK BK668.out⟩,⟨pK BK669.out⟩,⟨pS HB.out⟩⟩
        ·replace c29:=Bool.eq_false_iff.mpr c29;subst c29
         rw [if_neg nFT] at H
         have H':=mA H;clear H
         go_wp2
         go_meet
         case rel=>exact ⟨_,(false),bZ,H',⟨by have:=HJ5.out;have:=HK2.out;first|omega|exact Nat.le_refl _⟩,⟨pR HO_669000.out⟩,⟨pR HO_669001.out⟩,⟨pK BK668.out⟩,⟨pK BK669.out⟩,⟨pS HB.out⟩⟩
       case rest =>
        clear HC28
        (try clear c17);(try clear c27);(try clear c27b0);(try clear hcz19_0);(try clear hcz19_1);(try clear hcz22_0);(try clear hcz22_1);(try clear hcz25_0);(try clear hcz25_1);(try clear hfz19_0);(try clear hfz19_1);(try clear hfz22_0);(try clear hfz22_1);(try clear hfz25_0);(try clear hfz25_1)
        obtain ⟨kq,x34_27,rfl,HA,HJ27,HO_669000,HO_669001,BK668,BK669,HB⟩:=hcut
        cases kq with
        | zero=>exact absurd HA.out (by simp [spec_WalDo.j2])
        | succ kj27 =>
         have H:=HA.out;clear HA;simp only [spec_WalDo.j2] at H
         by_cases c30:x34_27=true
         ·subst c30;rw [if_pos rfl] at H;obtain ⟨⟨t683,t686⟩,A31,H⟩:=bI H;(try dsimp only at H);simp only [Option.some.injEq,Prod.mk.injEq] at H;obtain ⟨rfl,rfl⟩:=H;have hnb32:=NB668_669.out;have hnc32:=NB669_668.out;obtain ⟨hcz33_0,hcz33_1,hfz33_0,hfz33_1⟩:=box2 BK668.out;obtain ⟨Ao34,co34,rfl⟩:=Kd.R_slice HO_669000.out;obtain ⟨Ao35,co35,rfl⟩:=Kd.R_slice HO_669001.out
          go_wp2_with (first|(refine gL (some 37) Try.func70 #[.agg #[.slice Ao34 x669000_2.length co34,.slice Ao35 x669001_2.length co35],.slice A4 l4.length c4] ?_;(with_reducible refine (spec_SecCut.calls kj27 _ _ x669000_2 _ _ x669001_2 _ _ l4 t683 t686 _ ?s1 ?s2 ?s3 ?s4 ?s5 ?s6 A31.out).mono ?_);(case s1=>exact cR HO_669000);(case s2=>exact cL HO_669000);(case s3=>exact cR HO_669001);(case s4=>exact cL HO_669001);(case s5=>exact cB HR4 HB);(case s6=>exact HC4.out);rintro e w36 ⟨v684,v687,rfl,ho0,ho1,hb⟩;refine ⟨_,rfl,?_⟩;have HO685:=mA (Kd.R_lower (Kd.R_new' ho0 (rL HO_669000)) (bpS HB));replace HO_669000:=rE HO_669000 ho0 hb;have HO688:=mA (Kd.R_lower (Kd.R_new' ho1 (rL HO_669001)) (bpS HB));replace HO_669001:=rE HO_669001 ho1 hb;replace BK668:=bK BK668 hb;replace BK669:=bK BK669 hb;replace HB:=spS HB hb;(try clear hb);(try clear ho0);(try clear ho1);obtain ⟨Ao37,co37,rfl⟩:=Kd.R_slice HO685.out;obtain ⟨hcz38_0,hcz38_1,hfz38_0,hfz38_1⟩:=box2 BK669.out;obtain ⟨Ao39,co39,rfl⟩:=Kd.R_slice HO688.out))
          refine bodyPost_ret (results_cell_row rfl _ _ gb669 31 #[.slice Ao37 t683.length co37,.slice Ao39 t686.length co39] (0,0) _ rfl (pP BK669) Try.underlying31 rfl aK) rfl ?_
          exact ⟨_,_,by first|rfl|(simp [errW_none,errW_some]<;>rfl)|(simp [*,errW_none,errW_some]<;>rfl),pU HO685 BK669,pU HO688 BK669,pS HB.out⟩
         ·replace c30:=Bool.eq_false_iff.mpr c30;subst c30
          rw [if_neg nFT] at H
          by_cases c40:0≤x11_2
          ·rw [if_pos c40] at H;have c40b0:decide (0≤x11_2)=true:=decide_eq_true c40;clear c40
           by_cases c41:x11_2<(l1.length:Int)
           ·rw [if_pos c41] at H;have c41b0:decide (x11_2<(l1.length:Int))=true:=decide_eq_true c41;clear c41;obtain ⟨bq42,hbq42⟩:∃ b_:Bool,b_=((rd_T61 l1 x11_2).f0):=⟨_,rfl⟩
            replace H:(if bq42=true then ((spec_SecFlush.f kj27 x669000_2 x669001_2).bind fun bt690=>(spec_WalDo.l0 kj27 l1 a2 a3 l4 (wrap64 (x11_2+1)) bt690.1 bt690.2)) else ((spec_SecPut.f kj27 x669000_2 x669001_2 ((rd_T61 l1 x11_2).f1) ((rd_T61 l1 x11_2).f2)).bind fun bt698=>(spec_WalDo.l0 kj27 l1 a2 a3 l4 (wrap64 (x11_2+1)) bt698.1 bt698.2.1)))=some (r1,r2):=by rw [← hbq42] at H;exact H
            have Nbq42:=mA hbq42;clear hbq42
            by_cases c43:bq42=true
            ·subst c43;rw [if_pos rfl] at H;obtain ⟨⟨t690,t693⟩,A44,H⟩:=bI H;(try dsimp only at H);have H':=mA H;clear H;have p689:0≤(x11_2:Int):=of_decide_eq_true bA;have q689:x11_2<(l1.length:Int):=of_decide_eq_true bA;obtain ⟨ad689,e689,hx689_0,hx689_1,hx689_2⟩:=at_T61 HR1.out x11_2 p689 q689
             (try rw [← Nbq42.out] at hx689_0)
             cases e689;replace hx689_0:=hC HB hx689_0;replace hx689_1:=hC HB hx689_1;replace hx689_2:=hC HB hx689_2;replace p689:=eq_true p689;replace q689:=eq_true q689;have hnb45:=NB668_669.out;have hnc45:=NB669_668.out;obtain ⟨hcz46_0,hcz46_1,hfz46_0,hfz46_1⟩:=box2 BK668.out;obtain ⟨Ao47,co47,rfl⟩:=Kd.R_slice HO_669000.out;obtain ⟨Ao48,co48,rfl⟩:=Kd.R_slice HO_669001.out
             go_wp2_with (first|(refine gL (some 44) Try.func45 #[.agg #[.slice Ao47 x669000_2.length co47,.slice Ao48 x669001_2.length co48]] ?_;(with_reducible refine (spec_SecFlush.calls kj27 _ _ x669000_2 _ _ x669001_2 t690 t693 _ ?s1 ?s2 ?s3 ?s4 A44.out).mono ?_);(case s1=>exact cR HO_669000);(case s2=>exact cL HO_669000);(case s3=>exact cR HO_669001);(case s4=>exact cL HO_669001);rintro e w49 ⟨v691,v694,rfl,ho0,ho1,hb⟩;refine ⟨_,rfl,?_⟩;have HO692:=mA (Kd.R_lower (Kd.R_new' ho0 (rL HO_669000)) (bpS HB));replace HO_669000:=rE HO_669000 ho0 hb;have HO695:=mA (Kd.R_lower (Kd.R_new' ho1 (rL HO_669001)) (bpS HB));replace HO_669001:=rE HO_669001 ho1 hb;replace BK668:=bK BK668 hb;replace BK669:=bK BK669 hb;replace HB:=spS HB hb;(try clear hb);(try clear ho0);(try clear ho1);obtain ⟨Ao50,co50,rfl⟩:=Kd.R_slice HO692.out;obtain ⟨hcz51_0,hcz51_1,hfz51_0,hfz51_1⟩:=box2 BK668.out;obtain ⟨Ao52,co52,rfl⟩:=Kd.R_slice HO695.out))
             go_roundg kj27
             case measure=>have:=HJ5.out;have:=HK2.out;have:=HJ27.out;omega
             case rel=>exact ⟨(wrap64 (x11_2+1)),(t690),(t693),(.slice Ao50 t690.length co50),(.slice Ao52 t693.length co52),bZ,H',⟨by have:=HJ5.out;have:=HK2.out;have:=HJ27.out;omega⟩,⟨pU HO692 BK668⟩,⟨pU HO695 BK668⟩,⟨pP BK668⟩,⟨pF BK669.out⟩,⟨pS HB.out⟩⟩
            ·replace c43:=Bool.eq_false_iff.mpr c43;subst c43
             rw [if_neg nFT] at H
             obtain ⟨⟨t698,t701,t704⟩,A53,H⟩:=bI H;(try dsimp only at H);have H':=mA H;clear H;have p689:0≤(x11_2:Int):=of_decide_eq_true bA;have q689:x11_2<(l1.length:Int):=of_decide_eq_true bA;obtain ⟨ad689,e689,hx689_0,hx689_1,hx689_2⟩:=at_T61 HR1.out x11_2 p689 q689
             (try rw [← Nbq42.out] at hx689_0)
             cases e689;replace hx689_0:=hC HB hx689_0;replace hx689_1:=hC HB hx689_1;replace hx689_2:=hC HB hx689_2;replace p689:=eq_true p689;replace q689:=eq_true q689
             try go_wp2
             replace HO_669000:=rD HO_669000;replace HO_669001:=rD HO_669001;replace BK668:=mA (blk_drew BK668.out);replace BK669:=mA (blk_drew BK669.out);replace HB:=mA (below_drew1 HB.out);have p696:0≤(x11_2:Int):=of_decide_eq_true bA;have q696:x11_2<(l1.length:Int):=of_decide_eq_true bA;obtain ⟨ad696,e696,hx696_0,hx696_1,hx696_2⟩:=at_T61 HR1.out x11_2 p696 q696;have hw696_2:=hx696_2
             (try rw [← Nbq42.out] at hw696_2)
             have hw696_1:=hx696_1
             (try rw [← Nbq42.out] at hw696_1)
             have hw696_0:=hx696_0
             (try rw [← Nbq42.out] at hw696_0)
             (try rw [← Nbq42.out] at hx696_0)
             obtain rfl:ad689=ad696:=(by injection e696)
             replace hx696_0:=hC HB hx696_0;replace hx696_1:=hC HB hx696_1;replace hx696_2:=hC HB hx696_2;replace p696:=eq_true p696;replace q696:=eq_true q696;have p697:0≤(x11_2:Int):=of_decide_eq_true bA;have q697:x11_2<(l1.length:Int):=of_decide_eq_true bA;obtain ⟨ad697,e697,hx697_0,hx697_1,hx697_2⟩:=at_T61 HR1.out x11_2 p697 q697;have hw697_2:=hx697_2
             (try rw [← Nbq42.out] at hw697_2)
             have hw697_1:=hx697_1
             (try rw [← Nbq42.out] at hw697_1)
             have hw697_0:=hx697_0
             (try rw [← Nbq42.out] at hw697_0)
             (try rw [← Nbq42.out] at hx697_0)
             obtain rfl:ad689=ad697:=(by injection e697)
             replace hx697_0:=hC HB hx697_0;replace hx697_1:=hC HB hx697_1;replace hx697_2:=hC HB hx697_2;replace p697:=eq_true p697;replace q697:=eq_true q697;obtain ⟨Ao55,co55,eo55⟩:=Kd.R_slice HO_669000.out
             (first|subst eo55|(injection eo55 with f1_ f2_ f3_;have f4_:=f1_.symm;have f5_:=f3_.symm;clear f1_ f2_ f3_;subst f4_;subst f5_))
             obtain ⟨Ao56,co56,eo56⟩:=Kd.R_slice HO_669001.out
             (first|subst eo56|(injection eo56 with f1_ f2_ f3_;have f4_:=f1_.symm;have f5_:=f3_.symm;clear f1_ f2_ f3_;subst f4_;subst f5_))
             refine start_ (n:=16) (S:=fun w'=>w'.cell? ⟨gb668,0,none⟩=some (.slice Ao55 x669000_2.length co55)∧w'.cell? ⟨gb668,1,none⟩=some (.slice Ao56 x669001_2.length co56)∧w'.cell? (ad689.add ((x11_2).toNat * 3))=some (.bool (false))∧w'.cell? ⟨(ad689.add ((x11_2).toNat * 3)).block,(ad689.add ((x11_2).toNat * 3)).off+1,none⟩=some (.int .i64 ((rd_T61 l1 x11_2).f1))∧w'.cell? ⟨(ad689.add ((x11_2).toNat * 3)).block,(ad689.add ((x11_2).toNat * 3)).off+2,none⟩=some (.string ((rd_T61 l1 x11_2).f2))∧w'.cell? (ad689.add ((x11_2).toNat * 3))=some (.bool (false))∧w'.cell? ⟨(ad689.add ((x11_2).toNat * 3)).block,(ad689.add ((x11_2).toNat * 3)).off+1,none⟩=some (.int .i64 ((rd_T61 l1 x11_2).f1))∧w'.cell? ⟨(ad689.add ((x11_2).toNat * 3)).block,(ad689.add ((x11_2).toNat * 3)).off+2,none⟩=some (.string ((rd_T61 l1 x11_2).f2))) (ds:=[15]) _ aK rfl rfl ⟨eC BK668 0,eC BK668 1,((HB.out.cell (World.block_lt_of_cell? w _ hw696_0)).trans hw696_0),((HB.out.cell (World.block_lt_of_cell? w _ hw696_1)).trans hw696_1),((HB.out.cell (World.block_lt_of_cell? w _ hw696_2)).trans hw696_2),((HB.out.cell (World.block_lt_of_cell? w _ hw697_0)).trans hw697_0),((HB.out.cell (World.block_lt_of_cell? w _ hw697_1)).trans hw697_1),((HB.out.cell (World.block_lt_of_cell? w _ hw697_2)).trans hw697_2)⟩ (fun hHeld=>?_);refine with_tabW spec_WalDo.tab11 spec_WalDo.bits11 (fun HT_ HW_=>?_)
             generalize wc.drew=w54 at HO_669000 HO_669001 BK668 BK669 HB hx696_0 hx696_1 hx696_2 hx697_0 hx697_1 hx697_2 hHeld ⊢
             refine pu_ 1 (some 47) (aT HT_) ?_
             refine pu_ 2 (some 48) (aT HT_) ?_
             refine pu_ 3 (some 49) (aT HT_) ?_
             refine pu_ 4 (some 50) (aT HT_) ?_
             refine pu_ 6 (some 52) (aT HT_) ?_
             refine pu_ 7 (some 53) (aT HT_) ?_
             refine pu_ 8 (some 54) (aT HT_) ?_
             refine pu_ 9 (some 55) (aT HT_) ?_
             refine ta8_ 0 (some 46) (tT HT_ HW_) hHeld ?_
             refine ta8_ 5 (some 51) (tT HT_ HW_) hHeld ?_
             refine ta8_ 10 (some 56) (tT HT_ HW_) hHeld ?_
             refine on_ 11 (some 57) (oT HT_) ?_;intro K hK
             refine gS Try.func71 #[.agg #[.slice Ao55 x669000_2.length co55,.slice Ao56 x669001_2.length co56],.int .i64 ((rd_T61 l1 x11_2).f1),.string ((rd_T61 l1 x11_2).f2)] ?_
             with_reducible refine (spec_SecPut.calls kj27 _ _ x669000_2 _ _ x669001_2 ((rd_T61 l1 x11_2).f1) ((rd_T61 l1 x11_2).f2) t698 t701 t704 _ ?s1 ?s2 ?s3 ?s4 A53.out).mono ?_
             (case s1=>exact cR HO_669000)
             (case s2=>exact cL HO_669000)
             (case s3=>exact cR HO_669001)
             (case s4=>exact cL HO_669001)
             rintro e w57 ⟨v699,v702,rfl,ho0,ho1,hb⟩;refine ⟨_,rfl,?_⟩;have HO700:=mA (Kd.R_lower (Kd.R_new' ho0 (rL HO_669000)) (bpS HB));replace HO_669000:=rE HO_669000 ho0 hb;have HO703:=mA (Kd.R_lower (Kd.R_new' ho1 (rL HO_669001)) (bpS HB));replace HO_669001:=rE HO_669001 ho1 hb;replace BK668:=bK BK668 hb;replace BK669:=bK BK669 hb;replace HB:=spS HB hb
             (try clear hb);(try clear ho0);(try clear ho1)
             obtain ⟨Ao58,co58,eo58⟩:=Kd.R_slice HO700.out
             (first|subst eo58|(injection eo58 with f1_ f2_ f3_;have f4_:=f1_.symm;have f5_:=f3_.symm;clear f1_ f2_ f3_;subst f4_;subst f5_))
             obtain ⟨Ao60,co60,eo60⟩:=Kd.R_slice HO703.out
             (first|subst eo60|(injection eo60 with f1_ f2_ f3_;have f4_:=f1_.symm;have f5_:=f3_.symm;clear f1_ f2_ f3_;subst f4_;subst f5_))
             refine hK.out _ _ ⟨eC BK668 0,eC BK668 1,((HB.out.cell (World.block_lt_of_cell? w _ hw696_0)).trans hw696_0),((HB.out.cell (World.block_lt_of_cell? w _ hw696_1)).trans hw696_1),((HB.out.cell (World.block_lt_of_cell? w _ hw696_2)).trans hw696_2),((HB.out.cell (World.block_lt_of_cell? w _ hw697_0)).trans hw697_0),((HB.out.cell (World.block_lt_of_cell? w _ hw697_1)).trans hw697_1),((HB.out.cell (World.block_lt_of_cell? w _ hw697_2)).trans hw697_2)⟩ (fun hHeld=>?_);clear hK K;refine no_ (some 57) ?_
             refine pu_ 12 (some 45) (aT HT_) ?_
             refine pu_ 13 (some 58) (aT HT_) ?_
             refine pu_ 14 (some 59) (aT HT_) ?_
             refine last_ (i:=15) (N:=none) #[true,true,true,true,true,true,true,true,true,true,true,true,true,true,true,true] rfl rfl (oT HT_) aD (fun K hK=>?_)
             have hs59:w57.cell? ⟨gb668,0,none⟩=some (.slice Ao55 x669000_2.length co55):=eC BK668 0;have hfs59:=blk_frozen BK668.out 0;have hns59_1:=NB669_668.out;have hms59_1:=NB668_669.out;have hs61:w57.cell? ⟨gb668,1,none⟩=some (.slice Ao56 x669001_2.length co56):=eC BK668 1;have hfs61:=blk_frozen BK668.out 1;have hns61_1:=NB669_668.out;have hms61_1:=NB668_669.out
             refine skip_ (w1:=?_) (by rfl) rfl ?_ ?_
             rotate_left
             ·go_simp;rfl
             refine hK.out _ _ ?_;clear hK K
             refine done_ (done_of HT_.out aK) ?_
             try go_wp2
             go_roundg kj27
             case measure=>have:=HJ5.out;have:=HK2.out;have:=HJ27.out;omega
             case rel=>exact ⟨(wrap64 (x11_2+1)),(t698),(t701),(.slice Ao58 t698.length co58),(.slice Ao60 t701.length co60),bZ,H',⟨by have:=HJ5.out;have:=HK2.out;have:=HJ27.out;omega⟩,⟨pU HO700 BK668⟩,⟨pU HO703 BK668⟩,⟨pP BK668⟩,⟨pF BK669.out⟩,⟨pS HB.out⟩⟩
           ·rw [if_neg c41] at H
            exact absurd H (by simp)
          ·rw [if_neg c40] at H
           exact absurd H (by simp)
      ·rw [if_neg c27] at H;have c27b0:decide (x11_2<(l1.length:Int))=false:=decide_eq_false c27;clear c27
       by_cases c62:a2=true
       ·subst c62;rw [if_pos rfl] at H;obtain ⟨⟨t677,t680⟩,A63,H⟩:=bI H;(try dsimp only at H);simp only [Option.some.injEq,Prod.mk.injEq] at H;obtain ⟨rfl,rfl⟩:=H;have hnb64:=NB668_669.out;have hnc64:=NB669_668.out;obtain ⟨hcz65_0,hcz65_1,hfz65_0,hfz65_1⟩:=box2 BK668.out;obtain ⟨Ao66,co66,rfl⟩:=Kd.R_slice HO_669000.out;obtain ⟨Ao67,co67,rfl⟩:=Kd.R_slice HO_669001.out
        go_wp2_with (first|(refine gL (some 63) Try.func70 #[.agg #[.slice Ao66 x669000_2.length co66,.slice Ao67 x669001_2.length co67],.slice A4 l4.length c4] ?_;(with_reducible refine (spec_SecCut.calls k2 _ _ x669000_2 _ _ x669001_2 _ _ l4 t677 t680 _ ?s1 ?s2 ?s3 ?s4 ?s5 ?s6 A63.out).mono ?_);(case s1=>exact cR HO_669000);(case s2=>exact cL HO_669000);(case s3=>exact cR HO_669001);(case s4=>exact cL HO_669001);(case s5=>exact cB HR4 HB);(case s6=>exact HC4.out);rintro e w68 ⟨v678,v681,rfl,ho0,ho1,hb⟩;refine ⟨_,rfl,?_⟩;have HO679:=mA (Kd.R_lower (Kd.R_new' ho0 (rL HO_669000)) (bpS HB));replace HO_669000:=rE HO_669000 ho0 hb;have HO682:=mA (Kd.R_lower (Kd.R_new' ho1 (rL HO_669001)) (bpS HB));replace HO_669001:=rE HO_669001 ho1 hb;replace BK668:=bK BK668 hb;replace BK669:=bK BK669 hb;replace HB:=spS HB hb;(try clear hb);(try clear ho0);(try clear ho1);obtain ⟨Ao69,co69,rfl⟩:=Kd.R_slice HO679.out;obtain ⟨hcz70_0,hcz70_1,hfz70_0,hfz70_1⟩:=box2 BK669.out;obtain ⟨Ao71,co71,rfl⟩:=Kd.R_slice HO682.out))
        refine bodyPost_ret (results_cell_row rfl _ _ gb669 31 #[.slice Ao69 t677.length co69,.slice Ao71 t680.length co71] (0,0) _ rfl (pP BK669) Try.underlying31 rfl aK) rfl ?_
        exact ⟨_,_,by first|rfl|(simp [errW_none,errW_some]<;>rfl)|(simp [*,errW_none,errW_some]<;>rfl),pU HO679 BK669,pU HO682 BK669,pS HB.out⟩
       ·replace c62:=Bool.eq_false_iff.mpr c62;subst c62
        rw [if_neg nFT] at H
        simp only [Option.some.injEq,Prod.mk.injEq] at H;obtain ⟨rfl,rfl⟩:=H;have hnb72:=NB668_669.out;have hnc72:=NB669_668.out;obtain ⟨hcz73_0,hcz73_1,hfz73_0,hfz73_1⟩:=box2 BK668.out;obtain ⟨Ao74,co74,rfl⟩:=Kd.R_slice HO_669000.out;obtain ⟨hcz75_0,hcz75_1,hfz75_0,hfz75_1⟩:=box2 BK669.out;obtain ⟨Ao76,co76,rfl⟩:=Kd.R_slice HO_669001.out
        go_wp2
        refine bodyPost_ret (results_cell_row rfl _ _ gb669 31 #[.slice Ao74 x669000_2.length co74,.slice Ao76 x669001_2.length co76] (0,0) _ rfl (pP BK669) Try.underlying31 rfl aK) rfl ?_
        exact ⟨_,_,by first|rfl|(simp [errW_none,errW_some]<;>rfl)|(simp [*,errW_none,errW_some]<;>rfl),pU HO_669000 BK669,pU HO_669001 BK669,pS HB.out⟩

/-! ### impl_copied_SecWrite: function 88 -/
def impl_copied_SecWrite.f (l0 : List S75) : Option (List S75) := if l0.length ≤ 11728124029610 then some l0 else none
set_option maxHeartbeats 8000000 in
set_option maxRecDepth 100000 in
theorem impl_copied_SecWrite.calls (A0 : Option Addr) (c0 : Nat) (l0 : List S75) (r : List S75) (w : World) (hr0 : Kd.C k75 w A0 l0.length l0) (hc0 : l0.length ≤ c0) (h : impl_copied_SecWrite.f l0 = some r) :
    Calls Try.prog 88 #[.slice A0 l0.length c0] w fun e w' => ∃ v0_ : Value, e = .returned (v0_) ∧ Kd.R k75 75 w' w.heap.size (fun _ => True) v0_ r ∧ Below w.heap.size w w' := by
  unfold impl_copied_SecWrite.f at h
  by_cases hz : l0.length ≤ 11728124029610
  · rw [if_pos hz] at h
    obtain rfl := Option.some.inj h
    have HR := Aside0.mk hr0
    have HZ := Aside0.mk hz
    clear hr0 hc0 h hz
    by_cases h0 : l0.length = 0
    · obtain rfl := List.eq_nil_of_length_eq_zero h0
      clear h0
      go_enter Try.func88, Try.ntmps88
      go_wp2
      go_ret
      exact ⟨_, rfl, Kd.R_nil _ _ _ _ _, Below.refl _ _⟩
    · have c0b : ((l0.length : Int) == 0) = false := beq_eq_false_iff_ne.mpr (by omega)
      have c0c : ((l0.length : Int) != 0) = true := bne_iff_ne.mpr (by omega)
      have c0d : ¬ (l0 = []) := fun h_ => h0 (by rw [h_]; rfl)
      clear h0
      have HB := Aside0.mk (Below.refl w.heap.size w)
      go_enter Try.func88, Try.ntmps88
      go_wp2_with (first
        | (refine Kd.R_make k75 _ 75 rfl (N := 9) rfl 29 _ _ rfl (l0.length : Int) rfl rfl Try.underlying29 (.agg #[(.int .i64 0), (.string ⟨#[]⟩)]) 24 info75 rfl (by decide) (by omega) z75 (ok := fun _ => True) (okp := fun _ => True) (k75_mkM _ _ _ z75) (fun _ hk => hk) trivial (Int.natCast_nonneg _) (by have hz := HZ.out; rw [Int.toNat_natCast]; omega) HB.out (Nat.le_refl _) ?_
           intro v1 w1 hR1 hB1 hg1 hn1
           rw [Int.toNat_natCast] at hR1
           have HR1 := Aside0.mk hR1
           have HB1 := Aside0.mk hB1
           have HC1 := Aside0.mk (Kd.C_below HR.out (below_of_grown hg1))
           clear hR1 hB1 hg1 hn1)
        | (refine R_copy k75 flat75 w.heap.size rfl _ _ 29 29 75 rfl Try.underlying29 (by rw [show (Try.prog.info? 75).map (·.size) = ((Try.prog.info? 75).map (fun i => (i.zero, i.size, i.bytes))).map (fun x => x.2.1) from by rw [Option.map_map]; rfl, info75]; rfl) _ _ _ _ _ l0 (fun _ => True) rfl rfl rfl (by simp) HR1.out HC1.out HB1.out ?_
           intro w2 hR2 hB2 _
           have HR2 := Aside0.mk hR2
           have HB2 := Aside0.mk hB2
           clear hR2 hB2))
      go_ret
      exact ⟨_, rfl, HR2.out, HB2.out⟩
  · rw [if_neg hz] at h; cases h

/-! ### impl_secCopy: function 64 -/
def impl_secCopy.f (l0_0 : List ByteArray) (l0_1 : List (S75)) : Option (List ByteArray × (List (S75))) := (impl_copied_string.f l0_0).bind fun t914 => ((impl_copied_SecWrite.f l0_1).bind fun t917 => (some (t914, t917)))
def impl_secCopy.T1 : Bool × List (List Nat × List Nat) := (true, [([], []), ([0], [0]), ([1], [1]), ([], []), ([3], [3]), ([4, 2], [4]), ([2, 5], [2, 5]), ([6, 5, 0, 1, 2, 3, 4, 5, 6], [6])])
def impl_secCopy.B1 : List Nat := [0, 1, 3, 0, 8, 31, 63, 127]
theorem impl_secCopy.tab1 : rtab .any (opsOf Try.f64 1) = impl_secCopy.T1 := by kernel_rfl
theorem impl_secCopy.bits1 : waitsOk impl_secCopy.T1.2 impl_secCopy.B1 = true := by kernel_rfl
set_option maxHeartbeats 8000000 in
set_option maxRecDepth 100000 in
theorem impl_secCopy.calls (A0_0 : Option Addr) (c0_0 : Nat) (l0_0 : List ByteArray) (A0_1 : Option Addr) (c0_1 : Nat) (l0_1 : List (S75)) (r1 : List ByteArray) (r2 : List (S75)) (w : World) (hr0_0 : Kd.C Kd.string w A0_0 l0_0.length l0_0) (hc0_0 : l0_0.length ≤ c0_0) (hr0_1 : Kd.C k75 w A0_1 l0_1.length l0_1) (hc0_1 : l0_1.length ≤ c0_1) (h : impl_secCopy.f l0_0 l0_1 = some (r1, r2)) :
  Calls Try.prog 64 #[.agg #[.slice A0_0 l0_0.length c0_0,.slice A0_1 l0_1.length c0_1]] w fun e w'=>∃ v0_ v1_:Value,e=.returned (.agg #[v0_,v1_])∧Kd.R Kd.string 9 w' w.heap.size (fun _=>True) v0_ r1∧Kd.R k75 75 w' w.heap.size (fun _=>True) v1_ r2∧Below w.heap.size w w':=by
 have hu31:=Try.underlying31;have HR0_0:=mA hr0_0;have HC0_0:=mA hc0_0;clear hr0_0 hc0_0;have HR0_1:=mA hr0_1;have HC0_1:=mA hc0_1;clear hr0_1 hc0_1;have HB:=mA (Below.refl w.heap.size w);have H:((impl_copied_string.f l0_0).bind fun t914=>((impl_copied_SecWrite.f l0_1).bind fun t917=>(some (t914,t917))))=some (r1,r2):=h;clear h;obtain ⟨t914,A2,H⟩:=bI H;(try dsimp only at H);obtain ⟨t917,A3,H⟩:=bI H;(try dsimp only at H);simp only [Option.some.injEq,Prod.mk.injEq] at H;obtain ⟨rfl,rfl⟩:=H
 go_enter Try.func64,Try.ntmps64
 try go_wp2_with (first|(refine bE 1 #[.slice A0_0 l0_0.length c0_0,.slice A0_1 l0_1.length c0_1] 31 ?_;intro gb912 hg w4 hbox hb;have BK912:=mA hbox;have GW912:=gbpB HB hg;have GE912:=gbpB HB hg;replace HB:=spB HB hb;clear hb hbox hg)|(refine bE 2 #[.slice none 0 0,.slice none 0 0] 31 ?_;intro gb913 hg w5 hbox hb;have BK913:=mA hbox;have GW913:=gbpS HB hg;have GE913:=gbpS HB hg;replace HB:=spS HB hb;have NB912_913:=mA (lN (blk_lt (pK BK912.out)) hg);have NB913_912:=nS NB912_913;replace BK912:=bK BK912 hb;clear hb hbox hg))
 replace BK912:=mA (blk_drew BK912.out);replace BK913:=mA (blk_drew BK913.out);replace HB:=mA (below_drew1 HB.out)
 refine start_ (n:=8) (S:=fun w'=>w'.cell? ⟨gb912,0,none⟩=some (.slice A0_0 l0_0.length c0_0)∧w'.cell? ⟨gb912,1,none⟩=some (.slice A0_1 l0_1.length c0_1)) (ds:=[]) _ aK rfl rfl ⟨eC BK912 0,eC BK912 1⟩ (fun hHeld=>?_);refine with_tabW impl_secCopy.tab1 impl_secCopy.bits1 (fun HT_ HW_=>?_)
 generalize w5.drew=w6 at BK912 BK913 HB hHeld ⊢
 refine pu_ 0 (some 3) (aT HT_) ?_
 refine pu_ 3 (some 6) (aT HT_) ?_
 refine ta2_ 1 (some 4) (tT HT_ HW_) hHeld ?_
 refine ta2_ 4 (some 7) (tT HT_ HW_) hHeld ?_
 refine on_ 2 (some 5) (oT HT_) ?_;intro K hK
 refine gS Try.func50 #[.slice A0_0 l0_0.length c0_0] ?_
 with_reducible refine (impl_copied_string.calls _ _ l0_0 t914 _ ?s1 ?s2 A2.out).mono ?_
 (case s1=>exact cB HR0_0 HB)
 (case s2=>exact HC0_0.out)
 rintro e w7 ⟨v915,rfl,ho0,hb⟩;refine ⟨_,rfl,?_⟩;have HO916:=mA (Kd.R_lower ho0 (bpS HB));replace BK912:=bK BK912 hb;replace BK913:=bK BK913 hb;replace HB:=spS HB hb
 (try clear hb);(try clear ho0)
 refine hK.out _ _ ⟨eC BK912 0,eC BK912 1⟩ (fun hHeld=>?_);clear hK K;refine no_ (some 5) ?_
 refine on_ 5 (some 8) (oT HT_) ?_;intro K hK
 refine gS Try.func88 #[.slice A0_1 l0_1.length c0_1] ?_
 with_reducible refine (impl_copied_SecWrite.calls _ _ l0_1 t917 _ ?s1 ?s2 A3.out).mono ?_
 (case s1=>exact cB HR0_1 HB)
 (case s2=>exact HC0_1.out)
 rintro e w8 ⟨v918,rfl,ho0,hb⟩;refine ⟨_,rfl,?_⟩;replace HO916:=rB HO916 hb;have HO919:=mA (Kd.R_lower ho0 (bpS HB));replace BK912:=bK BK912 hb;replace BK913:=bK BK913 hb;replace HB:=spS HB hb
 (try clear hb);(try clear ho0)
 obtain ⟨Ao9,co9,eo9⟩:=Kd.R_slice HO919.out
 (first|subst eo9|(injection eo9 with f1_ f2_ f3_;have f4_:=f1_.symm;have f5_:=f3_.symm;clear f1_ f2_ f3_;subst f4_;subst f5_))
 obtain ⟨Ao10,co10,eo10⟩:=Kd.R_slice HO916.out
 (first|subst eo10|(injection eo10 with f1_ f2_ f3_;have f4_:=f1_.symm;have f5_:=f3_.symm;clear f1_ f2_ f3_;subst f4_;subst f5_))
 refine hK.out _ _ ⟨eC BK912 0,eC BK912 1⟩ (fun hHeld=>?_);clear hK K;refine no_ (some 8) ?_
 refine pu_ 6 (some 9) (aT HT_) ?_
 refine on_ 7 (none) (oT HT_) ?_;intro K hK
 have hs11:w8.cell? ⟨gb913,0,none⟩=some (.slice none 0 0):=eC BK913 0;have hfs11:=blk_frozen BK913.out 0;have hns11_0:=NB912_913.out;have hms11_0:=NB913_912.out;have hs12:w8.cell? ⟨gb913,1,none⟩=some (.slice none 0 0):=eC BK913 1;have hfs12:=blk_frozen BK913.out 1;have hns12_0:=NB912_913.out;have hms12_0:=NB913_912.out
 refine skip_ (w1:=?_) (by rfl) rfl ?_ ?_
 rotate_left
 ·go_simp;rfl
 refine hK.out _ _ ⟨((cell_far (p:=⟨gb913,_,none⟩) NB912_913.out _).trans (((cell_far (p:=⟨gb913,_,none⟩) NB912_913.out _).trans (hHeld.1)))),((cell_far (p:=⟨gb913,_,none⟩) NB912_913.out _).trans (((cell_far (p:=⟨gb913,_,none⟩) NB912_913.out _).trans (hHeld.2))))⟩ (fun hHeld=>?_);clear hK K
 refine done_ (done_of HT_.out aK) ?_
 try go_wp2
 refine bodyPost_ret (results_cell_row rfl _ _ gb913 31 #[.slice Ao10 t914.length co10,.slice Ao9 t917.length co9] (0,0) _ rfl (pP BK913) Try.underlying31 rfl aK) rfl ?_
 exact ⟨_,_,by first|rfl|(simp [errW_none,errW_some]<;>rfl)|(simp [*,errW_none,errW_some]<;>rfl),pU HO916 BK913,pU HO919 BK913,pS HB.out⟩

/-! ### impl_SecPut: function 65 -/
def impl_SecPut.f (k : Nat) (l0_0 : List ByteArray) (l0_1 : List (S75)) (a1 : Int) (a2 : ByteArray) : Option (List ByteArray × (List (S75)) × Bool) := (impl_SecOk.f k l0_0 l0_1).bind fun t922 => (if t922 = true then ((impl_secCopy.f l0_0 l0_1).bind fun bt923 => (if bt923.2.length < 5864062014805 then ((some (bt923.2 ++ [(⟨a1, a2⟩ : S75)] : List (S75))).bind fun y930 => ((impl_SecOk.f k bt923.1 y930).bind fun t933 => (if t933 = true then ((impl_secCopy.f bt923.1 y930).bind fun bt934 => (some (bt934.1, bt934.2, true))) else ((impl_secCopy.f l0_0 l0_1).bind fun bt940 => (some (bt940.1, bt940.2, false)))))) else (none))) else (some (([] : List ByteArray), ([] : List (S75)), false)))
theorem impl_SecPut.mono : ∀ a0 a1 a2 a3 k, LeO (impl_SecPut.f k a0 a1 a2 a3) (impl_SecPut.f (k + 1) a0 a1 a2 a3) := by
 intro a0 a1 a2 a3 k
 unfold impl_SecPut.f
 repeat' first
   | (with_reducible first|exact impl_SecOk.mono _ _ _|exact LeO.refl _|exact LeO.none _|refine LeO.ite ?_ ?_|refine LeO.bind ?_ (fun _=>?_))|exact impl_SecOk.mono _ _ _|exact LeO.none _|refine LeO.ite ?_ ?_|refine LeO.bind ?_ (fun _=>?_)
set_option maxHeartbeats 8000000 in
set_option maxRecDepth 100000 in
theorem impl_SecPut.calls (k : Nat) (A0_0 : Option Addr) (c0_0 : Nat) (l0_0 : List ByteArray) (A0_1 : Option Addr) (c0_1 : Nat) (l0_1 : List (S75)) (a1 : Int) (a2 : ByteArray) (r1 : List ByteArray) (r2 : List (S75)) (r3 : Bool) (w : World) (hr0_0 : Kd.C Kd.string w A0_0 l0_0.length l0_0) (hc0_0 : l0_0.length ≤ c0_0) (hr0_1 : Kd.C k75 w A0_1 l0_1.length l0_1) (hc0_1 : l0_1.length ≤ c0_1) (h : impl_SecPut.f k l0_0 l0_1 a1 a2 = some (r1, r2, r3)) :
  Calls Try.prog 65 #[.agg #[.slice A0_0 l0_0.length c0_0,.slice A0_1 l0_1.length c0_1],.int .i64 a1,.string a2] w fun e w'=>∃ v0_ v1_:Value,e=.returned (.tuple #[.agg #[v0_,v1_],.bool r3])∧Kd.R Kd.string 9 w' w.heap.size (fun _=>True) v0_ r1∧Kd.R k75 75 w' w.heap.size (fun _=>True) v1_ r2∧Below w.heap.size w w':=by
 have hu31:=Try.underlying31;have hu75:=Try.underlying75;have HR0_0:=mA hr0_0;have HC0_0:=mA hc0_0;clear hr0_0 hc0_0;have HR0_1:=mA hr0_1;have HC0_1:=mA hc0_1;clear hr0_1 hc0_1;have HB:=mA (Below.refl w.heap.size w);have H:((impl_SecOk.f k l0_0 l0_1).bind fun t922=>(if t922=true then ((impl_secCopy.f l0_0 l0_1).bind fun bt923=>(if bt923.2.length<5864062014805 then ((some (bt923.2 ++ [(⟨a1,a2⟩:S75)]:List (S75))).bind fun y930=>((impl_SecOk.f k bt923.1 y930).bind fun t933=>(if t933=true then ((impl_secCopy.f bt923.1 y930).bind fun bt934=>(some (bt934.1,bt934.2,true))) else ((impl_secCopy.f l0_0 l0_1).bind fun bt940=>(some (bt940.1,bt940.2,false)))))) else (none))) else (some (([]:List ByteArray),([]:List (S75)),false))))=some (r1,r2,r3):=h;clear h;obtain ⟨t922,A4,H⟩:=bI H;(try dsimp only at H)
 by_cases c5:t922=true
 ·subst c5;rw [if_pos rfl] at H;obtain ⟨⟨t923,t926⟩,A6,H⟩:=bI H;(try dsimp only at H)
  by_cases c7:t926.length<5864062014805
  ·rw [if_pos c7] at H;have LMc7:=mA c7;clear c7;obtain ⟨y930,hy930⟩:∃ y_:List (S75),y_=(t926 ++ [(⟨a1,a2⟩:S75)]):=⟨_,rfl⟩
   replace H:((impl_SecOk.f k t923 y930).bind fun t933=>(if t933=true then ((impl_secCopy.f t923 y930).bind fun bt934=>(some (bt934.1,bt934.2,true))) else ((impl_secCopy.f l0_0 l0_1).bind fun bt940=>(some (bt940.1,bt940.2,false)))))=some (r1,r2,r3):=qH hy930 H
   have Ny930:=mA hy930;clear hy930;obtain ⟨t933,A8,H⟩:=bI H;(try dsimp only at H)
   by_cases c9:t933=true
   ·subst c9;rw [if_pos rfl] at H;obtain ⟨⟨t934,t937⟩,A10,H⟩:=bI H;(try dsimp only at H);simp only [Option.some.injEq,Prod.mk.injEq] at H;obtain ⟨rfl,rfl,rfl⟩:=H
    go_enter Try.func65,Try.ntmps65
    go_wp2_with (first|(refine bE 3 #[.slice A0_0 l0_0.length c0_0,.slice A0_1 l0_1.length c0_1] 31 ?_;intro gb920 hg w11 hbox hb;have BK920:=mA hbox;have GW920:=gbpB HB hg;have GE920:=gbpB HB hg;replace HB:=spB HB hb;clear hb hbox hg)|(refine bE 6 #[.slice none 0 0,.slice none 0 0] 31 ?_;intro gb921 hg w12 hbox hb;have BK921:=mA hbox;have GW921:=gbpS HB hg;have GE921:=gbpS HB hg;replace HB:=spS HB hb;have NB920_921:=mA (lN (blk_lt (pK BK920.out)) hg);have NB921_920:=nS NB920_921;replace BK920:=bK BK920 hb;clear hb hbox hg;have hnb13:=NB920_921.out;have hnc13:=NB921_920.out;obtain ⟨hcz14_0,hcz14_1,hfz14_0,hfz14_1⟩:=box2 BK920.out)|(refine gL (some 10) Try.func63 #[.agg #[.slice A0_0 l0_0.length c0_0,.slice A0_1 l0_1.length c0_1]] ?_;(with_reducible refine (impl_SecOk.calls k _ _ l0_0 _ _ l0_1 true _ ?s1 ?s2 ?s3 ?s4 A4.out).mono ?_);(case s1=>exact cB HR0_0 HB);(case s2=>exact HC0_0.out);(case s3=>exact cB HR0_1 HB);(case s4=>exact HC0_1.out);rintro e w15 ⟨rfl,hb⟩;refine ⟨_,rfl,?_⟩;replace BK920:=bK BK920 hb;replace BK921:=bK BK921 hb;replace HB:=spS HB hb;(try clear hb);obtain ⟨hcz16_0,hcz16_1,hfz16_0,hfz16_1⟩:=box2 BK920.out)|(refine gL (some 14) Try.func64 #[.agg #[.slice A0_0 l0_0.length c0_0,.slice A0_1 l0_1.length c0_1]] ?_;(with_reducible refine (impl_secCopy.calls _ _ l0_0 _ _ l0_1 t923 t926 _ ?s1 ?s2 ?s3 ?s4 A6.out).mono ?_);(case s1=>exact cB HR0_0 HB);(case s2=>exact HC0_0.out);(case s3=>exact cB HR0_1 HB);(case s4=>exact HC0_1.out);rintro e w17 ⟨v924,v927,rfl,ho0,ho1,hb⟩;refine ⟨_,rfl,?_⟩;have HO925:=mA (Kd.R_lower ho0 (bpS HB));have HO928:=mA (Kd.R_lower ho1 (bpS HB));replace BK920:=bK BK920 hb;replace BK921:=bK BK921 hb;replace HB:=spS HB hb;(try clear hb);(try clear ho0);(try clear ho1))|(refine bE 8 #[.slice none 0 0,.slice none 0 0] 31 ?_;intro gb929 hg w18 hbox hb;replace HO925:=rB HO925 hb;replace HO928:=rB HO928 hb;have BK929:=mA hbox;have GW929:=gbpS HB hg;have GE929:=gbpS HB hg;replace HB:=spS HB hb;have NB920_929:=mA (lN (blk_lt (pK BK920.out)) hg);have NB929_920:=nS NB920_929;replace BK920:=bK BK920 hb;have NB921_929:=mA (lN (blk_lt (pK BK921.out)) hg);have NB929_921:=nS NB921_929;replace BK921:=bK BK921 hb;clear hb hbox hg;obtain ⟨Ao19,co19,rfl⟩:=Kd.R_slice HO925.out;have hnb20:=NB929_920.out;have hnc20:=NB920_929.out;have hnb21:=NB929_921.out;have hnc21:=NB921_929.out;obtain ⟨hcz22_0,hcz22_1,hfz22_0,hfz22_1⟩:=box2 BK929.out;obtain ⟨Ao23,co23,rfl⟩:=Kd.R_slice HO928.out)|((with_reducible refine gate_builtin (b:=.append) (xs:=#[.tmp 16,.tmp 20]) rfl ?_);at_builtin;refine Kd.R_append k75 (w0:=w) w.heap.size rfl (.tmp 16) (.tmp 20) 29 75 (.agg #[(.int .i64 0),(.string ⟨#[]⟩)]) 24 rfl Try.underlying29 info75 rfl aD (by omega) (.slice Ao23 t926.length co23) t926 (⟨a1,a2⟩:S75) [.int .i64 a1,.string a2] (fun _=>True) (fun _=>False) rfl (by first|(go_simp;done)|(go_simp;rfl)) ?aP (fun _ hk=>hk.elim) ?aF ?aO ?aB ?aS ?aL ?_;(case aP=>exact k75_mkM _ _ _ (⟨a1,a2⟩:S75));(case aB=>exact (pS HB.out));(case aF=>exact (fun _ _=>trivial));(case aO=>exact (pU HO928 BK929));(case aS=>exact (bpS HB));(case aL=>have:=LMc7.out;omega);intro v931 w24 ho hb hg hat;rw [← Ny930.out] at ho;replace HO925:=mA (Kd.R_over' (pG HO925 BK929) (Kd.R_typed (pG HO928 BK929)) aD hg);have HO932:=mA ho;replace BK920:=mA (blk_grown (pF BK920.out) hg (rN HO928 BK920));replace BK921:=mA (blk_grown (pF BK921.out) hg (rN HO928 BK921));replace BK929:=mA (blk_grown (g:=gb929) (o:=.cells #[.slice Ao19 t923.length co19,.slice Ao23 t926.length co23] 31 (0,0)) (pP BK929) hg (Kd.R_ne HO928.out BK929.out aD));replace HB:=mA hb;clear HO928;clear ho hb hg hat;obtain ⟨Ao25,co25,rfl⟩:=Kd.R_slice HO932.out;obtain ⟨hcz26_0,hcz26_1,hfz26_0,hfz26_1⟩:=box2 BK929.out)|(refine gL (some 24) Try.func63 #[.agg #[.slice Ao19 t923.length co19,.slice Ao25 y930.length co25]] ?_;(with_reducible refine (impl_SecOk.calls k _ _ t923 _ _ y930 true _ ?s1 ?s2 ?s3 ?s4 A8.out).mono ?_);(case s1=>refine (Kd.R_reads' (e:=9) (base:=w.heap.size) (ok:=fun k_=>True) (n:=t923.length) (c:=co19) ?_).2.2;exact (pG HO925 BK929));(case s2=>exact cL HO925);(case s3=>refine (Kd.R_reads' (e:=75) (base:=w.heap.size) (ok:=fun k_=>True) (n:=y930.length) (c:=co25) ?_).2.2;exact (pG HO932 BK929));(case s4=>exact cL HO932);rintro e w27 ⟨rfl,hb⟩;refine ⟨_,rfl,?_⟩;replace HO925:=mA (Kd.R_below (pG HO925 BK929) hb);replace HO932:=mA (Kd.R_below (pG HO932 BK929) hb);replace BK920:=mA (blk_below (g:=gb920) (o:=.cells #[.slice A0_0 l0_0.length c0_0,.slice A0_1 l0_1.length c0_1] 31 (0,0)) (pF BK920.out) hb);replace BK921:=mA (blk_below (g:=gb921) (o:=.cells #[.slice none 0 0,.slice none 0 0] 31 (0,0)) (pF BK921.out) hb);replace BK929:=mA (blk_below (g:=gb929) (o:=.cells #[.slice Ao19 t923.length co19,.slice Ao25 y930.length co25] 31 (0,0)) (pP BK929) hb);replace HB:=spS HB hb;(try clear hb);obtain ⟨hcz28_0,hcz28_1,hfz28_0,hfz28_1⟩:=box2 BK929.out)|(refine gL (some 29) Try.func64 #[.agg #[.slice Ao19 t923.length co19,.slice Ao25 y930.length co25]] ?_;(with_reducible refine (impl_secCopy.calls _ _ t923 _ _ y930 t934 t937 _ ?s1 ?s2 ?s3 ?s4 A10.out).mono ?_);(case s1=>exact cR HO925);(case s2=>exact cL HO925);(case s3=>exact cR HO932);(case s4=>exact cL HO932);rintro e w29 ⟨v935,v938,rfl,ho0,ho1,hb⟩;refine ⟨_,rfl,?_⟩;have HO936:=mA (Kd.R_lower (Kd.R_new' ho0 (rL HO925)) (bpS HB));replace HO925:=rE HO925 ho0 hb;have HO939:=mA (Kd.R_lower (Kd.R_new' ho1 (rL HO932)) (bpS HB));replace HO932:=rE HO932 ho1 hb;replace BK920:=bK BK920 hb;replace BK921:=bK BK921 hb;replace BK929:=bK BK929 hb;replace HB:=spS HB hb;(try clear hb);(try clear ho0);(try clear ho1);obtain ⟨Ao30,co30,rfl⟩:=Kd.R_slice HO936.out;obtain ⟨hcz31_0,hcz31_1,hfz31_0,hfz31_1⟩:=box2 BK921.out;obtain ⟨Ao32,co32,rfl⟩:=Kd.R_slice HO939.out))
    refine bodyPost_ret (results_ct rfl _ _ gb921 31 #[.slice Ao30 t934.length co30,.slice Ao32 t937.length co32] (0,0) _ rfl (pP BK921) Try.underlying31 rfl aK) rfl ?_
    exact ⟨_,_,by first|rfl|(simp [errW_none,errW_some]<;>rfl)|(simp [*,errW_none,errW_some]<;>rfl),pU HO936 BK921,pU HO939 BK921,pS HB.out⟩
   ·replace c9:=Bool.eq_false_iff.mpr c9;subst c9
    rw [if_neg nFT] at H
    obtain ⟨⟨t940,t943⟩,A33,H⟩:=bI H;(try dsimp only at H);simp only [Option.some.injEq,Prod.mk.injEq] at H;obtain ⟨rfl,rfl,rfl⟩:=H
    go_enter Try.func65,Try.ntmps65
    go_wp2_with (first|(refine bE 3 #[.slice A0_0 l0_0.length c0_0,.slice A0_1 l0_1.length c0_1] 31 ?_;intro gb920 hg w34 hbox hb;have BK920:=mA hbox;have GW920:=gbpB HB hg;have GE920:=gbpB HB hg;replace HB:=spB HB hb;clear hb hbox hg)|(refine bE 6 #[.slice none 0 0,.slice none 0 0] 31 ?_;intro gb921 hg w35 hbox hb;have BK921:=mA hbox;have GW921:=gbpS HB hg;have GE921:=gbpS HB hg;replace HB:=spS HB hb;have NB920_921:=mA (lN (blk_lt (pK BK920.out)) hg);have NB921_920:=nS NB920_921;replace BK920:=bK BK920 hb;clear hb hbox hg;have hnb36:=NB920_921.out;have hnc36:=NB921_920.out;obtain ⟨hcz37_0,hcz37_1,hfz37_0,hfz37_1⟩:=box2 BK920.out)|(refine gL (some 10) Try.func63 #[.agg #[.slice A0_0 l0_0.length c0_0,.slice A0_1 l0_1.length c0_1]] ?_;(with_reducible refine (impl_SecOk.calls k _ _ l0_0 _ _ l0_1 true _ ?s1 ?s2 ?s3 ?s4 A4.out).mono ?_);(case s1=>exact cB HR0_0 HB);(case s2=>exact HC0_0.out);(case s3=>exact cB HR0_1 HB);(case s4=>exact HC0_1.out);rintro e w38 ⟨rfl,hb⟩;refine ⟨_,rfl,?_⟩;replace BK920:=bK BK920 hb;replace BK921:=bK BK921 hb;replace HB:=spS HB hb;(try clear hb);obtain ⟨hcz39_0,hcz39_1,hfz39_0,hfz39_1⟩:=box2 BK920.out)|(refine gL (some 14) Try.func64 #[.agg #[.slice A0_0 l0_0.length c0_0,.slice A0_1 l0_1.length c0_1]] ?_;(with_reducible refine (impl_secCopy.calls _ _ l0_0 _ _ l0_1 t923 t926 _ ?s1 ?s2 ?s3 ?s4 A6.out).mono ?_);(case s1=>exact cB HR0_0 HB);(case s2=>exact HC0_0.out);(case s3=>exact cB HR0_1 HB);(case s4=>exact HC0_1.out);rintro e w40 ⟨v924,v927,rfl,ho0,ho1,hb⟩;refine ⟨_,rfl,?_⟩;have HO925:=mA (Kd.R_lower ho0 (bpS HB));have HO928:=mA (Kd.R_lower ho1 (bpS HB));replace BK920:=bK BK920 hb;replace BK921:=bK BK921 hb;replace HB:=spS HB hb;(try clear hb);(try clear ho0);(try clear ho1))|(refine bE 8 #[.slice none 0 0,.slice none 0 0] 31 ?_;intro gb929 hg w41 hbox hb;replace HO925:=rB HO925 hb;replace HO928:=rB HO928 hb;have BK929:=mA hbox;have GW929:=gbpS HB hg;have GE929:=gbpS HB hg;replace HB:=spS HB hb;have NB920_929:=mA (lN (blk_lt (pK BK920.out)) hg);have NB929_920:=nS NB920_929;replace BK920:=bK BK920 hb;have NB921_929:=mA (lN (blk_lt (pK BK921.out)) hg);have NB929_921:=nS NB921_929;replace BK921:=bK BK921 hb;clear hb hbox hg;obtain ⟨Ao42,co42,rfl⟩:=Kd.R_slice HO925.out;have hnb43:=NB929_920.out;have hnc43:=NB920_929.out;have hnb44:=NB929_921.out;have hnc44:=NB921_929.out;obtain ⟨hcz45_0,hcz45_1,hfz45_0,hfz45_1⟩:=box2 BK929.out;obtain ⟨Ao46,co46,rfl⟩:=Kd.R_slice HO928.out)|((with_reducible refine gate_builtin (b:=.append) (xs:=#[.tmp 16,.tmp 20]) rfl ?_);at_builtin;refine Kd.R_append k75 (w0:=w) w.heap.size rfl (.tmp 16) (.tmp 20) 29 75 (.agg #[(.int .i64 0),(.string ⟨#[]⟩)]) 24 rfl Try.underlying29 info75 rfl aD (by omega) (.slice Ao46 t926.length co46) t926 (⟨a1,a2⟩:S75) [.int .i64 a1,.string a2] (fun _=>True) (fun _=>False) rfl (by first|(go_simp;done)|(go_simp;rfl)) ?aP (fun _ hk=>hk.elim) ?aF ?aO ?aB ?aS ?aL ?_;(case aP=>exact k75_mkM _ _ _ (⟨a1,a2⟩:S75));(case aB=>exact (pS HB.out));(case aF=>exact (fun _ _=>trivial));(case aO=>exact (pU HO928 BK929));(case aS=>exact (bpS HB));(case aL=>have:=LMc7.out;omega);intro v931 w47 ho hb hg hat;rw [← Ny930.out] at ho;replace HO925:=mA (Kd.R_over' (pG HO925 BK929) (Kd.R_typed (pG HO928 BK929)) aD hg);have HO932:=mA ho;replace BK920:=mA (blk_grown (pF BK920.out) hg (rN HO928 BK920));replace BK921:=mA (blk_grown (pF BK921.out) hg (rN HO928 BK921));replace BK929:=mA (blk_grown (g:=gb929) (o:=.cells #[.slice Ao42 t923.length co42,.slice Ao46 t926.length co46] 31 (0,0)) (pP BK929) hg (Kd.R_ne HO928.out BK929.out aD));replace HB:=mA hb;clear HO928;clear ho hb hg hat;obtain ⟨Ao48,co48,rfl⟩:=Kd.R_slice HO932.out;obtain ⟨hcz49_0,hcz49_1,hfz49_0,hfz49_1⟩:=box2 BK929.out)|(refine gL (some 24) Try.func63 #[.agg #[.slice Ao42 t923.length co42,.slice Ao48 y930.length co48]] ?_;(with_reducible refine (impl_SecOk.calls k _ _ t923 _ _ y930 false _ ?s1 ?s2 ?s3 ?s4 A8.out).mono ?_);(case s1=>refine (Kd.R_reads' (e:=9) (base:=w.heap.size) (ok:=fun k_=>True) (n:=t923.length) (c:=co42) ?_).2.2;exact (pG HO925 BK929));(case s2=>exact cL HO925);(case s3=>refine (Kd.R_reads' (e:=75) (base:=w.heap.size) (ok:=fun k_=>True) (n:=y930.length) (c:=co48) ?_).2.2;exact (pG HO932 BK929));(case s4=>exact cL HO932);rintro e w50 ⟨rfl,hb⟩;refine ⟨_,rfl,?_⟩;replace HO925:=mA (Kd.R_below (pG HO925 BK929) hb);replace HO932:=mA (Kd.R_below (pG HO932 BK929) hb);replace BK920:=mA (blk_below (g:=gb920) (o:=.cells #[.slice A0_0 l0_0.length c0_0,.slice A0_1 l0_1.length c0_1] 31 (0,0)) (pF BK920.out) hb);replace BK921:=mA (blk_below (g:=gb921) (o:=.cells #[.slice none 0 0,.slice none 0 0] 31 (0,0)) (pF BK921.out) hb);replace BK929:=mA (blk_below (g:=gb929) (o:=.cells #[.slice Ao42 t923.length co42,.slice Ao48 y930.length co48] 31 (0,0)) (pP BK929) hb);replace HB:=spS HB hb;(try clear hb);obtain ⟨hcz51_0,hcz51_1,hfz51_0,hfz51_1⟩:=box2 BK920.out)|(refine gL (some 27) Try.func64 #[.agg #[.slice A0_0 l0_0.length c0_0,.slice A0_1 l0_1.length c0_1]] ?_;(with_reducible refine (impl_secCopy.calls _ _ l0_0 _ _ l0_1 t940 t943 _ ?s1 ?s2 ?s3 ?s4 A33.out).mono ?_);(case s1=>exact cB HR0_0 HB);(case s2=>exact HC0_0.out);(case s3=>exact cB HR0_1 HB);(case s4=>exact HC0_1.out);rintro e w52 ⟨v941,v944,rfl,ho0,ho1,hb⟩;refine ⟨_,rfl,?_⟩;have HO942:=mA (Kd.R_lower (Kd.R_new' ho0 (rL HO925)) (bpS HB));replace HO925:=rE HO925 ho0 hb;have HO945:=mA (Kd.R_lower (Kd.R_new' ho1 (rL HO932)) (bpS HB));replace HO932:=rE HO932 ho1 hb;replace BK920:=bK BK920 hb;replace BK921:=bK BK921 hb;replace BK929:=bK BK929 hb;replace HB:=spS HB hb;(try clear hb);(try clear ho0);(try clear ho1);obtain ⟨Ao53,co53,rfl⟩:=Kd.R_slice HO942.out;obtain ⟨hcz54_0,hcz54_1,hfz54_0,hfz54_1⟩:=box2 BK921.out;obtain ⟨Ao55,co55,rfl⟩:=Kd.R_slice HO945.out))
    refine bodyPost_ret (results_ct rfl _ _ gb921 31 #[.slice Ao53 t940.length co53,.slice Ao55 t943.length co55] (0,0) _ rfl (pP BK921) Try.underlying31 rfl aK) rfl ?_
    exact ⟨_,_,by first|rfl|(simp [errW_none,errW_some]<;>rfl)|(simp [*,errW_none,errW_some]<;>rfl),pU HO942 BK921,pU HO945 BK921,pS HB.out⟩
  ·rw [if_neg c7] at H
   exact absurd H (by simp)
 ·replace c5:=Bool.eq_false_iff.mpr c5;subst c5
  rw [if_neg nFT] at H
  simp only [Option.some.injEq,Prod.mk.injEq] at H;obtain ⟨rfl,rfl,rfl⟩:=H
  go_enter Try.func65,Try.ntmps65
  go_wp2_with (first|(refine bE 3 #[.slice A0_0 l0_0.length c0_0,.slice A0_1 l0_1.length c0_1] 31 ?_;intro gb920 hg w56 hbox hb;have BK920:=mA hbox;have GW920:=gbpB HB hg;have GE920:=gbpB HB hg;replace HB:=spB HB hb;clear hb hbox hg)|(refine bE 6 #[.slice none 0 0,.slice none 0 0] 31 ?_;intro gb921 hg w57 hbox hb;have BK921:=mA hbox;have GW921:=gbpS HB hg;have GE921:=gbpS HB hg;replace HB:=spS HB hb;have NB920_921:=mA (lN (blk_lt (pK BK920.out)) hg);have NB921_920:=nS NB920_921;replace BK920:=bK BK920 hb;clear hb hbox hg;have hnb58:=NB920_921.out;have hnc58:=NB921_920.out;obtain ⟨hcz59_0,hcz59_1,hfz59_0,hfz59_1⟩:=box2 BK920.out)|(refine gL (some 10) Try.func63 #[.agg #[.slice A0_0 l0_0.length c0_0,.slice A0_1 l0_1.length c0_1]] ?_;(with_reducible refine (impl_SecOk.calls k _ _ l0_0 _ _ l0_1 false _ ?s1 ?s2 ?s3 ?s4 A4.out).mono ?_);(case s1=>exact cB HR0_0 HB);(case s2=>exact HC0_0.out);(case s3=>exact cB HR0_1 HB);(case s4=>exact HC0_1.out);rintro e w60 ⟨rfl,hb⟩;refine ⟨_,rfl,?_⟩;replace BK920:=bK BK920 hb;replace BK921:=bK BK921 hb;replace HB:=spS HB hb;(try clear hb);obtain ⟨hcz61_0,hcz61_1,hfz61_0,hfz61_1⟩:=box2 BK921.out))
  refine bodyPost_ret (results_ct rfl _ _ gb921 31 #[.slice none 0 0,.slice none 0 0] (0,0) _ rfl (pP BK921) Try.underlying31 rfl aK) rfl ?_
  exact ⟨_,_,by first|rfl|(simp [errW_none,errW_some]<;>rfl)|(simp [*,errW_none,errW_some]<;>rfl),aN,aN,pS HB.out⟩

/-! ### impl_SecCut: function 66 -/
def impl_SecCut.l0 : Nat → List Int → List (S75) → Int → Int → List ByteArray → Option (List ByteArray × (List (S75)))
 | 0,_,_,_,_,_=>none
 | k+1,x1,x17,x18,x19,x953000=>if x19<x18 then (if 0≤x19 then (if x19<(x17.length:Int) then (if x19<(x1.length:Int) then (if (rd x1 x19)=0 then (impl_SecCut.l0 k x1 x17 x18 (wrap64 (x19+1)) x953000) else (if 0≤((rd_T75 x17 x19).f0) then (if ((rd_T75 x17 x19).f0)<(x953000.length:Int) then (impl_SecCut.l0 k x1 x17 x18 (wrap64 (x19+1)) (x953000.set (((rd_T75 x17 x19).f0):Int).toNat ((rd_T75 x17 x19).f1))) else (none)) else (none))) else (impl_SecCut.l0 k x1 x17 x18 (wrap64 (x19+1)) x953000)) else (none)) else (none)) else (some (x953000,([]:List (S75))))
def impl_SecCut.f (k : Nat) (l0_0 : List ByteArray) (l0_1 : List (S75)) (l1 : List Int) : Option (List ByteArray × (List (S75))) := (impl_SecOk.f k l0_0 l0_1).bind fun t948 => (if t948 = true then ((impl_copied_string.f l0_0).bind fun t949 => (impl_SecCut.l0 k l1 l0_1 (l0_1.length : Int) 0 t949)) else (some (([] : List ByteArray), ([] : List (S75)))))
theorem impl_SecCut.mono_l : ∀ k, (∀ y0 y1 y2 y3 y4, LeO (impl_SecCut.l0 k y0 y1 y2 y3 y4) (impl_SecCut.l0 (k + 1) y0 y1 y2 y3 y4))
 | 0=>fun _ _ _ _ _ r h=>by simp [impl_SecCut.l0] at h
 | k+1=>by
  have ih0:=impl_SecCut.mono_l k
  ·intro y0 y1 y2 y3 y4
   unfold impl_SecCut.l0
   repeat' first
   | (with_reducible first|exact ih0 _ _ _ _ _|exact impl_SecOk.mono _ _ _|exact LeO.refl _|exact LeO.none _|refine LeO.ite ?_ ?_|refine LeO.bind ?_ (fun _=>?_))|exact ih0 _ _ _ _ _|exact impl_SecOk.mono _ _ _|exact LeO.none _|refine LeO.ite ?_ ?_|refine LeO.bind ?_ (fun _=>?_)
theorem impl_SecCut.mono : ∀ a0 a1 a2 k, LeO (impl_SecCut.f k a0 a1 a2) (impl_SecCut.f (k + 1) a0 a1 a2) := by
 intro a0 a1 a2 k;have ih0:=impl_SecCut.mono_l k
 unfold impl_SecCut.f
 repeat' first
   | (with_reducible first|exact ih0 _ _ _ _ _|exact impl_SecOk.mono _ _ _|exact LeO.refl _|exact LeO.none _|refine LeO.ite ?_ ?_|refine LeO.bind ?_ (fun _=>?_))|exact ih0 _ _ _ _ _|exact impl_SecOk.mono _ _ _|exact LeO.none _|refine LeO.ite ?_ ?_|refine LeO.bind ?_ (fun _=>?_)
set_option maxHeartbeats 8000000 in
set_option maxRecDepth 100000 in
theorem impl_SecCut.calls (k : Nat) (A0_0 : Option Addr) (c0_0 : Nat) (l0_0 : List ByteArray) (A0_1 : Option Addr) (c0_1 : Nat) (l0_1 : List (S75)) (A1 : Option Addr) (c1 : Nat) (l1 : List Int) (r1 : List ByteArray) (r2 : List (S75)) (w : World) (hr0_0 : Kd.C Kd.string w A0_0 l0_0.length l0_0) (hc0_0 : l0_0.length ≤ c0_0) (hr0_1 : Kd.C k75 w A0_1 l0_1.length l0_1) (hc0_1 : l0_1.length ≤ c0_1) (hr1 : Kd.C (Kd.int .i64) w A1 l1.length l1) (hc1 : l1.length ≤ c1) (h : impl_SecCut.f k l0_0 l0_1 l1 = some (r1, r2)) :
  Calls Try.prog 66 #[.agg #[.slice A0_0 l0_0.length c0_0,.slice A0_1 l0_1.length c0_1],.slice A1 l1.length c1] w fun e w'=>∃ v0_ v1_:Value,e=.returned (.agg #[v0_,v1_])∧Kd.R Kd.string 9 w' w.heap.size (fun _=>True) v0_ r1∧Kd.R k75 75 w' w.heap.size (fun _=>True) v1_ r2∧Below w.heap.size w w':=by
 have hu31:=Try.underlying31;have hu75:=Try.underlying75;have HR0_0:=mA hr0_0;have HC0_0:=mA hc0_0;clear hr0_0 hc0_0;have HR0_1:=mA hr0_1;have HC0_1:=mA hc0_1;clear hr0_1 hc0_1;have HR1:=mA hr1;have HC1:=mA hc1;clear hr1 hc1;have HB:=mA (Below.refl w.heap.size w);have H:((impl_SecOk.f k l0_0 l0_1).bind fun t948=>(if t948=true then ((impl_copied_string.f l0_0).bind fun t949=>(impl_SecCut.l0 k l1 l0_1 (l0_1.length:Int) 0 t949)) else (some (([]:List ByteArray),([]:List (S75))))))=some (r1,r2):=h;clear h;obtain ⟨t948,A3,H⟩:=bI H;(try dsimp only at H)
 by_cases c4:t948=true
 ·subst c4;rw [if_pos rfl] at H;obtain ⟨t949,A5,H⟩:=bI H;(try dsimp only at H);have H':=mA H;clear H
  go_enter Try.func66,Try.ntmps66
  go_wp2_with (first|(refine bE 2 #[.slice A0_0 l0_0.length c0_0,.slice A0_1 l0_1.length c0_1] 31 ?_;intro gb946 hg w6 hbox hb;have BK946:=mA hbox;have GW946:=gbpB HB hg;have GE946:=gbpB HB hg;replace HB:=spB HB hb;clear hb hbox hg)|(refine bE 4 #[.slice none 0 0,.slice none 0 0] 31 ?_;intro gb947 hg w7 hbox hb;have BK947:=mA hbox;have GW947:=gbpS HB hg;have GE947:=gbpS HB hg;replace HB:=spS HB hb;have NB946_947:=mA (lN (blk_lt (pK BK946.out)) hg);have NB947_946:=nS NB946_947;replace BK946:=bK BK946 hb;clear hb hbox hg;have hnb8:=NB946_947.out;have hnc8:=NB947_946.out;obtain ⟨hcz9_0,hcz9_1,hfz9_0,hfz9_1⟩:=box2 BK946.out)|(refine gL (some 9) Try.func63 #[.agg #[.slice A0_0 l0_0.length c0_0,.slice A0_1 l0_1.length c0_1]] ?_;(with_reducible refine (impl_SecOk.calls k _ _ l0_0 _ _ l0_1 true _ ?s1 ?s2 ?s3 ?s4 A3.out).mono ?_);(case s1=>exact cB HR0_0 HB);(case s2=>exact HC0_0.out);(case s3=>exact cB HR0_1 HB);(case s4=>exact HC0_1.out);rintro e w10 ⟨rfl,hb⟩;refine ⟨_,rfl,?_⟩;replace BK946:=bK BK946 hb;replace BK947:=bK BK947 hb;replace HB:=spS HB hb;(try clear hb);obtain ⟨hcz11_0,hcz11_1,hfz11_0,hfz11_1⟩:=box2 BK946.out)|(refine gL (some 14) Try.func50 #[.slice A0_0 l0_0.length c0_0] ?_;(with_reducible refine (impl_copied_string.calls _ _ l0_0 t949 _ ?s1 ?s2 A5.out).mono ?_);(case s1=>exact cB HR0_0 HB);(case s2=>exact HC0_0.out);rintro e w12 ⟨v950,rfl,ho0,hb⟩;refine ⟨_,rfl,?_⟩;have HO951:=mA (Kd.R_lower ho0 (bpS HB));replace BK946:=bK BK946 hb;replace BK947:=bK BK947 hb;replace HB:=spS HB hb;(try clear hb);(try clear ho0);obtain ⟨Ao13,co13,rfl⟩:=Kd.R_slice HO951.out)|(refine bE 5 #[.slice none 0 0,.slice none 0 0] 31 ?_;intro gb952 hg w14 hbox hb;replace HO951:=rB HO951 hb;have BK952:=mA hbox;have GW952:=gbpS HB hg;have GE952:=gbpS HB hg;replace HB:=spS HB hb;have NB946_952:=mA (lN (blk_lt (pK BK946.out)) hg);have NB952_946:=nS NB946_952;replace BK946:=bK BK946 hb;have NB947_952:=mA (lN (blk_lt (pK BK947.out)) hg);have NB952_947:=nS NB947_952;replace BK947:=bK BK947 hb;clear hb hbox hg;have hnb15:=NB952_946.out;have hnc15:=NB946_952.out;have hnb16:=NB952_947.out;have hnc16:=NB947_952.out;obtain ⟨hcz17_0,hcz17_1,hfz17_0,hfz17_1⟩:=box2 BK952.out;obtain ⟨hcz18_0,hcz18_1,hfz18_0,hfz18_1⟩:=box2 BK946.out))
  go_loopg [19] k (fun kq v19 w'=>∃ (x19_1:Int) (x953000_1:List ByteArray) (u953000:Value),v19=.int .i64 x19_1∧Aside0 (impl_SecCut.l0 kq l1 l0_1 (l0_1.length:Int) x19_1 x953000_1=some (r1,r2))∧Aside0 (kq≤k)∧Aside0 (Kd.R Kd.string 9 w' w.heap.size (fun _=>True) u953000 x953000_1)∧Aside0 (w'.heap[gb946]?=some (.cells #[(.slice A0_0 l0_0.length c0_0),(.slice A0_1 l0_1.length c0_1)] 31 (0,0)))∧Aside0 (w'.heap[gb947]?=some (.cells #[(.slice none 0 0),(.slice none 0 0)] 31 (0,0)))∧Aside0 (w'.heap[gb952]?=some (.cells #[u953000,(.slice none 0 0)] 31 (0,0)))∧Aside0 (Below w.heap.size w w'))
  case atStart=>exact ⟨(0),(t949),(.slice Ao13 t949.length co13),bZ,H',⟨Nat.le_refl _⟩,⟨pU HO951 BK952⟩,⟨pF BK946.out⟩,⟨pF BK947.out⟩,⟨pP BK952⟩,⟨pS HB.out⟩⟩
  case round =>
   clear H'
   (try clear c4);(try clear hcz11_0);(try clear hcz11_1);(try clear hcz17_0);(try clear hcz17_1);(try clear hcz18_0);(try clear hcz18_1);(try clear hcz9_0);(try clear hcz9_1);(try clear hfz11_0);(try clear hfz11_1);(try clear hfz17_0);(try clear hfz17_1);(try clear hfz18_0);(try clear hfz18_1);(try clear hfz9_0);(try clear hfz9_1)
   obtain ⟨x19_1,x953000_1,u953000,rfl,HA,HK1,HO_953000,BK946,BK947,BK952,HB⟩:=hrel
   cases gk with
   | zero=>exact absurd HA.out (by simp [impl_SecCut.l0])
   | succ k1 =>
    have H:=HA.out;clear HA;simp only [impl_SecCut.l0] at H
    by_cases c19:x19_1<(l0_1.length:Int)
    ·rw [if_pos c19] at H;have c19b0:decide (x19_1<(l0_1.length:Int))=true:=decide_eq_true c19;clear c19
     by_cases c20:0≤x19_1
     ·rw [if_pos c20] at H;have c20b0:decide (0≤x19_1)=true:=decide_eq_true c20;clear c20
      by_cases c21:x19_1<(l0_1.length:Int)
      ·rw [if_pos c21] at H;have c21b0:decide (x19_1<(l0_1.length:Int))=true:=decide_eq_true c21;clear c21
       by_cases c22:x19_1<(l1.length:Int)
       ·rw [if_pos c22] at H;have c22b0:decide (x19_1<(l1.length:Int))=true:=decide_eq_true c22;clear c22
        by_cases c23:(rd l1 x19_1)=0
        ·rw [if_pos c23] at H;obtain ⟨c23b0,c23b1⟩:=eqB c23;clear c23;have H':=mA H;clear H;have p953:0≤(x19_1:Int):=of_decide_eq_true bA;have q953:x19_1<(l0_1.length:Int):=of_decide_eq_true bA;obtain ⟨ad953,e953,hx953_0,hx953_1⟩:=at_T75 HR0_1.out x19_1 p953 q953;cases e953;replace hx953_0:=hC HB hx953_0;replace hx953_1:=hC HB hx953_1;replace p953:=eq_true p953;replace q953:=eq_true q953
         go_wp2_with (first|(refine bE 7 #[.int .i64 0,.string (⟨#[]⟩:ByteArray)] 75 ?_;intro gb954 hg w24 hbox hb;replace HO_953000:=rB HO_953000 hb;have BK954:=mA hbox;have GW954:=gbpS HB hg;have GE954:=gbpS HB hg;replace HB:=spS HB hb;have NB946_954:=mA (lN (blk_lt (pK BK946.out)) hg);have NB954_946:=nS NB946_954;replace BK946:=bK BK946 hb;have NB947_954:=mA (lN (blk_lt (pK BK947.out)) hg);have NB954_947:=nS NB947_954;replace BK947:=bK BK947 hb;have NB952_954:=mA (lN (blk_lt (pK BK952.out)) hg);have NB954_952:=nS NB952_954;replace BK952:=bK BK952 hb;clear hb hbox hg;have hnb25:=NB954_946.out;have hnc25:=NB946_954.out;have hnb26:=NB954_947.out;have hnc26:=NB947_954.out;have hnb27:=NB954_952.out;have hnc27:=NB952_954.out;obtain ⟨hcz28_0,hcz28_1,hfz28_0,hfz28_1⟩:=box2 BK954.out;have p955:0≤(x19_1:Int):=of_decide_eq_true bA;have q955:x19_1<(l1.length:Int):=of_decide_eq_true bA;obtain ⟨ad955,e955,hx955_0⟩:=Kd.at_int HR1.out x19_1 p955 q955;cases e955;have hn955_0:ad955.block≠gb954:=Nat.ne_of_lt (Nat.lt_of_lt_of_le (by have:=World.block_lt_of_cell? _ _ hx955_0;first|rwa [add_block] at this|exact this) GW954.out);have hn955_1:ad955.block≠gb954:=Nat.ne_of_lt (Nat.lt_of_lt_of_le (by have:=World.block_lt_of_cell? _ _ hx955_0;first|rwa [add_block] at this|exact this) GW954.out);replace hx955_0:=hC HB hx955_0;replace hx955_0:=(cell_far (p:=⟨gb954,0,none⟩) (by first|(rw [add_block];exact hn955_0)|(show (Addr.add _ _).block≠_;rw [add_block];exact hn955_0)|exact hn955_0) (.int .i64 ((rd_T75 l0_1 x19_1).f0))).trans hx955_0;replace hx955_0:=(cell_far (p:=⟨gb954,1,none⟩) (by first|(rw [add_block];exact hn955_1)|(show (Addr.add _ _).block≠_;rw [add_block];exact hn955_1)|exact hn955_1) (.string ((rd_T75 l0_1 x19_1).f1))).trans hx955_0;clear hn955_0;clear hn955_1;replace p955:=eq_true p955;replace q955:=eq_true q955))
         go_roundg k1
         case measure=>have:=HK1.out;omega
         case rel=>exact ⟨(wrap64 (x19_1+1)),(x953000_1),(u953000),bZ,H',⟨by have:=HK1.out;omega⟩,⟨pU HO_953000 BK954⟩,⟨pF BK946.out⟩,⟨pF BK947.out⟩,⟨pF BK952.out⟩,⟨pS HB.out⟩⟩
        ·rw [if_neg c23] at H;have c23b0:((rd l1 x19_1) == 0)=false:=beq_eq_false_iff_ne.mpr c23;have c23b1:((rd l1 x19_1) != 0)=true:=bne_iff_ne.mpr c23
         by_cases c29:0≤((rd_T75 l0_1 x19_1).f0)
         ·rw [if_pos c29] at H;have c29b0:decide (0≤((rd_T75 l0_1 x19_1).f0))=true:=decide_eq_true c29;clear c29
          by_cases c30:((rd_T75 l0_1 x19_1).f0)<(x953000_1.length:Int)
          ·rw [if_pos c30] at H;have c30b0:decide (((rd_T75 l0_1 x19_1).f0)<(x953000_1.length:Int))=true:=decide_eq_true c30;clear c30;obtain ⟨y956,hy956⟩:∃ y_:List ByteArray,y_=(x953000_1.set (((rd_T75 l0_1 x19_1).f0):Int).toNat ((rd_T75 l0_1 x19_1).f1)):=⟨_,rfl⟩
           replace H:(impl_SecCut.l0 k1 l1 l0_1 (l0_1.length:Int) (wrap64 (x19_1+1)) y956)=some (r1,r2):=qH hy956 H
           have Ny956:=mA hy956;clear hy956;have H':=mA H;clear H;have p953:0≤(x19_1:Int):=of_decide_eq_true bA;have q953:x19_1<(l0_1.length:Int):=of_decide_eq_true bA;obtain ⟨ad953,e953,hx953_0,hx953_1⟩:=at_T75 HR0_1.out x19_1 p953 q953;cases e953;replace hx953_0:=hC HB hx953_0;replace hx953_1:=hC HB hx953_1;replace p953:=eq_true p953;replace q953:=eq_true q953
           go_wp2_with (first|(refine bE 7 #[.int .i64 0,.string (⟨#[]⟩:ByteArray)] 75 ?_;intro gb954 hg w32 hbox hb;replace HO_953000:=rB HO_953000 hb;have BK954:=mA hbox;have GW954:=gbpS HB hg;have GE954:=gbpS HB hg;replace HB:=spS HB hb;have NB946_954:=mA (lN (blk_lt (pK BK946.out)) hg);have NB954_946:=nS NB946_954;replace BK946:=bK BK946 hb;have NB947_954:=mA (lN (blk_lt (pK BK947.out)) hg);have NB954_947:=nS NB947_954;replace BK947:=bK BK947 hb;have NB952_954:=mA (lN (blk_lt (pK BK952.out)) hg);have NB954_952:=nS NB952_954;replace BK952:=bK BK952 hb;clear hb hbox hg;have hnb33:=NB954_946.out;have hnc33:=NB946_954.out;have hnb34:=NB954_947.out;have hnc34:=NB947_954.out;have hnb35:=NB954_952.out;have hnc35:=NB952_954.out;obtain ⟨hcz36_0,hcz36_1,hfz36_0,hfz36_1⟩:=box2 BK954.out)|((with_reducible refine gate_store (t:=75) (p:=7) rfl ?_);refine store_event (t:=75) (p:=7) (v:=?vo_w37) (w1:=((w32.setCell ⟨gb954,0,none⟩ (.int .i64 ((rd_T75 l0_1 x19_1).f0))).setCell ⟨gb954,1,none⟩ (.string ((rd_T75 l0_1 x19_1).f1)))) ?hg ?ho ?hn ?hr ?_;(case ho=>rfl);(case hg=>rfl);(case hn=>rfl);(case hr=>first|(go_simp;done)|(go_simp;rfl));intro w37 hw;have n0_:Aside0 (Kd.R Kd.string 9 w37 w.heap.size (fun _=>True) u953000 x953000_1):=⟨(by rw [hw];exact (pU HO_953000 BK954))⟩;have n1_:Aside0 (w37.heap[gb946]?=some (.cells #[.slice A0_0 l0_0.length c0_0,.slice (some ad953) l0_1.length c0_1] 31 (0,0))):=⟨(by rw [hw];exact (pF BK946.out))⟩;have n2_:Aside0 (w37.heap[gb947]?=some (.cells #[.slice none 0 0,.slice none 0 0] 31 (0,0))):=⟨(by rw [hw];exact (pF BK947.out))⟩;have n3_:Aside0 (w37.heap[gb952]?=some (.cells #[u953000,.slice none 0 0] 31 (0,0))):=⟨(by rw [hw];exact (pF BK952.out))⟩;have n4_:Aside0 (w37.heap[gb954]?=some (.cells #[.int .i64 ((rd_T75 l0_1 x19_1).f0),.string ((rd_T75 l0_1 x19_1).f1)] 75 (0,0))):=⟨(by rw [hw];exact (pP BK954))⟩;have n5_:Aside0 (Below w.heap.size w w37):=⟨(by rw [hw];exact (pS HB.out))⟩;clear hw;clear HO_953000;clear BK946;clear BK947;clear BK952;clear BK954;clear HB;have HO_953000:=n0_;have BK946:=n1_;have BK947:=n2_;have BK952:=n3_;have BK954:=n4_;have HB:=n5_;clear n0_ n1_ n2_ n3_ n4_ n5_;have p955:0≤(x19_1:Int):=of_decide_eq_true bA;have q955:x19_1<(l1.length:Int):=of_decide_eq_true bA;obtain ⟨ad955,e955,hx955_0⟩:=Kd.at_int HR1.out x19_1 p955 q955;cases e955;replace hx955_0:=hC HB hx955_0;replace p955:=eq_true p955;replace q955:=eq_true q955;have hnb38:=NB952_946.out;have hnc38:=NB946_952.out;have hnb39:=NB952_947.out;have hnc39:=NB947_952.out;obtain ⟨hcz40_0,hcz40_1,hfz40_0,hfz40_1⟩:=box2 BK952.out;obtain ⟨hcz41_0,hcz41_1,hfz41_0,hfz41_1⟩:=box2 BK954.out;have p31:0≤(((rd_T75 l0_1 x19_1).f0):Int):=of_decide_eq_true bA;have q31:(((rd_T75 l0_1 x19_1).f0):Int)<((x953000_1.length:Int):Int):=of_decide_eq_true bA;obtain ⟨go31,co31,eo31,gb31,gl31,cl31,HG31⟩:=Kd.R_form HO_953000.out (by omega);(first|cases eo31|(injection eo31 with ea_ en_ ec_;(first|subst ea_|(injection ea_ with ea_;subst ea_));subst ec_;clear en_));have GB31:=mA gb31;have GG31:=mA HG31;clear gb31 gl31 HG31;obtain ⟨hx31_0,hf31_0⟩:=Kd.R_celln (⟨#[]⟩:ByteArray) HO_953000.out (((rd_T75 l0_1 x19_1).f0):Int) p31 q31;replace p31:=eq_true p31;replace q31:=eq_true q31;obtain ⟨hy42_,hz42_⟩:=Kd.R_celln (⟨#[]⟩:ByteArray) HO_953000.out (((rd_T75 l0_1 x19_1).f0):Int) (of_decide_eq_true bA) (of_decide_eq_true bA);have HP42:=Kd.R_putg HO_953000.out (((rd_T75 l0_1 x19_1).f0):Int) ((rd_T75 l0_1 x19_1).f1))|((with_reducible refine gate_store (t:=9) (p:=41) rfl ?_);refine store_event (t:=9) (p:=41) (v:=?vo_w43) (w1:=(w37.setCell ⟨go31,(((rd_T75 l0_1 x19_1).f0):Int).toNat,none⟩ (.string ((rd_T75 l0_1 x19_1).f1)))) ?hg ?ho ?hn ?hr ?_;(case ho=>rfl);(case hg=>rfl);(case hn=>rfl);(case hr=>first|(go_simp;done)|(go_simp;rfl));intro w43 hw;have hg:w37.grownBy w43 (some go31):=(by rw [hw];exact HP42.2);have hp_:Kd.R Kd.string 9 w43 w.heap.size (fun _=>True) (.slice (some ⟨go31,0,none⟩) x953000_1.length co31) y956:=(by rw [hw,Ny956.out];exact HP42.1);clear HP42;replace BK946:=mA (blk_grown (pK BK946.out) hg (rN HO_953000 BK946));replace BK947:=mA (blk_grown (pK BK947.out) hg (rN HO_953000 BK947));replace BK952:=mA (blk_grown (pK BK952.out) hg (rN HO_953000 BK952));replace BK954:=mA (blk_grown (pK BK954.out) hg (rN HO_953000 BK954));replace HO_953000:=mA hp_;replace HB:=mA (by rw [hw];exact below_set (HB.out) GB31.out:Below w.heap.size w w43);clear hg hw hp_))
           go_roundg k1
           case measure=>have:=HK1.out;omega
           case rel=>exact ⟨(wrap64 (x19_1+1)),(y956),(.slice (some ⟨go31,0,none⟩) x953000_1.length co31),bZ,H',⟨by have:=HK1.out;omega⟩,⟨pR HO_953000.out⟩,⟨pK BK946.out⟩,⟨pK BK947.out⟩,⟨pK BK952.out⟩,⟨pS HB.out⟩⟩
          ·rw [if_neg c30] at H
           exact absurd H (by simp)
         ·rw [if_neg c29] at H
          exact absurd H (by simp)
       ·rw [if_neg c22] at H;have c22b0:decide (x19_1<(l1.length:Int))=false:=decide_eq_false c22;clear c22;have H':=mA H;clear H;have p953:0≤(x19_1:Int):=of_decide_eq_true bA;have q953:x19_1<(l0_1.length:Int):=of_decide_eq_true bA;obtain ⟨ad953,e953,hx953_0,hx953_1⟩:=at_T75 HR0_1.out x19_1 p953 q953;cases e953;replace hx953_0:=hC HB hx953_0;replace hx953_1:=hC HB hx953_1;replace p953:=eq_true p953;replace q953:=eq_true q953
        go_wp2_with (first|(refine bE 7 #[.int .i64 0,.string (⟨#[]⟩:ByteArray)] 75 ?_;intro gb954 hg w44 hbox hb;replace HO_953000:=rB HO_953000 hb;have BK954:=mA hbox;have GW954:=gbpS HB hg;have GE954:=gbpS HB hg;replace HB:=spS HB hb;have NB946_954:=mA (lN (blk_lt (pK BK946.out)) hg);have NB954_946:=nS NB946_954;replace BK946:=bK BK946 hb;have NB947_954:=mA (lN (blk_lt (pK BK947.out)) hg);have NB954_947:=nS NB947_954;replace BK947:=bK BK947 hb;have NB952_954:=mA (lN (blk_lt (pK BK952.out)) hg);have NB954_952:=nS NB952_954;replace BK952:=bK BK952 hb;clear hb hbox hg;have hnb45:=NB954_946.out;have hnc45:=NB946_954.out;have hnb46:=NB954_947.out;have hnc46:=NB947_954.out;have hnb47:=NB954_952.out;have hnc47:=NB952_954.out;obtain ⟨hcz48_0,hcz48_1,hfz48_0,hfz48_1⟩:=box2 BK954.out))
        go_roundg k1
        case measure=>have:=HK1.out;omega
        case rel=>exact ⟨(wrap64 (x19_1+1)),(x953000_1),(u953000),bZ,H',⟨by have:=HK1.out;omega⟩,⟨pU HO_953000 BK954⟩,⟨pF BK946.out⟩,⟨pF BK947.out⟩,⟨pF BK952.out⟩,⟨pS HB.out⟩⟩
      ·rw [if_neg c21] at H
       exact absurd H (by simp)
     ·rw [if_neg c20] at H
      exact absurd H (by simp)
    ·rw [if_neg c19] at H;have c19b0:decide (x19_1<(l0_1.length:Int))=false:=decide_eq_false c19;clear c19;simp only [Option.some.injEq,Prod.mk.injEq] at H;obtain ⟨rfl,rfl⟩:=H;have hnb49:=NB952_946.out;have hnc49:=NB946_952.out;have hnb50:=NB952_947.out;have hnc50:=NB947_952.out;obtain ⟨hcz51_0,hcz51_1,hfz51_0,hfz51_1⟩:=box2 BK952.out;obtain ⟨Ao52,co52,rfl⟩:=Kd.R_slice HO_953000.out;have hnb53:=NB947_946.out;have hnc53:=NB946_947.out;obtain ⟨hcz54_0,hcz54_1,hfz54_0,hfz54_1⟩:=box2 BK947.out
     go_wp2
     refine bodyPost_ret (results_cell_row rfl _ _ gb947 31 #[.slice Ao52 x953000_1.length co52,.slice none 0 0] (0,0) _ rfl (pP BK947) Try.underlying31 rfl aK) rfl ?_
     exact ⟨_,_,by first|rfl|(simp [errW_none,errW_some]<;>rfl)|(simp [*,errW_none,errW_some]<;>rfl),pU HO_953000 BK947,aN,pS HB.out⟩
 ·replace c4:=Bool.eq_false_iff.mpr c4;subst c4
  rw [if_neg nFT] at H
  simp only [Option.some.injEq,Prod.mk.injEq] at H;obtain ⟨rfl,rfl⟩:=H
  go_enter Try.func66,Try.ntmps66
  go_wp2_with (first|(refine bE 2 #[.slice A0_0 l0_0.length c0_0,.slice A0_1 l0_1.length c0_1] 31 ?_;intro gb946 hg w55 hbox hb;have BK946:=mA hbox;have GW946:=gbpB HB hg;have GE946:=gbpB HB hg;replace HB:=spB HB hb;clear hb hbox hg)|(refine bE 4 #[.slice none 0 0,.slice none 0 0] 31 ?_;intro gb947 hg w56 hbox hb;have BK947:=mA hbox;have GW947:=gbpS HB hg;have GE947:=gbpS HB hg;replace HB:=spS HB hb;have NB946_947:=mA (lN (blk_lt (pK BK946.out)) hg);have NB947_946:=nS NB946_947;replace BK946:=bK BK946 hb;clear hb hbox hg;have hnb57:=NB946_947.out;have hnc57:=NB947_946.out;obtain ⟨hcz58_0,hcz58_1,hfz58_0,hfz58_1⟩:=box2 BK946.out)|(refine gL (some 9) Try.func63 #[.agg #[.slice A0_0 l0_0.length c0_0,.slice A0_1 l0_1.length c0_1]] ?_;(with_reducible refine (impl_SecOk.calls k _ _ l0_0 _ _ l0_1 false _ ?s1 ?s2 ?s3 ?s4 A3.out).mono ?_);(case s1=>exact cB HR0_0 HB);(case s2=>exact HC0_0.out);(case s3=>exact cB HR0_1 HB);(case s4=>exact HC0_1.out);rintro e w59 ⟨rfl,hb⟩;refine ⟨_,rfl,?_⟩;replace BK946:=bK BK946 hb;replace BK947:=bK BK947 hb;replace HB:=spS HB hb;(try clear hb);obtain ⟨hcz60_0,hcz60_1,hfz60_0,hfz60_1⟩:=box2 BK947.out))
  refine bodyPost_ret (results_cell_row rfl _ _ gb947 31 #[.slice none 0 0,.slice none 0 0] (0,0) _ rfl (pP BK947) Try.underlying31 rfl aK) rfl ?_
  exact ⟨_,_,by first|rfl|(simp [errW_none,errW_some]<;>rfl)|(simp [*,errW_none,errW_some]<;>rfl),aN,aN,pS HB.out⟩

end Go.Proofs.Ythjocaegapchaaa.P
