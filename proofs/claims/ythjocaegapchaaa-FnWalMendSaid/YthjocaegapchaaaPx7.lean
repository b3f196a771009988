-- printed by pprint.py (this session's program over the kit's printer) out of the translation. Lean checks it.
import Derived.Test.YthjocaegapchaaaPx0
import Derived.Test.YthjocaegapchaaaPx2
namespace Go.Proofs.Ythjocaegapchaaa.P
open Go.RowKit Go.Proofs.YthjocaegapchaaaX Go.Proofs.YthjocaegapchaaaW.PrintWords Go.Proofs.YthjocaegapchaaaW.PrintLast Go.Proofs.YthjocaegapchaaaW.PrintMore
attribute [local go_sem] max2_int min2_int max_two min_two max_three min_three max_four min_four   -- for this text's walks alone
set_option linter.unusedVariables false
set_option linter.unusedSimpArgs false

/-! ### spec_l1Copy: function 69 -/
def spec_l1Copy.f (l0_0 : List ByteArray) (l0_1 : List (S75)) : Option (List ByteArray × (List (S75))) := (some (([] : List ByteArray) : List ByteArray)).bind fun y627 => (if y627.length + l0_0.length < 8796093022208 then ((some (([] : List (S75)) : List (S75))).bind fun y633 => (if y633.length + l0_1.length < 5864062014805 then (some ((y627 ++ l0_0), (y633 ++ l0_1))) else (none))) else (none))
def spec_l1Copy.T1 : Bool × List (List Nat × List Nat) := (true, [([], []), ([], []), ([1], [1]), ([0, 2], [0, 2]), ([], []), ([], []), ([5], [5]), ([4, 6, 3], [4, 6]), ([3, 7], [3, 7]), ([8, 7, 0, 1, 2, 3, 4, 5, 6, 7, 8], [8])])
def spec_l1Copy.B1 : List Nat := [0, 0, 2, 7, 0, 0, 32, 127, 255, 511]
theorem spec_l1Copy.tab1 : rtab .any (opsOf Try.f69 1) = spec_l1Copy.T1 := by kernel_rfl
theorem spec_l1Copy.bits1 : waitsOk spec_l1Copy.T1.2 spec_l1Copy.B1 = true := by kernel_rfl
set_option maxHeartbeats 8000000 in
set_option maxRecDepth 100000 in
theorem spec_l1Copy.calls (A0_0 : Option Addr) (c0_0 : Nat) (l0_0 : List ByteArray) (A0_1 : Option Addr) (c0_1 : Nat) (l0_1 : List (S75)) (r1 : List ByteArray) (r2 : List (S75)) (w : World) (hr0_0 : Kd.C Kd.string w A0_0 l0_0.length l0_0) (hc0_0 : l0_0.length ≤ c0_0) (hr0_1 : Kd.C k75 w A0_1 l0_1.length l0_1) (hc0_1 : l0_1.length ≤ c0_1) (h : spec_l1Copy.f l0_0 l0_1 = some (r1, r2)) :
  Calls Try.prog 69 #[.agg #[.slice A0_0 l0_0.length c0_0,.slice A0_1 l0_1.length c0_1]] w fun e w'=>∃ v0_ v1_:Value,e=.returned (.agg #[v0_,v1_])∧Kd.R Kd.string 9 w' w.heap.size (fun _=>True) v0_ r1∧Kd.R k75 75 w' w.heap.size (fun _=>True) v1_ r2∧Below w.heap.size w w':=by
 have hu31:=Try.underlying31;have HR0_0:=Aside0.mk hr0_0;have HC0_0:=Aside0.mk hc0_0;clear hr0_0 hc0_0;have HR0_1:=Aside0.mk hr0_1;have HC0_1:=Aside0.mk hc0_1;clear hr0_1 hc0_1;have HB:=Aside0.mk (Below.refl w.heap.size w);have H:((some (([]:List ByteArray):List ByteArray)).bind fun y627=>(if y627.length+l0_0.length<8796093022208 then ((some (([]:List (S75)):List (S75))).bind fun y633=>(if y633.length+l0_1.length<5864062014805 then (some ((y627 ++ l0_0),(y633 ++ l0_1))) else (none))) else (none)))=some (r1,r2):=h;clear h;obtain ⟨y627,hy627⟩:∃ y_:List ByteArray,y_=(([]:List ByteArray)):=⟨_,rfl⟩
 replace H:(if y627.length+l0_0.length<8796093022208 then ((some (([]:List (S75)):List (S75))).bind fun y633=>(if y633.length+l0_1.length<5864062014805 then (some ((y627 ++ l0_0),(y633 ++ l0_1))) else (none))) else (none))=some (r1,r2):=by first|(rw [hy627];with_reducible exact H)|(have H2_:=(Option.bind_some _ _).symm.trans H;rw [hy627];with_reducible exact H2_)|(have H2_:=(Option.bind_some _ _).symm.trans H;with_reducible exact H2_)|with_reducible exact H|(rw [hy627];exact H)|exact H
 have Ny627:=Aside0.mk hy627;clear hy627
 by_cases c2:y627.length+l0_0.length<8796093022208
 ·rw [if_pos c2] at H;have LMc2:=Aside0.mk c2;clear c2;obtain ⟨y630,hy630⟩:∃ y_:List ByteArray,y_=(y627 ++ l0_0):=⟨_,rfl⟩
  replace H:((some (([]:List (S75)):List (S75))).bind fun y633=>(if y633.length+l0_1.length<5864062014805 then (some (y630,(y633 ++ l0_1))) else (none)))=some (r1,r2):=by first|(rw [hy630];with_reducible exact H)|(have H2_:=(Option.bind_some _ _).symm.trans H;rw [hy630];with_reducible exact H2_)|(have H2_:=(Option.bind_some _ _).symm.trans H;with_reducible exact H2_)|with_reducible exact H|(rw [hy630];exact H)|exact H
  have Ny630:=Aside0.mk hy630;clear hy630;obtain ⟨y633,hy633⟩:∃ y_:List (S75),y_=(([]:List (S75))):=⟨_,rfl⟩
  replace H:(if y633.length+l0_1.length<5864062014805 then (some (y630,(y633 ++ l0_1))) else (none))=some (r1,r2):=by first|(rw [hy633];with_reducible exact H)|(have H2_:=(Option.bind_some _ _).symm.trans H;rw [hy633];with_reducible exact H2_)|(have H2_:=(Option.bind_some _ _).symm.trans H;with_reducible exact H2_)|with_reducible exact H|(rw [hy633];exact H)|exact H
  have Ny633:=Aside0.mk hy633;clear hy633
  by_cases c3:y633.length+l0_1.length<5864062014805
  ·rw [if_pos c3] at H;have LMc3:=Aside0.mk c3;clear c3;obtain ⟨y636,hy636⟩:∃ y_:List (S75),y_=(y633 ++ l0_1):=⟨_,rfl⟩
   replace H:(some (y630,y636))=some (r1,r2):=by first|(rw [hy636];with_reducible exact H)|(have H2_:=(Option.bind_some _ _).symm.trans H;rw [hy636];with_reducible exact H2_)|(have H2_:=(Option.bind_some _ _).symm.trans H;with_reducible exact H2_)|with_reducible exact H|(rw [hy636];exact H)|exact H
   have Ny636:=Aside0.mk hy636;clear hy636;simp only [Option.some.injEq,Prod.mk.injEq] at H;obtain ⟨rfl,rfl⟩:=H
   go_enter Try.func69,Try.ntmps69
   try go_wp2_with (first|((with_reducible refine gate_dst (N:=1) rfl ?_);refine box_event ?hg (N:=1) ?hd (cs:=#[.slice A0_0 l0_0.length c0_0,.slice A0_1 l0_1.length c0_1]) (t:=31) ?hr ?_;(case hd=>rfl);(case hg=>rfl);(case hr=>first|(go_simp;done)|(go_simp;rfl));intro gb625 hg w4 hbox hb;have n0_:=Aside0.mk (below_step (pB HB.out) hb);have n1_:=Aside0.mk (hbox);have n2_:=Aside0.mk ((by rw [hg];exact (below_size (pB HB.out)):w.heap.size≤gb625));have n3_:=Aside0.mk ((by rw [hg];exact (below_size (pB HB.out)):w.heap.size≤gb625));clear HB;have HB:=n0_;have BK625:=n1_;have GW625:=n2_;have GE625:=n3_;clear n0_ n1_ n2_ n3_;clear hb hbox hg)|((with_reducible refine gate_dst (N:=2) rfl ?_);refine box_event ?hg (N:=2) ?hd (cs:=#[.slice none 0 0,.slice none 0 0]) (t:=31) ?hr ?_;(case hd=>rfl);(case hg=>rfl);(case hr=>first|(go_simp;done)|(go_simp;rfl));intro gb626 hg w5 hbox hb;have n0_:=Aside0.mk (blk_below (pK BK625.out) hb);have n1_:=Aside0.mk (below_step (pS HB.out) hb);have n2_:=Aside0.mk (hbox);have n3_:=Aside0.mk ((by rw [hg];exact (below_size (pS HB.out)):w.heap.size≤gb626));have n4_:=Aside0.mk ((by rw [hg];exact (below_size (pS HB.out)):w.heap.size≤gb626));have n5_:=Aside0.mk ((by rw [hg];exact Nat.ne_of_lt (blk_lt (pK BK625.out)):gb625≠gb626));have n6_:=Aside0.mk ((by rw [hg];exact Nat.ne_of_gt (blk_lt (pK BK625.out)):gb626≠gb625));clear BK625;clear HB;have BK625:=n0_;have HB:=n1_;have BK626:=n2_;have GW626:=n3_;have GE626:=n4_;have NB625_626:=n5_;have NB626_625:=n6_;clear n0_ n1_ n2_ n3_ n4_ n5_ n6_;clear hb hbox hg))
   have n0_:=Aside0.mk (blk_drew BK625.out);have n1_:=Aside0.mk (blk_drew BK626.out);have n2_:=Aside0.mk (below_drew1 HB.out);clear BK625;clear BK626;clear HB;have BK625:=n0_;have BK626:=n1_;have HB:=n2_;clear n0_ n1_ n2_
   refine start_ (n:=10) (S:=fun w'=>w'.cell? ⟨gb625,0,none⟩=some (.slice A0_0 l0_0.length c0_0)∧w'.cell? ⟨gb625,1,none⟩=some (.slice A0_1 l0_1.length c0_1)) (ds:=[]) #[false,false,false,false,false,false,false,false,false,false] (by kernel_rfl) rfl rfl ⟨(blk_cell BK625.out 0).trans rfl,(blk_cell BK625.out 1).trans rfl⟩ (fun hHeld=>?_);refine with_tabW spec_l1Copy.tab1 spec_l1Copy.bits1 (fun HT_ HW_=>?_)
   generalize w5.drew=w6 at BK625 BK626 HB hHeld ⊢
   refine pure_ (i:=1) (N:=some 4) (v:=?_) (a':=?_) #[false,true,false,false,false,false,false,false,false,false] rfl rfl (any_of HT_.out (by kernel_rfl)) (fun _ _ _ h=>h) (Or.inl ⟨by rfl,?_⟩) ?_ ?_
   rotate_left
   ·intro w';go_simp;with_reducible rfl
   rotate_left
   ·simp only [Act.put,List.setIfInBounds_toArray,List.set_cons_zero,List.set_cons_succ,i64_w,i32_w];rfl
   refine pure_ (i:=5) (N:=some 8) (v:=?_) (a':=?_) #[false,true,false,false,false,true,false,false,false,false] rfl rfl (any_of HT_.out (by kernel_rfl)) (fun _ _ _ h=>h) (Or.inl ⟨by rfl,?_⟩) ?_ ?_
   rotate_left
   ·intro w';go_simp;with_reducible rfl
   rotate_left
   ·simp only [Act.put,List.setIfInBounds_toArray,List.set_cons_zero,List.set_cons_succ,i64_w,i32_w];rfl
   refine take_ (i:=2) (N:=some 5) (v:=?_) (a':=?_) #[false,true,true,false,false,true,false,false,false,false] rfl rfl (take_ofW HT_.out HW_.out (by kernel_rfl)) (fun _ _ _ h=>h) (Or.inl ⟨by rfl,?_⟩) hHeld ?_ ?_
   rotate_left
   ·rintro w' ⟨s0,s1⟩;go_simp;with_reducible rfl
   rotate_left
   ·simp only [Act.put,List.setIfInBounds_toArray,List.set_cons_zero,List.set_cons_succ,i64_w,i32_w];rfl
   refine take_ (i:=6) (N:=some 9) (v:=?_) (a':=?_) #[false,true,true,false,false,true,true,false,false,false] rfl rfl (take_ofW HT_.out HW_.out (by kernel_rfl)) (fun _ _ _ h=>h) (Or.inl ⟨by rfl,?_⟩) hHeld ?_ ?_
   rotate_left
   ·rintro w' ⟨s0,s1⟩;go_simp;with_reducible rfl
   rotate_left
   ·simp only [Act.put,List.setIfInBounds_toArray,List.set_cons_zero,List.set_cons_succ,i64_w,i32_w];rfl
   refine join_ (σ:=Value × Value × Value) 3 #[true,true,true,true,true,true,true,false,false,false] (fun s_=>[(3,s_.1),(6,s_.2.1),(7,s_.2.2)]) (fun s_ w'=>(w'.cell? ⟨gb625,0,none⟩=some (.slice A0_0 l0_0.length c0_0)∧w'.cell? ⟨gb625,1,none⟩=some (.slice A0_1 l0_1.length c0_1))∧(Kd.R Kd.string 9 w' w.heap.size (fun _=>True) s_.2.1 y630)∧(Kd.R k75 75 w' w.heap.size (fun _=>True) s_.2.2 y633)∧(w'.heap[gb625]?=some (.cells #[.slice A0_0 l0_0.length c0_0,.slice A0_1 l0_1.length c0_1] 31 (0,0)))∧(w'.heap[gb626]?=some (.cells #[.slice none 0 0,.slice none 0 0] 31 (0,0)))∧(Below w.heap.size w w')) ?_ ?_;rotate_left
   ·intro hCont
    refine two_ (i:=0) (j:=4) (Ni:=some 3) (Nj:=some 7) #[true,true,true,false,false,true,true,false,false,false] #[false,true,true,false,true,true,true,false,false,false] rfl rfl rfl rfl (two_of HT_.out (by kernel_rfl)) (by decide) (by decide) (fun K hK=>?_) (fun K hK=>?_)
    ·skip
     refine Kd.R_lit_step Kd.string _ 9 ?hg (N:=3) ?hd (xs:=([]:List ByteArray)) (inner:=[]) (ok:=fun _=>True) (okp:=fun _=>True) ?hr ?hp (fun _ hk=>hk) trivial (Below.refl _ _) (Nat.le_refl _) (by simp) ?_;(case hd=>rfl);(case hg=>rfl);(case hr=>first|(go_simp;done)|(go_simp;rfl));(case hp=>exact (Reps.none _ _))
     intro v628 w7 ho8 hb hg_ hnew_;clear hg_ hnew_
     (first|rw [← Ny627.out] at ho8|(simp only [Int.reduceToNat] at ho8;rw [← Ny627.out] at ho8))
     have n0_:=Aside0.mk (Kd.R_lower ho8 (below_size (pS HB.out)));have n1_:=Aside0.mk (blk_below (pK BK625.out) hb);have n2_:=Aside0.mk (blk_below (pK BK626.out) hb);have n3_:=Aside0.mk (below_step (pS HB.out) hb);clear BK625;clear BK626;clear HB;have HO629:=n0_;have BK625:=n1_;have BK626:=n2_;have HB:=n3_;clear n0_ n1_ n2_ n3_;clear hb ho8;refine hK.out _ _ ⟨(blk_cell BK625.out 0).trans rfl,(blk_cell BK625.out 1).trans rfl⟩ (fun hHeld=>?_);clear hK K;refine norm_ (a':=?_) ?_ ?_;rotate_left
     ·show Act.put _ (some 3) _=_
      simp only [Act.put,List.setIfInBounds_toArray,List.set_cons_zero,List.set_cons_succ,i64_w,i32_w];rfl
     refine two_ (i:=3) (j:=4) (Ni:=some 6) (Nj:=some 7) #[true,true,true,true,false,true,true,false,false,false] #[true,true,true,false,true,true,true,false,false,false] rfl rfl rfl rfl (two_of HT_.out (by kernel_rfl)) (by decide) (by decide) (fun K hK=>?_) (fun K hK=>?_)
     ·skip
      refine Kd.R_append_rows_step Kd.string (w0:=w) w.heap.size (by rfl) (.tmp 3) (.tmp 5) 22 9 (.string ⟨#[]⟩) 16 rfl Try.underlying22 info9 rfl (by decide) (by omega) v628 y627 l0_0 _ _ _ (fun _=>True) (fun _=>False) rfl rfl ?aO ?aR (fun _ _ h=>h) (fun _ h=>h.elim) ?aF ?aB ?aS ?aL ?_
      (case aR=>exact pC (Kd.C_below HR0_0.out HB.out))
      (case aB=>exact (pS HB.out))
      (case aF=>exact (fun _ _=>trivial))
      (case aO=>exact (pR HO629.out))
      (case aS=>exact (below_size (pS HB.out)))
      (case aL=>have:=LMc2.out;omega)
      intro v631 w9 ho hb hg hat;rw [← Ny630.out] at ho
      have n0_:=Aside0.mk (blk_grown (g:=gb625) (o:=.cells #[.slice A0_0 l0_0.length c0_0,.slice A0_1 l0_1.length c0_1] 31 (0,0)) (pK BK625.out) hg (Kd.R_ne HO629.out BK625.out (by decide)))
      have n1_:=Aside0.mk (blk_grown (g:=gb626) (o:=.cells #[.slice none 0 0,.slice none 0 0] 31 (0,0)) (pK BK626.out) hg (Kd.R_ne HO629.out BK626.out (by decide)))
      have n2_:=Aside0.mk (hb);have n3_:=Aside0.mk (ho);clear BK625;clear BK626;clear HB;clear HO629;have BK625:=n0_;have BK626:=n1_;have HB:=n2_;have HO632:=n3_;clear n0_ n1_ n2_ n3_;clear ho hb hg hat;refine hK.out _ _ ⟨(blk_cell BK625.out 0).trans rfl,(blk_cell BK625.out 1).trans rfl⟩ (fun hHeld=>?_);clear hK K;refine norm_ (a':=?_) ?_ ?_;rotate_left
      ·show Act.put _ (some 6) _=_
       simp only [Act.put,List.setIfInBounds_toArray,List.set_cons_zero,List.set_cons_succ,i64_w,i32_w];rfl
      refine one_ (i:=4) (N:=some 7) #[true,true,true,true,true,true,true,false,false,false] rfl rfl (one_of HT_.out (by kernel_rfl)) (by decide) (fun K hK=>?_)
      refine Kd.R_lit_step k75 _ 75 ?hg (N:=7) ?hd (xs:=([]:List (S75))) (inner:=[]) (ok:=fun _=>True) (okp:=fun _=>True) ?hr ?hp (fun _ hk=>hk) trivial (Below.refl _ _) (Nat.le_refl _) (by simp) ?_;(case hd=>rfl);(case hg=>rfl);(case hr=>first|(go_simp;done)|(go_simp;rfl));(case hp=>exact (Reps.none _ _))
      intro v634 w10 ho11 hb hg_ hnew_;clear hg_ hnew_
      (first|rw [← Ny633.out] at ho11|(simp only [Int.reduceToNat] at ho11;rw [← Ny633.out] at ho11))
      have n0_:=Aside0.mk (Kd.R_below (pR HO632.out) hb);have n1_:=Aside0.mk (Kd.R_lower ho11 (below_size (pS HB.out)));have n2_:=Aside0.mk (blk_below (pK BK625.out) hb);have n3_:=Aside0.mk (blk_below (pK BK626.out) hb);have n4_:=Aside0.mk (below_step (pS HB.out) hb);clear HO632;clear BK625;clear BK626;clear HB;have HO632:=n0_;have HO635:=n1_;have BK625:=n2_;have BK626:=n3_;have HB:=n4_;clear n0_ n1_ n2_ n3_ n4_;clear hb ho11;refine hK.out _ _ ⟨(blk_cell BK625.out 0).trans rfl,(blk_cell BK625.out 1).trans rfl⟩ (fun hHeld=>?_);clear hK K;refine norm_ (a':=?_) ?_ ?_;rotate_left
      ·show Act.put _ (some 7) _=_
       simp only [Act.put,List.setIfInBounds_toArray,List.set_cons_zero,List.set_cons_succ,i64_w,i32_w];rfl
      exact norm_ (by simp only [putAll,Act.put,List.setIfInBounds_toArray,List.set_cons_zero,List.set_cons_succ]) (hCont (v628,v631,v634) _ ⟨hHeld,(pR HO632.out),(pR HO635.out),(pK BK625.out),(pK BK626.out),(pS HB.out)⟩)
     ·skip
      refine Kd.R_lit_step k75 _ 75 ?hg (N:=7) ?hd (xs:=([]:List (S75))) (inner:=[]) (ok:=fun _=>True) (okp:=fun _=>True) ?hr ?hp (fun _ hk=>hk) trivial (Below.refl _ _) (Nat.le_refl _) (by simp) ?_;(case hd=>rfl);(case hg=>rfl);(case hr=>first|(go_simp;done)|(go_simp;rfl));(case hp=>exact (Reps.none _ _))
      intro v634 w9 ho10 hb hg_ hnew_;clear hg_ hnew_
      (first|rw [← Ny633.out] at ho10|(simp only [Int.reduceToNat] at ho10;rw [← Ny633.out] at ho10))
      have n0_:=Aside0.mk (Kd.R_below (pR HO629.out) hb);have n1_:=Aside0.mk (Kd.R_lower ho10 (below_size (pS HB.out)));have n2_:=Aside0.mk (blk_below (pK BK625.out) hb);have n3_:=Aside0.mk (blk_below (pK BK626.out) hb);have n4_:=Aside0.mk (below_step (pS HB.out) hb);clear HO629;clear BK625;clear BK626;clear HB;have HO629:=n0_;have HO635:=n1_;have BK625:=n2_;have BK626:=n3_;have HB:=n4_;clear n0_ n1_ n2_ n3_ n4_;clear hb ho10;refine hK.out _ _ ⟨(blk_cell BK625.out 0).trans rfl,(blk_cell BK625.out 1).trans rfl⟩ (fun hHeld=>?_);clear hK K;refine norm_ (a':=?_) ?_ ?_;rotate_left
      ·show Act.put _ (some 7) _=_
       simp only [Act.put,List.setIfInBounds_toArray,List.set_cons_zero,List.set_cons_succ,i64_w,i32_w];rfl
      refine one_ (i:=3) (N:=some 6) #[true,true,true,true,true,true,true,false,false,false] rfl rfl (one_of HT_.out (by kernel_rfl)) (by decide) (fun K hK=>?_)
      refine Kd.R_append_rows_step Kd.string (w0:=w) w.heap.size (by rfl) (.tmp 3) (.tmp 5) 22 9 (.string ⟨#[]⟩) 16 rfl Try.underlying22 info9 rfl (by decide) (by omega) v628 y627 l0_0 _ _ _ (fun _=>True) (fun _=>False) rfl rfl ?aO ?aR (fun _ _ h=>h) (fun _ h=>h.elim) ?aF ?aB ?aS ?aL ?_
      (case aR=>exact pC (Kd.C_below HR0_0.out HB.out))
      (case aB=>exact (pS HB.out))
      (case aF=>exact (fun _ _=>trivial))
      (case aO=>exact (pR HO629.out))
      (case aS=>exact (below_size (pS HB.out)))
      (case aL=>have:=LMc2.out;omega)
      intro v631 w11 ho hb hg hat;rw [← Ny630.out] at ho
      have n0_:=Aside0.mk (blk_grown (g:=gb625) (o:=.cells #[.slice A0_0 l0_0.length c0_0,.slice A0_1 l0_1.length c0_1] 31 (0,0)) (pK BK625.out) hg (Kd.R_ne HO629.out BK625.out (by decide)))
      have n1_:=Aside0.mk (blk_grown (g:=gb626) (o:=.cells #[.slice none 0 0,.slice none 0 0] 31 (0,0)) (pK BK626.out) hg (Kd.R_ne HO629.out BK626.out (by decide)))
      have n2_:=Aside0.mk (Kd.R_over' (pR HO635.out) (Kd.R_typed (pR HO629.out)) (by decide) hg)
      have n3_:=Aside0.mk (hb);have n4_:=Aside0.mk (ho);clear BK625;clear BK626;clear HO635;clear HB;clear HO629;have BK625:=n0_;have BK626:=n1_;have HO635:=n2_;have HB:=n3_;have HO632:=n4_;clear n0_ n1_ n2_ n3_ n4_;clear ho hb hg hat;refine hK.out _ _ ⟨(blk_cell BK625.out 0).trans rfl,(blk_cell BK625.out 1).trans rfl⟩ (fun hHeld=>?_);clear hK K;refine norm_ (a':=?_) ?_ ?_;rotate_left
      ·show Act.put _ (some 6) _=_
       simp only [Act.put,List.setIfInBounds_toArray,List.set_cons_zero,List.set_cons_succ,i64_w,i32_w];rfl
      exact norm_ (by simp only [putAll,Act.put,List.setIfInBounds_toArray,List.set_cons_zero,List.set_cons_succ]) (hCont (v628,v631,v634) _ ⟨hHeld,(pR HO632.out),(pR HO635.out),(pK BK625.out),(pK BK626.out),(pS HB.out)⟩)
    ·skip
     refine Kd.R_lit_step k75 _ 75 ?hg (N:=7) ?hd (xs:=([]:List (S75))) (inner:=[]) (ok:=fun _=>True) (okp:=fun _=>True) ?hr ?hp (fun _ hk=>hk) trivial (Below.refl _ _) (Nat.le_refl _) (by simp) ?_;(case hd=>rfl);(case hg=>rfl);(case hr=>first|(go_simp;done)|(go_simp;rfl));(case hp=>exact (Reps.none _ _))
     intro v634 w7 ho8 hb hg_ hnew_;clear hg_ hnew_
     (first|rw [← Ny633.out] at ho8|(simp only [Int.reduceToNat] at ho8;rw [← Ny633.out] at ho8))
     have n0_:=Aside0.mk (Kd.R_lower ho8 (below_size (pS HB.out)));have n1_:=Aside0.mk (blk_below (pK BK625.out) hb);have n2_:=Aside0.mk (blk_below (pK BK626.out) hb);have n3_:=Aside0.mk (below_step (pS HB.out) hb);clear BK625;clear BK626;clear HB;have HO635:=n0_;have BK625:=n1_;have BK626:=n2_;have HB:=n3_;clear n0_ n1_ n2_ n3_;clear hb ho8;refine hK.out _ _ ⟨(blk_cell BK625.out 0).trans rfl,(blk_cell BK625.out 1).trans rfl⟩ (fun hHeld=>?_);clear hK K;refine norm_ (a':=?_) ?_ ?_;rotate_left
     ·show Act.put _ (some 7) _=_
      simp only [Act.put,List.setIfInBounds_toArray,List.set_cons_zero,List.set_cons_succ,i64_w,i32_w];rfl
     refine one_ (i:=0) (N:=some 3) #[true,true,true,false,true,true,true,false,false,false] rfl rfl (one_of HT_.out (by kernel_rfl)) (by decide) (fun K hK=>?_)
     refine Kd.R_lit_step Kd.string _ 9 ?hg (N:=3) ?hd (xs:=([]:List ByteArray)) (inner:=[]) (ok:=fun _=>True) (okp:=fun _=>True) ?hr ?hp (fun _ hk=>hk) trivial (Below.refl _ _) (Nat.le_refl _) (by simp) ?_;(case hd=>rfl);(case hg=>rfl);(case hr=>first|(go_simp;done)|(go_simp;rfl));(case hp=>exact (Reps.none _ _))
     intro v628 w9 ho10 hb hg_ hnew_;clear hg_ hnew_
     (first|rw [← Ny627.out] at ho10|(simp only [Int.reduceToNat] at ho10;rw [← Ny627.out] at ho10))
     have n0_:=Aside0.mk (Kd.R_below (pR HO635.out) hb);have n1_:=Aside0.mk (Kd.R_lower ho10 (below_size (pS HB.out)));have n2_:=Aside0.mk (blk_below (pK BK625.out) hb);have n3_:=Aside0.mk (blk_below (pK BK626.out) hb);have n4_:=Aside0.mk (below_step (pS HB.out) hb);clear HO635;clear BK625;clear BK626;clear HB;have HO635:=n0_;have HO629:=n1_;have BK625:=n2_;have BK626:=n3_;have HB:=n4_;clear n0_ n1_ n2_ n3_ n4_;clear hb ho10;refine hK.out _ _ ⟨(blk_cell BK625.out 0).trans rfl,(blk_cell BK625.out 1).trans rfl⟩ (fun hHeld=>?_);clear hK K;refine norm_ (a':=?_) ?_ ?_;rotate_left
     ·show Act.put _ (some 3) _=_
      simp only [Act.put,List.setIfInBounds_toArray,List.set_cons_zero,List.set_cons_succ,i64_w,i32_w];rfl
     refine one_ (i:=3) (N:=some 6) #[true,true,true,true,true,true,true,false,false,false] rfl rfl (one_of HT_.out (by kernel_rfl)) (by decide) (fun K hK=>?_)
     refine Kd.R_append_rows_step Kd.string (w0:=w) w.heap.size (by rfl) (.tmp 3) (.tmp 5) 22 9 (.string ⟨#[]⟩) 16 rfl Try.underlying22 info9 rfl (by decide) (by omega) v628 y627 l0_0 _ _ _ (fun _=>True) (fun _=>False) rfl rfl ?aO ?aR (fun _ _ h=>h) (fun _ h=>h.elim) ?aF ?aB ?aS ?aL ?_
     (case aR=>exact pC (Kd.C_below HR0_0.out HB.out))
     (case aB=>exact (pS HB.out))
     (case aF=>exact (fun _ _=>trivial))
     (case aO=>exact (pR HO629.out))
     (case aS=>exact (below_size (pS HB.out)))
     (case aL=>have:=LMc2.out;omega)
     intro v631 w11 ho hb hg hat;rw [← Ny630.out] at ho
     have n0_:=Aside0.mk (blk_grown (g:=gb625) (o:=.cells #[.slice A0_0 l0_0.length c0_0,.slice A0_1 l0_1.length c0_1] 31 (0,0)) (pK BK625.out) hg (Kd.R_ne HO629.out BK625.out (by decide)))
     have n1_:=Aside0.mk (blk_grown (g:=gb626) (o:=.cells #[.slice none 0 0,.slice none 0 0] 31 (0,0)) (pK BK626.out) hg (Kd.R_ne HO629.out BK626.out (by decide)))
     have n2_:=Aside0.mk (Kd.R_over' (pR HO635.out) (Kd.R_typed (pR HO629.out)) (by decide) hg)
     have n3_:=Aside0.mk (hb);have n4_:=Aside0.mk (ho);clear BK625;clear BK626;clear HO635;clear HB;clear HO629;have BK625:=n0_;have BK626:=n1_;have HO635:=n2_;have HB:=n3_;have HO632:=n4_;clear n0_ n1_ n2_ n3_ n4_;clear ho hb hg hat;refine hK.out _ _ ⟨(blk_cell BK625.out 0).trans rfl,(blk_cell BK625.out 1).trans rfl⟩ (fun hHeld=>?_);clear hK K;refine norm_ (a':=?_) ?_ ?_;rotate_left
     ·show Act.put _ (some 6) _=_
      simp only [Act.put,List.setIfInBounds_toArray,List.set_cons_zero,List.set_cons_succ,i64_w,i32_w];rfl
     exact norm_ (by simp only [putAll,Act.put,List.setIfInBounds_toArray,List.set_cons_zero,List.set_cons_succ]) (hCont (v628,v631,v634) _ ⟨hHeld,(pR HO632.out),(pR HO635.out),(pK BK625.out),(pK BK626.out),(pS HB.out)⟩)
   rintro ⟨v628,v631,v634⟩ w12 ⟨hS_,h0_,h1_,h2_,h3_,h4_⟩;have n0_:Aside0 (Kd.R Kd.string 9 w12 w.heap.size (fun _=>True) v631 y630):=⟨h0_⟩;have n1_:Aside0 (Kd.R k75 75 w12 w.heap.size (fun _=>True) v634 y633):=⟨h1_⟩;have n2_:Aside0 (w12.heap[gb625]?=some (.cells #[.slice A0_0 l0_0.length c0_0,.slice A0_1 l0_1.length c0_1] 31 (0,0))):=⟨h2_⟩;have n3_:Aside0 (w12.heap[gb626]?=some (.cells #[.slice none 0 0,.slice none 0 0] 31 (0,0))):=⟨h3_⟩;have n4_:Aside0 (Below w.heap.size w w12):=⟨h4_⟩;clear BK625;clear BK626;clear HB;clear h0_ h1_ h2_ h3_ h4_;have HO632:=n0_;have HO635:=n1_;have BK625:=n2_;have BK626:=n3_;have HB:=n4_;clear n0_ n1_ n2_ n3_ n4_;have hHeld:w12.cell? ⟨gb625,0,none⟩=some (.slice A0_0 l0_0.length c0_0)∧w12.cell? ⟨gb625,1,none⟩=some (.slice A0_1 l0_1.length c0_1):=hS_;refine norm_ (a':=?_) ?_ ?_;rotate_left
   ·simp only [putAll,Act.put,List.setIfInBounds_toArray,List.set_cons_zero,List.set_cons_succ];rfl
   refine one_ (i:=7) (N:=some 10) #[true,true,true,true,true,true,true,true,false,false] rfl rfl (one_of HT_.out (by kernel_rfl)) (by decide) (fun K hK=>?_)
   refine Kd.R_append_rows_step k75 (w0:=w) w.heap.size (by rfl) (.tmp 7) (.tmp 9) 29 75 (.agg #[(.int .i64 0),(.string ⟨#[]⟩)]) 24 rfl Try.underlying29 info75 rfl (by decide) (by omega) v634 y633 l0_1 _ _ _ (fun _=>True) (fun _=>False) rfl rfl ?aO ?aR (fun _ _ h=>h) (fun _ h=>h.elim) ?aF ?aB ?aS ?aL ?_
   (case aR=>exact pC (Kd.C_below HR0_1.out HB.out))
   (case aB=>exact (pS HB.out))
   (case aF=>exact (fun _ _=>trivial))
   (case aO=>exact (pR HO635.out))
   (case aS=>exact (below_size (pS HB.out)))
   (case aL=>have:=LMc3.out;omega)
   intro v637 w13 ho hb hg hat;rw [← Ny636.out] at ho
   have n0_:=Aside0.mk (blk_grown (g:=gb625) (o:=.cells #[.slice A0_0 l0_0.length c0_0,.slice A0_1 l0_1.length c0_1] 31 (0,0)) (pK BK625.out) hg (Kd.R_ne HO635.out BK625.out (by decide)))
   have n1_:=Aside0.mk (blk_grown (g:=gb626) (o:=.cells #[.slice none 0 0,.slice none 0 0] 31 (0,0)) (pK BK626.out) hg (Kd.R_ne HO635.out BK626.out (by decide)))
   have n2_:=Aside0.mk (Kd.R_over' (pR HO632.out) (Kd.R_typed (pR HO635.out)) (by decide) hg)
   have n3_:=Aside0.mk (hb);have n4_:=Aside0.mk (ho);clear BK625;clear BK626;clear HO632;clear HB;clear HO635;have BK625:=n0_;have BK626:=n1_;have HO632:=n2_;have HB:=n3_;have HO638:=n4_;clear n0_ n1_ n2_ n3_ n4_;clear ho hb hg hat;obtain ⟨Ao14,co14,eo14⟩:=Kd.R_slice HO638.out
   (first|subst eo14|(injection eo14 with f1_ f2_ f3_;have f4_:=f1_.symm;have f5_:=f3_.symm;clear f1_ f2_ f3_;subst f4_;subst f5_))
   obtain ⟨Ao15,co15,eo15⟩:=Kd.R_slice HO632.out
   (first|subst eo15|(injection eo15 with f1_ f2_ f3_;have f4_:=f1_.symm;have f5_:=f3_.symm;clear f1_ f2_ f3_;subst f4_;subst f5_))
   refine hK.out _ _ ⟨(blk_cell BK625.out 0).trans rfl,(blk_cell BK625.out 1).trans rfl⟩ (fun hHeld=>?_);clear hK K;refine norm_ (a':=?_) ?_ ?_;rotate_left
   ·show Act.put _ (some 10) _=_
    simp only [Act.put,List.setIfInBounds_toArray,List.set_cons_zero,List.set_cons_succ,i64_w,i32_w];rfl
   refine pure_ (i:=8) (N:=some 11) (v:=?_) (a':=?_) #[true,true,true,true,true,true,true,true,true,false] rfl rfl (any_of HT_.out (by kernel_rfl)) (fun _ _ _ h=>h) (Or.inl ⟨by rfl,?_⟩) ?_ ?_
   rotate_left
   ·intro w';go_simp;with_reducible rfl
   rotate_left
   ·simp only [Act.put,List.setIfInBounds_toArray,List.set_cons_zero,List.set_cons_succ,i64_w,i32_w];rfl
   refine one_ (i:=9) (N:=none) #[true,true,true,true,true,true,true,true,true,true] rfl rfl (one_of HT_.out (by kernel_rfl)) (by decide) (fun K hK=>?_)
   have hs16:w13.cell? ⟨gb626,0,none⟩=some (.slice none 0 0):=(blk_cell BK626.out 0).trans rfl;have hfs16:=blk_frozen BK626.out 0;have hns16_0:=NB625_626.out;have hms16_0:=NB626_625.out;have hs17:w13.cell? ⟨gb626,1,none⟩=some (.slice none 0 0):=(blk_cell BK626.out 1).trans rfl;have hfs17:=blk_frozen BK626.out 1;have hns17_0:=NB625_626.out;have hms17_0:=NB626_625.out
   refine skip_ (w1:=?_) (by rfl) rfl ?_ ?_
   rotate_left
   ·go_simp;rfl
   refine hK.out _ _ ⟨((cell_far (p:=⟨gb626,_,none⟩) NB625_626.out _).trans (((cell_far (p:=⟨gb626,_,none⟩) NB625_626.out _).trans (hHeld.1)))),((cell_far (p:=⟨gb626,_,none⟩) NB625_626.out _).trans (((cell_far (p:=⟨gb626,_,none⟩) NB625_626.out _).trans (hHeld.2))))⟩ (fun hHeld=>?_);clear hK K
   refine done_ (done_of HT_.out (by kernel_rfl)) ?_
   try go_wp2
   refine bodyPost_ret (results_cell_row rfl _ _ gb626 31 #[.slice Ao15 y630.length co15,.slice Ao14 y636.length co14] (0,0) _ rfl (by (with_reducible repeat (first|refine blk_drewN ?_ _|refine blk_drew ?_|refine blk_alloc ?_ _));refine blk_put (cs:=#[.slice Ao15 y630.length co15,.slice none 0 0]) ?_ 1 _ rfl;(with_reducible repeat (first|refine blk_drewN ?_ _|refine blk_drew ?_|refine blk_alloc ?_ _));refine blk_put (cs:=#[.slice none 0 0,.slice none 0 0]) ?_ 0 _ rfl;(with_reducible repeat (first|refine blk_drewN ?_ _|refine blk_drew ?_|refine blk_alloc ?_ _));exact BK626.out) Try.underlying31 rfl (by kernel_rfl)) rfl ?_
   exact ⟨_,_,by first|rfl|(simp [errW_none,errW_some]<;>rfl)|(simp [*,errW_none,errW_some]<;>rfl),pR (Kd.R_mono (Kd.R_far (p:=⟨gb626,1,none⟩) (Kd.R_far (p:=⟨gb626,0,none⟩) (Kd.R_types HO632.out BK626.out (by decide)) (fun _ hk=>hk.2) (.slice Ao15 y630.length co15)) (fun _ hk=>hk.2) (.slice Ao14 y636.length co14)) (fun _ hk=>trivial)),pR (Kd.R_mono (Kd.R_far (p:=⟨gb626,1,none⟩) (Kd.R_far (p:=⟨gb626,0,none⟩) (Kd.R_types HO638.out BK626.out (by decide)) (fun _ hk=>hk.2) (.slice Ao15 y630.length co15)) (fun _ hk=>hk.2) (.slice Ao14 y636.length co14)) (fun _ hk=>trivial)),pS HB.out⟩
  ·rw [if_neg c3] at H
   exact absurd H (by simp)
 ·rw [if_neg c2] at H
  exact absurd H (by simp)

/-! ### spec_SecCut: function 70 -/
def spec_SecCut.l0 : Nat → List Int → Int → List ByteArray → List (S75) → List ByteArray → List (S75) → Option (List ByteArray × (List (S75)))
 | 0,_,_,_,_,_,_=>none
 | k+1,x1,x6,x640000,x640001,x643000,x643001=>if x6<(x640001.length:Int) then (if x6<(x1.length:Int) then (if 0≤x6 then (if (rd x1 x6)=0 then (spec_SecCut.l0 k x1 (wrap64 (x6+1)) x640000 x640001 x643000 x643001) else (if x643001.length<5864062014805 then (spec_SecCut.l0 k x1 (wrap64 (x6+1)) x640000 x640001 x643000 (x643001 ++ [(⟨(rd_T75 x640001 x6).f0,(rd_T75 x640001 x6).f1⟩:S75)])) else (none))) else (none)) else (spec_SecCut.l0 k x1 (wrap64 (x6+1)) x640000 x640001 x643000 x643001)) else ((spec_SecFlush.f k x643000 x643001).bind fun bt648=>(some (bt648.1,bt648.2)))
def spec_SecCut.f (k : Nat) (l0_0 : List ByteArray) (l0_1 : List (S75)) (l1 : List Int) : Option (List ByteArray × (List (S75))) := (spec_SecOk.f k l0_0 l0_1).bind fun t641 => (if t641 = true then (spec_SecCut.l0 k l1 0 l0_0 l0_1 l0_0 ([] : List (S75))) else (some (([] : List ByteArray), ([] : List (S75)))))
theorem spec_SecCut.mono_l : ∀ k, (∀ y0 y1 y2 y3 y4 y5, LeO (spec_SecCut.l0 k y0 y1 y2 y3 y4 y5) (spec_SecCut.l0 (k + 1) y0 y1 y2 y3 y4 y5))
 | 0=>fun _ _ _ _ _ _ r h=>by simp [spec_SecCut.l0] at h
 | k+1=>by
  have ih0:=spec_SecCut.mono_l k
  ·intro y0 y1 y2 y3 y4 y5
   unfold spec_SecCut.l0
   repeat' first
   | (with_reducible first|exact ih0 _ _ _ _ _ _|exact spec_SecFlush.mono _ _ _|exact spec_SecOk.mono _ _ _|exact LeO.refl _|exact LeO.none _|refine LeO.ite ?_ ?_|refine LeO.bind ?_ (fun _=>?_))|exact ih0 _ _ _ _ _ _|exact spec_SecFlush.mono _ _ _|exact spec_SecOk.mono _ _ _|exact LeO.none _|refine LeO.ite ?_ ?_|refine LeO.bind ?_ (fun _=>?_)
theorem spec_SecCut.mono : ∀ a0 a1 a2 k, LeO (spec_SecCut.f k a0 a1 a2) (spec_SecCut.f (k + 1) a0 a1 a2) := by
 intro a0 a1 a2 k;have ih0:=spec_SecCut.mono_l k
 unfold spec_SecCut.f
 repeat' first
   | (with_reducible first|exact ih0 _ _ _ _ _ _|exact spec_SecFlush.mono _ _ _|exact spec_SecOk.mono _ _ _|exact LeO.refl _|exact LeO.none _|refine LeO.ite ?_ ?_|refine LeO.bind ?_ (fun _=>?_))|exact ih0 _ _ _ _ _ _|exact spec_SecFlush.mono _ _ _|exact spec_SecOk.mono _ _ _|exact LeO.none _|refine LeO.ite ?_ ?_|refine LeO.bind ?_ (fun _=>?_)
def spec_SecCut.T8 : Bool × List (List Nat × List Nat) := (true, [([], []), ([0], [0]), ([], []), ([2], [2]), ([], []), ([3, 4], [3, 4]), ([5], [5]), ([6], [6]), ([1, 7], [1, 7]), ([0, 1, 2, 3, 4, 5, 6, 7, 8], []), ([9, 8, 8, 0, 1, 2, 3, 4, 5, 6, 7, 8], [8, 9])])
def spec_SecCut.B8 : List Nat := [0, 1, 0, 4, 0, 28, 60, 124, 255, 511, 1023]
theorem spec_SecCut.tab8 : rtab .any (opsOf Try.f70 8) = spec_SecCut.T8 := by kernel_rfl
theorem spec_SecCut.bits8 : waitsOk spec_SecCut.T8.2 spec_SecCut.B8 = true := by kernel_rfl
set_option maxHeartbeats 8000000 in
set_option maxRecDepth 100000 in
theorem spec_SecCut.calls (k : Nat) (A0_0 : Option Addr) (c0_0 : Nat) (l0_0 : List ByteArray) (A0_1 : Option Addr) (c0_1 : Nat) (l0_1 : List (S75)) (A1 : Option Addr) (c1 : Nat) (l1 : List Int) (r1 : List ByteArray) (r2 : List (S75)) (w : World) (hr0_0 : Kd.C Kd.string w A0_0 l0_0.length l0_0) (hc0_0 : l0_0.length ≤ c0_0) (hr0_1 : Kd.C k75 w A0_1 l0_1.length l0_1) (hc0_1 : l0_1.length ≤ c0_1) (hr1 : Kd.C (Kd.int .i64) w A1 l1.length l1) (hc1 : l1.length ≤ c1) (h : spec_SecCut.f k l0_0 l0_1 l1 = some (r1, r2)) :
  Calls Try.prog 70 #[.agg #[.slice A0_0 l0_0.length c0_0,.slice A0_1 l0_1.length c0_1],.slice A1 l1.length c1] w fun e w'=>∃ v0_ v1_:Value,e=.returned (.agg #[v0_,v1_])∧Kd.R Kd.string 9 w' w.heap.size (fun _=>True) v0_ r1∧Kd.R k75 75 w' w.heap.size (fun _=>True) v1_ r2∧Below w.heap.size w w':=by
 have hu31:=Try.underlying31;have hu75:=Try.underlying75;have HR0_0:=Aside0.mk hr0_0;have HC0_0:=Aside0.mk hc0_0;clear hr0_0 hc0_0;have HR0_1:=Aside0.mk hr0_1;have HC0_1:=Aside0.mk hc0_1;clear hr0_1 hc0_1;have HR1:=Aside0.mk hr1;have HC1:=Aside0.mk hc1;clear hr1 hc1;have HB:=Aside0.mk (Below.refl w.heap.size w);have H:((spec_SecOk.f k l0_0 l0_1).bind fun t641=>(if t641=true then (spec_SecCut.l0 k l1 0 l0_0 l0_1 l0_0 ([]:List (S75))) else (some (([]:List ByteArray),([]:List (S75))))))=some (r1,r2):=h;clear h;replace H:=Option.bind_eq_some_iff.mp H;obtain ⟨t641,A30,H⟩:=H
 (try dsimp only at H)
 have A3:=Aside0.mk A30;clear A30
 by_cases c4:t641=true
 ·subst c4;rw [if_pos rfl] at H;have H':=Aside0.mk H;clear H
  go_enter Try.func70,Try.ntmps70
  go_wp2_with (first|((with_reducible refine gate_dst (N:=2) rfl ?_);refine box_event ?hg (N:=2) ?hd (cs:=#[.slice A0_0 l0_0.length c0_0,.slice A0_1 l0_1.length c0_1]) (t:=31) ?hr ?_;(case hd=>rfl);(case hg=>rfl);(case hr=>first|(go_simp;done)|(go_simp;rfl));intro gb639 hg w5 hbox hb;have n0_:=Aside0.mk (below_step (pB HB.out) hb);have n1_:=Aside0.mk (hbox);have n2_:=Aside0.mk ((by rw [hg];exact (below_size (pB HB.out)):w.heap.size≤gb639));have n3_:=Aside0.mk ((by rw [hg];exact (below_size (pB HB.out)):w.heap.size≤gb639));clear HB;have HB:=n0_;have BK639:=n1_;have GW639:=n2_;have GE639:=n3_;clear n0_ n1_ n2_ n3_;clear hb hbox hg)|((with_reducible refine gate_dst (N:=4) rfl ?_);refine box_event ?hg (N:=4) ?hd (cs:=#[.slice none 0 0,.slice none 0 0]) (t:=31) ?hr ?_;(case hd=>rfl);(case hg=>rfl);(case hr=>first|(go_simp;done)|(go_simp;rfl));intro gb640 hg w6 hbox hb;have n0_:=Aside0.mk (blk_below (pK BK639.out) hb);have n1_:=Aside0.mk (below_step (pS HB.out) hb);have n2_:=Aside0.mk (hbox);have n3_:=Aside0.mk ((by rw [hg];exact (below_size (pS HB.out)):w.heap.size≤gb640));have n4_:=Aside0.mk ((by rw [hg];exact (below_size (pS HB.out)):w.heap.size≤gb640));have n5_:=Aside0.mk ((by rw [hg];exact Nat.ne_of_lt (blk_lt (pK BK639.out)):gb639≠gb640));have n6_:=Aside0.mk ((by rw [hg];exact Nat.ne_of_gt (blk_lt (pK BK639.out)):gb640≠gb639));clear BK639;clear HB;have BK639:=n0_;have HB:=n1_;have BK640:=n2_;have GW640:=n3_;have GE640:=n4_;have NB639_640:=n5_;have NB640_639:=n6_;clear n0_ n1_ n2_ n3_ n4_ n5_ n6_;clear hb hbox hg;have hnb7:=NB639_640.out;have hnc7:=NB640_639.out;obtain ⟨hcz8_0,hcz8_1,hfz8_0,hfz8_1⟩:=box2 BK639.out)|((with_reducible refine gate_callee (f:=68) rfl ?_);refine goesL_ (some 8) rfl rfl Try.func68 (by kernel_rfl) rfl #[.agg #[.slice A0_0 l0_0.length c0_0,.slice A0_1 l0_1.length c0_1]] rfl bM ?_;(with_reducible refine (spec_SecOk.calls k _ _ l0_0 _ _ l0_1 true _ ?side1 ?side2 ?side3 ?side4 A3.out).mono ?_);(case side1=>exact pC (Kd.C_below HR0_0.out HB.out));(case side2=>exact HC0_0.out);(case side3=>exact pC (Kd.C_below HR0_1.out HB.out));(case side4=>exact HC0_1.out);rintro e w9 ⟨rfl,hb⟩;refine ⟨_,rfl,?_⟩;have n0_:=Aside0.mk (blk_below (pK BK639.out) hb);have n1_:=Aside0.mk (blk_below (pK BK640.out) hb);have n2_:=Aside0.mk (below_step (pS HB.out) hb);clear BK639;clear BK640;clear HB;have BK639:=n0_;have BK640:=n1_;have HB:=n2_;clear n0_ n1_ n2_;(try clear hb);(try clear hb2);(try clear hk);(try clear hi);obtain ⟨hcz10_0,hcz10_1,hfz10_0,hfz10_1⟩:=box2 BK639.out)|((with_reducible refine gate_dst (N:=5) rfl ?_);refine box_event ?hg (N:=5) ?hd (cs:=#[.slice none 0 0,.slice none 0 0]) (t:=31) ?hr ?_;(case hd=>rfl);(case hg=>rfl);(case hr=>first|(go_simp;done)|(go_simp;rfl));intro gb642 hg w11 hbox hb;have n0_:=Aside0.mk (blk_below (pK BK639.out) hb);have n1_:=Aside0.mk (blk_below (pK BK640.out) hb);have n2_:=Aside0.mk (below_step (pS HB.out) hb);have n3_:=Aside0.mk (hbox);have n4_:=Aside0.mk ((by rw [hg];exact (below_size (pS HB.out)):w.heap.size≤gb642));have n5_:=Aside0.mk ((by rw [hg];exact (below_size (pS HB.out)):w.heap.size≤gb642));have n6_:=Aside0.mk ((by rw [hg];exact Nat.ne_of_lt (blk_lt (pK BK639.out)):gb639≠gb642));have n7_:=Aside0.mk ((by rw [hg];exact Nat.ne_of_gt (blk_lt (pK BK639.out)):gb642≠gb639));have n8_:=Aside0.mk ((by rw [hg];exact Nat.ne_of_lt (blk_lt (pK BK640.out)):gb640≠gb642));have n9_:=Aside0.mk ((by rw [hg];exact Nat.ne_of_gt (blk_lt (pK BK640.out)):gb642≠gb640));clear BK639;clear BK640;clear HB;have BK639:=n0_;have BK640:=n1_;have HB:=n2_;have BK642:=n3_;have GW642:=n4_;have GE642:=n5_;have NB639_642:=n6_;have NB642_639:=n7_;have NB640_642:=n8_;have NB642_640:=n9_;clear n0_ n1_ n2_ n3_ n4_ n5_ n6_ n7_ n8_ n9_;clear hb hbox hg;have hnb12:=NB642_639.out;have hnc12:=NB639_642.out;have hnb13:=NB642_640.out;have hnc13:=NB640_642.out;obtain ⟨hcz14_0,hcz14_1,hfz14_0,hfz14_1⟩:=box2 BK642.out))
  go_loopg [6] k (fun kq v6 w'=>∃ (x6_1:Int) (x643001_1:List (S75)) (u643001:Value),v6=.int .i64 x6_1∧Aside0 (spec_SecCut.l0 kq l1 x6_1 l0_0 l0_1 l0_0 x643001_1=some (r1,r2))∧Aside0 (kq≤k)∧Aside0 (Kd.R k75 75 w' w.heap.size (fun _=>True) u643001 x643001_1)∧Aside0 (w'.heap[gb639]?=some (.cells #[(.slice A0_0 l0_0.length c0_0),(.slice A0_1 l0_1.length c0_1)] 31 (0,0)))∧Aside0 (w'.heap[gb640]?=some (.cells #[(.slice none 0 0),(.slice none 0 0)] 31 (0,0)))∧Aside0 (w'.heap[gb642]?=some (.cells #[(.slice A0_0 l0_0.length c0_0),u643001] 31 (0,0)))∧Aside0 (Below w.heap.size w w'))
  case atStart=>exact ⟨(0),(([]:List (S75))),(.slice none 0 0),(by first|rfl|(simp;done)|(simp [*];done)),H',⟨Nat.le_refl _⟩,⟨by first|exact Kd.R_nil _ _ _ _ _|exact Kd.N_nil _ _ _ _ _|exact Kd.V_nil _ _ _ _ _|exact Kd.Q_nil _ _ _ _ _|exact Kd.S_nil _ _ _ _ _⟩,⟨pF BK639.out⟩,⟨pF BK640.out⟩,⟨by (with_reducible repeat (first|refine blk_drewN ?_ _|refine blk_drew ?_|refine blk_alloc ?_ _));refine blk_put (cs:=#[.slice A0_0 l0_0.length c0_0,.slice none 0 0]) ?_ 1 _ rfl;(with_reducible repeat (first|refine blk_drewN ?_ _|refine blk_drew ?_|refine blk_alloc ?_ _));refine blk_put (cs:=#[.slice none 0 0,.slice none 0 0]) ?_ 0 _ rfl;(with_reducible repeat (first|refine blk_drewN ?_ _|refine blk_drew ?_|refine blk_alloc ?_ _));exact BK642.out⟩,⟨pS HB.out⟩⟩
  case round =>
   clear H'
   (try clear c1)
   (try clear p2)
   (try clear c4)
   (try clear c6)
   (try clear c7)
   (try clear c12)
   (try clear c13)
   (try clear hcz10_0)
   (try clear hcz10_1)
   (try clear hcz14_0)
   (try clear hcz14_1)
   (try clear hcz8_0)
   (try clear hcz8_1)
   (try clear hfz10_0)
   (try clear hfz10_1)
   (try clear hfz14_0)
   (try clear hfz14_1)
   (try clear hfz8_0)
   (try clear hfz8_1)
   obtain ⟨x6_1,x643001_1,u643001,rfl,HA,HK1,HO_643001,BK639,BK640,BK642,HB⟩:=hrel
   cases gk with
   | zero=>exact absurd HA.out (by simp [spec_SecCut.l0])
   | succ k1 =>
    have H:=HA.out;clear HA;simp only [spec_SecCut.l0] at H
    by_cases c15:x6_1<(l0_1.length:Int)
    ·rw [if_pos c15] at H;have c15b0:decide (x6_1<(l0_1.length:Int))=true:=decide_eq_true c15;clear c15
     by_cases c16:x6_1<(l1.length:Int)
     ·rw [if_pos c16] at H;have c16b0:decide (x6_1<(l1.length:Int))=true:=decide_eq_true c16;clear c16
      by_cases c17:0≤x6_1
      ·rw [if_pos c17] at H;have c17b0:decide (0≤x6_1)=true:=decide_eq_true c17;clear c17
       by_cases c18:(rd l1 x6_1)=0
       ·rw [if_pos c18] at H;have c18b0:((rd l1 x6_1) == 0)=true:=beq_iff_eq.mpr c18;have c18b1:((rd l1 x6_1) != 0)=false:=bne_eq_false_iff_eq.mpr c18;clear c18;have H':=Aside0.mk H;clear H;have hnb19:=NB639_640.out;have hnc19:=NB640_639.out;have hnb20:=NB639_642.out;have hnc20:=NB642_639.out;obtain ⟨hcz21_0,hcz21_1,hfz21_0,hfz21_1⟩:=box2 BK639.out;have p643:0≤(x6_1:Int):=of_decide_eq_true bA;have q643:x6_1<(l1.length:Int):=of_decide_eq_true bA;obtain ⟨ad643,e643,hx643_0⟩:=Kd.at_int HR1.out x6_1 p643 q643;cases e643;replace hx643_0:=(HB.out.cell (World.block_lt_of_cell? w _ hx643_0)).trans hx643_0;replace p643:=eq_true p643;replace q643:=eq_true q643
        go_wp2
        go_roundg k1
        case measure=>have:=HK1.out;omega
        case rel=>exact ⟨(wrap64 (x6_1+1)),(x643001_1),(u643001),(by first|rfl|(simp;done)|(simp [*];done)),H',⟨by have:=HK1.out;omega⟩,⟨pR HO_643001.out⟩,⟨pK BK639.out⟩,⟨pK BK640.out⟩,⟨pK BK642.out⟩,⟨pS HB.out⟩⟩
       ·rw [if_neg c18] at H;have c18b0:((rd l1 x6_1) == 0)=false:=beq_eq_false_iff_ne.mpr c18;have c18b1:((rd l1 x6_1) != 0)=true:=bne_iff_ne.mpr c18
        by_cases c22:x643001_1.length<5864062014805
        ·rw [if_pos c22] at H;have LMc22:=Aside0.mk c22;clear c22;obtain ⟨y645,hy645⟩:∃ y_:List (S75),y_=(x643001_1 ++ [(⟨(rd_T75 l0_1 x6_1).f0,(rd_T75 l0_1 x6_1).f1⟩:S75)]):=⟨_,rfl⟩
         replace H:(spec_SecCut.l0 k1 l1 (wrap64 (x6_1+1)) l0_0 l0_1 l0_0 y645)=some (r1,r2):=by first|(rw [hy645];with_reducible exact H)|(have H2_:=(Option.bind_some _ _).symm.trans H;rw [hy645];with_reducible exact H2_)|(have H2_:=(Option.bind_some _ _).symm.trans H;with_reducible exact H2_)|with_reducible exact H|(rw [hy645];exact H)|exact H
         have Ny645:=Aside0.mk hy645;clear hy645;have H':=Aside0.mk H;clear H;have hnb23:=NB639_640.out;have hnc23:=NB640_639.out;have hnb24:=NB639_642.out;have hnc24:=NB642_639.out;obtain ⟨hcz25_0,hcz25_1,hfz25_0,hfz25_1⟩:=box2 BK639.out;have p643:0≤(x6_1:Int):=of_decide_eq_true bA;have q643:x6_1<(l1.length:Int):=of_decide_eq_true bA;obtain ⟨ad643,e643,hx643_0⟩:=Kd.at_int HR1.out x6_1 p643 q643;cases e643;replace hx643_0:=(HB.out.cell (World.block_lt_of_cell? w _ hx643_0)).trans hx643_0;replace p643:=eq_true p643;replace q643:=eq_true q643
         try go_wp2
         have n0_:=Aside0.mk (Kd.R_drew HO_643001.out);have n1_:=Aside0.mk (blk_drew BK639.out);have n2_:=Aside0.mk (blk_drew BK640.out);have n3_:=Aside0.mk (blk_drew BK642.out);have n4_:=Aside0.mk (below_drew1 HB.out);clear HO_643001;clear BK639;clear BK640;clear BK642;clear HB;have HO_643001:=n0_;have BK639:=n1_;have BK640:=n2_;have BK642:=n3_;have HB:=n4_;clear n0_ n1_ n2_ n3_ n4_;have p644:0≤(x6_1:Int):=of_decide_eq_true bA;have q644:x6_1<(l0_1.length:Int):=of_decide_eq_true bA;obtain ⟨ad644,e644,hx644_0,hx644_1⟩:=at_T75 HR0_1.out x6_1 p644 q644;have hw644_1:=hx644_1;have hw644_0:=hx644_0;cases e644;replace hx644_0:=(HB.out.cell (World.block_lt_of_cell? w _ hx644_0)).trans hx644_0;replace hx644_1:=(HB.out.cell (World.block_lt_of_cell? w _ hx644_1)).trans hx644_1;replace p644:=eq_true p644;replace q644:=eq_true q644
         refine start_ (n:=11) (S:=fun w'=>w'.cell? ⟨gb642,0,none⟩=some (.slice A0_0 l0_0.length c0_0)∧w'.cell? ⟨gb642,1,none⟩=some (u643001)∧w'.cell? ⟨gb639,0,none⟩=some (.slice A0_0 l0_0.length c0_0)∧w'.cell? ⟨gb639,1,none⟩=some (.slice (some ad644) l0_1.length c0_1)∧w'.cell? (ad644.add ((x6_1).toNat * 2))=some (.int .i64 ((rd_T75 l0_1 x6_1).f0))∧w'.cell? ⟨(ad644.add ((x6_1).toNat * 2)).block,(ad644.add ((x6_1).toNat * 2)).off+1,none⟩=some (.string ((rd_T75 l0_1 x6_1).f1))) (ds:=[10]) #[false,false,false,false,false,false,false,false,false,false,false] (by kernel_rfl) rfl rfl ⟨(blk_cell BK642.out 0).trans rfl,(blk_cell BK642.out 1).trans rfl,(blk_cell BK639.out 0).trans rfl,(blk_cell BK639.out 1).trans rfl,((HB.out.cell (World.block_lt_of_cell? w _ hw644_0)).trans hw644_0),((HB.out.cell (World.block_lt_of_cell? w _ hw644_1)).trans hw644_1)⟩ (fun hHeld=>?_);refine with_tabW spec_SecCut.tab8 spec_SecCut.bits8 (fun HT_ HW_=>?_)
         generalize wr.drew=w26 at HO_643001 BK639 BK640 BK642 HB hx644_0 hx644_1 hHeld ⊢
         refine pure_ (i:=0) (N:=some 32) (v:=?_) (a':=?_) #[true,false,false,false,false,false,false,false,false,false,false] rfl rfl (any_of HT_.out (by kernel_rfl)) (fun _ _ _ h=>h) (Or.inl ⟨by rfl,?_⟩) ?_ ?_
         rotate_left
         ·intro w';go_simp;with_reducible rfl
         rotate_left
         ·simp only [Act.put,List.setIfInBounds_toArray,List.set_cons_zero,List.set_cons_succ,i64_w,i32_w];rfl
         refine pure_ (i:=2) (N:=some 34) (v:=?_) (a':=?_) #[true,false,true,false,false,false,false,false,false,false,false] rfl rfl (any_of HT_.out (by kernel_rfl)) (fun _ _ _ h=>h) (Or.inl ⟨by rfl,?_⟩) ?_ ?_
         rotate_left
         ·intro w';go_simp;with_reducible rfl
         rotate_left
         ·simp only [Act.put,List.setIfInBounds_toArray,List.set_cons_zero,List.set_cons_succ,i64_w,i32_w];rfl
         refine pure_ (i:=4) (N:=some 36) (v:=?_) (a':=?_) #[true,false,true,false,true,false,false,false,false,false,false] rfl rfl (any_of HT_.out (by kernel_rfl)) (fun _ _ _ h=>h) (Or.inl ⟨by rfl,?_⟩) ?_ ?_
         rotate_left
         ·intro w';go_simp;with_reducible rfl
         rotate_left
         ·simp only [Act.put,List.setIfInBounds_toArray,List.set_cons_zero,List.set_cons_succ,i64_w,i32_w];rfl
         refine take_ (i:=1) (N:=some 33) (v:=?_) (a':=?_) #[true,true,true,false,true,false,false,false,false,false,false] rfl rfl (take_ofW HT_.out HW_.out (by kernel_rfl)) (fun _ _ _ h=>h) (Or.inl ⟨by rfl,?_⟩) hHeld ?_ ?_
         rotate_left
         ·rintro w' ⟨s0,s1,s2,s3,s4,s5⟩;go_simp;with_reducible rfl
         rotate_left
         ·simp only [Act.put,List.setIfInBounds_toArray,List.set_cons_zero,List.set_cons_succ,i64_w,i32_w];rfl
         refine take_ (i:=3) (N:=some 35) (v:=?_) (a':=?_) #[true,true,true,true,true,false,false,false,false,false,false] rfl rfl (take_ofW HT_.out HW_.out (by kernel_rfl)) (fun _ _ _ h=>h) (Or.inl ⟨by rfl,?_⟩) hHeld ?_ ?_
         rotate_left
         ·rintro w' ⟨s0,s1,s2,s3,s4,s5⟩;go_simp;with_reducible rfl
         rotate_left
         ·simp only [Act.put,List.setIfInBounds_toArray,List.set_cons_zero,List.set_cons_succ,i64_w,i32_w];rfl
         refine pure_ (i:=5) (N:=some 37) (v:=?_) (a':=?_) #[true,true,true,true,true,true,false,false,false,false,false] rfl rfl (any_of HT_.out (by kernel_rfl)) (fun _ _ _ h=>h) (Or.inl ⟨by rfl,?_⟩) ?_ ?_
         rotate_left
         ·intro w';go_simp;with_reducible rfl
         rotate_left
         ·simp only [Act.put,List.setIfInBounds_toArray,List.set_cons_zero,List.set_cons_succ,i64_w,i32_w];rfl
         refine take_ (i:=6) (N:=some 38) (v:=?_) (a':=?_) #[true,true,true,true,true,true,true,false,false,false,false] rfl rfl (take_ofW HT_.out HW_.out (by kernel_rfl)) (fun _ _ _ h=>h) (Or.inl ⟨by rfl,?_⟩) hHeld ?_ ?_
         rotate_left
         ·rintro w' ⟨s0,s1,s2,s3,s4,s5⟩;go_simp;with_reducible rfl
         rotate_left
         ·simp only [Act.put,List.setIfInBounds_toArray,List.set_cons_zero,List.set_cons_succ,i64_w,i32_w];rfl
         refine one_ (i:=7) (N:=some 39) #[true,true,true,true,true,true,true,true,false,false,false] rfl rfl (one_of HT_.out (by kernel_rfl)) (by decide) (fun K hK=>?_)
         refine value_ (w1:=?_) (v:=?_) (by rfl) rfl ?_ ?_
         rotate_left 2
         ·go_simp
          constructor
          ·rfl
          ·rfl
         refine hK.out _ _ ⟨(blk_cell (blk_alloc BK642.out _) 0).trans rfl,(blk_cell (blk_alloc BK642.out _) 1).trans rfl,(blk_cell (blk_alloc BK639.out _) 0).trans rfl,(blk_cell (blk_alloc BK639.out _) 1).trans rfl,(World.cell?_alloc_lt _ _ _ (World.block_lt_of_cell? _ _ (((HB.out.cell (World.block_lt_of_cell? w _ hw644_0)).trans hw644_0)))).trans (((HB.out.cell (World.block_lt_of_cell? w _ hw644_0)).trans hw644_0)),(World.cell?_alloc_lt _ _ _ (World.block_lt_of_cell? _ _ (((HB.out.cell (World.block_lt_of_cell? w _ hw644_1)).trans hw644_1)))).trans (((HB.out.cell (World.block_lt_of_cell? w _ hw644_1)).trans hw644_1))⟩ (fun hHeld=>?_);clear hK K;refine norm_ (a':=?_) ?_ ?_;rotate_left
         ·show Act.put _ (some 39) _=_
          simp only [Act.put,List.setIfInBounds_toArray,List.set_cons_zero,List.set_cons_succ,i64_w,i32_w];rfl
         refine one_ (i:=8) (N:=some 40) #[true,true,true,true,true,true,true,true,true,false,false] rfl rfl (one_of HT_.out (by kernel_rfl)) (by decide) (fun K hK=>?_)
         refine Kd.R_append_step k75 (w0:=w) w.heap.size (by rfl) (.tmp 33) (.tmp 39) 29 75 (.agg #[(.int .i64 0),(.string ⟨#[]⟩)]) 24 rfl Try.underlying29 info75 rfl (by decide) (by omega) u643001 x643001_1 (⟨(rd_T75 l0_1 x6_1).f0,(rd_T75 l0_1 x6_1).f1⟩:S75) [.int .i64 ((rd_T75 l0_1 x6_1).f0),.string ((rd_T75 l0_1 x6_1).f1)] (fun _=>True) (fun _=>False) rfl rfl ?aP (fun _ hk=>hk.elim) ?aF ?aO ?aB ?aS ?aL ?_
         (case aP=>exact k75_mkM _ _ _ (⟨(rd_T75 l0_1 x6_1).f0,(rd_T75 l0_1 x6_1).f1⟩:S75))
         (case aB=>exact (pS HB.out))
         (case aF=>exact (fun _ _=>trivial))
         (case aO=>exact (pR HO_643001.out))
         (case aS=>exact (below_size (pS HB.out)))
         (case aL=>have:=LMc22.out;omega)
         intro v646 w27 ho hb hg hat;rw [← Ny645.out] at ho
         have n0_:=Aside0.mk (blk_grown (g:=gb639) (o:=.cells #[.slice A0_0 l0_0.length c0_0,.slice (some ad644) l0_1.length c0_1] 31 (0,0)) (pK BK639.out) hg (Kd.R_ne HO_643001.out BK639.out (by decide)))
         have n1_:=Aside0.mk (blk_grown (g:=gb640) (o:=.cells #[.slice none 0 0,.slice none 0 0] 31 (0,0)) (pK BK640.out) hg (Kd.R_ne HO_643001.out BK640.out (by decide)))
         have n2_:=Aside0.mk (blk_grown (g:=gb642) (o:=.cells #[.slice A0_0 l0_0.length c0_0,u643001] 31 (0,0)) (pK BK642.out) hg (Kd.R_ne HO_643001.out BK642.out (by decide)))
         have n3_:=Aside0.mk (hb);have n4_:=Aside0.mk (ho);clear BK639;clear BK640;clear BK642;clear HB;clear HO_643001;have BK639:=n0_;have BK640:=n1_;have BK642:=n2_;have HB:=n3_;have HO647:=n4_;clear n0_ n1_ n2_ n3_ n4_;clear ho hb hg hat;obtain ⟨Ao28,co28,eo28⟩:=Kd.R_slice HO647.out
         (first|subst eo28|(injection eo28 with f1_ f2_ f3_;have f4_:=f1_.symm;have f5_:=f3_.symm;clear f1_ f2_ f3_;subst f4_;subst f5_))
         refine hK.out _ _ ⟨(blk_cell BK642.out 0).trans rfl,(blk_cell BK642.out 1).trans rfl,(blk_cell BK639.out 0).trans rfl,(blk_cell BK639.out 1).trans rfl,((HB.out.cell (World.block_lt_of_cell? w _ hw644_0)).trans hw644_0),((HB.out.cell (World.block_lt_of_cell? w _ hw644_1)).trans hw644_1)⟩ (fun hHeld=>?_);clear hK K;refine norm_ (a':=?_) ?_ ?_;rotate_left
         ·show Act.put _ (some 40) _=_
          simp only [Act.put,List.setIfInBounds_toArray,List.set_cons_zero,List.set_cons_succ,i64_w,i32_w];rfl
         refine pure_ (i:=9) (N:=some 41) (v:=?_) (a':=?_) #[true,true,true,true,true,true,true,true,true,true,false] rfl rfl (any_of HT_.out (by kernel_rfl)) (fun _ _ _ h=>h) (Or.inl ⟨by rfl,?_⟩) ?_ ?_
         rotate_left
         ·intro w';go_simp;with_reducible rfl
         rotate_left
         ·simp only [Act.put,List.setIfInBounds_toArray,List.set_cons_zero,List.set_cons_succ,i64_w,i32_w];rfl
         refine last_ (i:=10) (N:=none) #[true,true,true,true,true,true,true,true,true,true,true] rfl rfl (one_of HT_.out (by kernel_rfl)) (by decide) (fun K hK=>?_)
         have hs29:w27.cell? ⟨gb642,1,none⟩=some (u643001):=(blk_cell BK642.out 1).trans rfl;have hfs29:=blk_frozen BK642.out 1;have hns29_0:=NB639_642.out;have hns29_1:=NB640_642.out;have hms29_0:=NB642_639.out;have hms29_1:=NB642_640.out
         refine skip_ (w1:=?_) (by rfl) rfl ?_ ?_
         rotate_left
         ·go_simp;rfl
         refine hK.out _ _ ?_;clear hK K
         refine done_ (done_of HT_.out (by kernel_rfl)) ?_
         try go_wp2
         go_roundg k1
         case measure=>have:=HK1.out;omega
         case rel=>exact ⟨(wrap64 (x6_1+1)),(y645),(.slice Ao28 y645.length co28),(by first|rfl|(simp;done)|(simp [*];done)),H',⟨by have:=HK1.out;omega⟩,⟨pR (Kd.R_mono (Kd.R_far (p:=⟨gb642,1,none⟩) (Kd.R_types HO647.out BK642.out (by decide)) (fun _ hk=>hk.2) (.slice Ao28 y645.length co28)) (fun _ hk=>trivial))⟩,⟨pF BK639.out⟩,⟨pF BK640.out⟩,⟨by (with_reducible repeat (first|refine blk_drewN ?_ _|refine blk_drew ?_|refine blk_alloc ?_ _));refine blk_put (cs:=#[.slice A0_0 l0_0.length c0_0,u643001]) ?_ 1 _ rfl;(with_reducible repeat (first|refine blk_drewN ?_ _|refine blk_drew ?_|refine blk_alloc ?_ _));exact BK642.out⟩,⟨pS HB.out⟩⟩
        ·rw [if_neg c22] at H
         exact absurd H (by simp)
      ·rw [if_neg c17] at H
       exact absurd H (by simp)
     ·rw [if_neg c16] at H;have c16b0:decide (x6_1<(l1.length:Int))=false:=decide_eq_false c16;clear c16;have H':=Aside0.mk H;clear H;have hnb30:=NB639_640.out;have hnc30:=NB640_639.out;have hnb31:=NB639_642.out;have hnc31:=NB642_639.out;obtain ⟨hcz32_0,hcz32_1,hfz32_0,hfz32_1⟩:=box2 BK639.out
      go_wp2
      go_roundg k1
      case measure=>have:=HK1.out;omega
      case rel=>exact ⟨(wrap64 (x6_1+1)),(x643001_1),(u643001),(by first|rfl|(simp;done)|(simp [*];done)),H',⟨by have:=HK1.out;omega⟩,⟨pR HO_643001.out⟩,⟨pK BK639.out⟩,⟨pK BK640.out⟩,⟨pK BK642.out⟩,⟨pS HB.out⟩⟩
    ·rw [if_neg c15] at H;have c15b0:decide (x6_1<(l0_1.length:Int))=false:=decide_eq_false c15;clear c15;replace H:=Option.bind_eq_some_iff.mp H;obtain ⟨⟨t648,t651⟩,A330,H⟩:=H
     (try dsimp only at H)
     have A33:=Aside0.mk A330;clear A330;simp only [Option.some.injEq,Prod.mk.injEq] at H;obtain ⟨rfl,rfl⟩:=H;have hnb34:=NB639_640.out;have hnc34:=NB640_639.out;have hnb35:=NB639_642.out;have hnc35:=NB642_639.out;obtain ⟨hcz36_0,hcz36_1,hfz36_0,hfz36_1⟩:=box2 BK639.out;have hnb37:=NB642_640.out;have hnc37:=NB640_642.out;obtain ⟨hcz38_0,hcz38_1,hfz38_0,hfz38_1⟩:=box2 BK642.out;obtain ⟨Ao39,co39,eo39⟩:=Kd.R_slice HO_643001.out;subst eo39
     go_wp2_with (first|((with_reducible refine gate_callee (f:=45) rfl ?_);refine goesL_ (some 43) rfl rfl Try.func45 (by kernel_rfl) rfl #[.agg #[.slice A0_0 l0_0.length c0_0,.slice Ao39 x643001_1.length co39]] rfl bM ?_;(with_reducible refine (spec_SecFlush.calls k1 _ _ l0_0 _ _ x643001_1 t648 t651 _ ?side1 ?side2 ?side3 ?side4 A33.out).mono ?_);(case side1=>exact pC (Kd.C_below HR0_0.out HB.out));(case side2=>exact HC0_0.out);(case side3=>exact pC (Kd.R_reads' HO_643001.out).2.2);(case side4=>exact (Kd.R_reads' HO_643001.out).2.1);rintro e w40 ⟨v649,v652,rfl,ho0,ho1,hb⟩;refine ⟨_,rfl,?_⟩;have n0_:=Aside0.mk (Kd.R_elder' (pR HO_643001.out) (Kd.R_base ho1) hb);have n1_:=Aside0.mk (Kd.R_lower ho0 (below_size (pS HB.out)));have n2_:=Aside0.mk (Kd.R_lower (Kd.R_new' ho1 (Kd.R_lt (pR HO_643001.out))) (below_size (pS HB.out)));have n3_:=Aside0.mk (blk_below (pK BK639.out) hb);have n4_:=Aside0.mk (blk_below (pK BK640.out) hb);have n5_:=Aside0.mk (blk_below (pK BK642.out) hb);have n6_:=Aside0.mk (below_step (pS HB.out) hb);clear HO_643001;clear BK639;clear BK640;clear BK642;clear HB;have HO_643001:=n0_;have HO650:=n1_;have HO653:=n2_;have BK639:=n3_;have BK640:=n4_;have BK642:=n5_;have HB:=n6_;clear n0_ n1_ n2_ n3_ n4_ n5_ n6_;(try clear hb);(try clear hb2);(try clear hk);(try clear hi);(try clear ho0);(try clear ho1);obtain ⟨Ao41,co41,eo41⟩:=Kd.R_slice HO650.out;subst eo41;obtain ⟨hcz42_0,hcz42_1,hfz42_0,hfz42_1⟩:=box2 BK640.out;obtain ⟨Ao43,co43,eo43⟩:=Kd.R_slice HO653.out;subst eo43))
     refine bodyPost_ret (results_cell_row rfl _ _ gb640 31 #[.slice Ao41 t648.length co41,.slice Ao43 t651.length co43] (0,0) _ rfl (by (with_reducible repeat (first|refine blk_drewN ?_ _|refine blk_drew ?_|refine blk_alloc ?_ _));refine blk_put (cs:=#[.slice Ao41 t648.length co41,.slice none 0 0]) ?_ 1 _ rfl;(with_reducible repeat (first|refine blk_drewN ?_ _|refine blk_drew ?_|refine blk_alloc ?_ _));refine blk_put (cs:=#[.slice none 0 0,.slice none 0 0]) ?_ 0 _ rfl;(with_reducible repeat (first|refine blk_drewN ?_ _|refine blk_drew ?_|refine blk_alloc ?_ _));exact BK640.out) Try.underlying31 rfl (by kernel_rfl)) rfl ?_
     exact ⟨_,_,by first|rfl|(simp [errW_none,errW_some]<;>rfl)|(simp [*,errW_none,errW_some]<;>rfl),pR (Kd.R_mono (Kd.R_far (p:=⟨gb640,1,none⟩) (Kd.R_far (p:=⟨gb640,0,none⟩) (Kd.R_types HO650.out BK640.out (by decide)) (fun _ hk=>hk.2) (.slice Ao41 t648.length co41)) (fun _ hk=>hk.2) (.slice Ao43 t651.length co43)) (fun _ hk=>trivial)),pR (Kd.R_mono (Kd.R_far (p:=⟨gb640,1,none⟩) (Kd.R_far (p:=⟨gb640,0,none⟩) (Kd.R_types HO653.out BK640.out (by decide)) (fun _ hk=>hk.2) (.slice Ao41 t648.length co41)) (fun _ hk=>hk.2) (.slice Ao43 t651.length co43)) (fun _ hk=>trivial)),pS HB.out⟩
 ·replace c4:=Bool.eq_false_iff.mpr c4;subst c4
  rw [if_neg (show ¬ (false=true) by decide)] at H
  simp only [Option.some.injEq,Prod.mk.injEq] at H;obtain ⟨rfl,rfl⟩:=H
  go_enter Try.func70,Try.ntmps70
  go_wp2_with (first|((with_reducible refine gate_dst (N:=2) rfl ?_);refine box_event ?hg (N:=2) ?hd (cs:=#[.slice A0_0 l0_0.length c0_0,.slice A0_1 l0_1.length c0_1]) (t:=31) ?hr ?_;(case hd=>rfl);(case hg=>rfl);(case hr=>first|(go_simp;done)|(go_simp;rfl));intro gb639 hg w44 hbox hb;have n0_:=Aside0.mk (below_step (pB HB.out) hb);have n1_:=Aside0.mk (hbox);have n2_:=Aside0.mk ((by rw [hg];exact (below_size (pB HB.out)):w.heap.size≤gb639));have n3_:=Aside0.mk ((by rw [hg];exact (below_size (pB HB.out)):w.heap.size≤gb639));clear HB;have HB:=n0_;have BK639:=n1_;have GW639:=n2_;have GE639:=n3_;clear n0_ n1_ n2_ n3_;clear hb hbox hg)|((with_reducible refine gate_dst (N:=4) rfl ?_);refine box_event ?hg (N:=4) ?hd (cs:=#[.slice none 0 0,.slice none 0 0]) (t:=31) ?hr ?_;(case hd=>rfl);(case hg=>rfl);(case hr=>first|(go_simp;done)|(go_simp;rfl));intro gb640 hg w45 hbox hb;have n0_:=Aside0.mk (blk_below (pK BK639.out) hb);have n1_:=Aside0.mk (below_step (pS HB.out) hb);have n2_:=Aside0.mk (hbox);have n3_:=Aside0.mk ((by rw [hg];exact (below_size (pS HB.out)):w.heap.size≤gb640));have n4_:=Aside0.mk ((by rw [hg];exact (below_size (pS HB.out)):w.heap.size≤gb640));have n5_:=Aside0.mk ((by rw [hg];exact Nat.ne_of_lt (blk_lt (pK BK639.out)):gb639≠gb640));have n6_:=Aside0.mk ((by rw [hg];exact Nat.ne_of_gt (blk_lt (pK BK639.out)):gb640≠gb639));clear BK639;clear HB;have BK639:=n0_;have HB:=n1_;have BK640:=n2_;have GW640:=n3_;have GE640:=n4_;have NB639_640:=n5_;have NB640_639:=n6_;clear n0_ n1_ n2_ n3_ n4_ n5_ n6_;clear hb hbox hg;have hnb46:=NB639_640.out;have hnc46:=NB640_639.out;obtain ⟨hcz47_0,hcz47_1,hfz47_0,hfz47_1⟩:=box2 BK639.out)|((with_reducible refine gate_callee (f:=68) rfl ?_);refine goesL_ (some 8) rfl rfl Try.func68 (by kernel_rfl) rfl #[.agg #[.slice A0_0 l0_0.length c0_0,.slice A0_1 l0_1.length c0_1]] rfl bM ?_;(with_reducible refine (spec_SecOk.calls k _ _ l0_0 _ _ l0_1 false _ ?side1 ?side2 ?side3 ?side4 A3.out).mono ?_);(case side1=>exact pC (Kd.C_below HR0_0.out HB.out));(case side2=>exact HC0_0.out);(case side3=>exact pC (Kd.C_below HR0_1.out HB.out));(case side4=>exact HC0_1.out);rintro e w48 ⟨rfl,hb⟩;refine ⟨_,rfl,?_⟩;have n0_:=Aside0.mk (blk_below (pK BK639.out) hb);have n1_:=Aside0.mk (blk_below (pK BK640.out) hb);have n2_:=Aside0.mk (below_step (pS HB.out) hb);clear BK639;clear BK640;clear HB;have BK639:=n0_;have BK640:=n1_;have HB:=n2_;clear n0_ n1_ n2_;(try clear hb);(try clear hb2);(try clear hk);(try clear hi);obtain ⟨hcz49_0,hcz49_1,hfz49_0,hfz49_1⟩:=box2 BK640.out))
  refine bodyPost_ret (results_cell_row rfl _ _ gb640 31 #[.slice none 0 0,.slice none 0 0] (0,0) _ rfl (by (with_reducible repeat (first|refine blk_drewN ?_ _|refine blk_drew ?_|refine blk_alloc ?_ _));refine blk_put (cs:=#[.slice none 0 0,.slice none 0 0]) ?_ 1 _ rfl;(with_reducible repeat (first|refine blk_drewN ?_ _|refine blk_drew ?_|refine blk_alloc ?_ _));refine blk_put (cs:=#[.slice none 0 0,.slice none 0 0]) ?_ 0 _ rfl;(with_reducible repeat (first|refine blk_drewN ?_ _|refine blk_drew ?_|refine blk_alloc ?_ _));exact BK640.out) Try.underlying31 rfl (by kernel_rfl)) rfl ?_
  exact ⟨_,_,by first|rfl|(simp [errW_none,errW_some]<;>rfl)|(simp [*,errW_none,errW_some]<;>rfl),by first|exact Kd.R_nil _ _ _ _ _|exact Kd.N_nil _ _ _ _ _|exact Kd.V_nil _ _ _ _ _|exact Kd.Q_nil _ _ _ _ _|exact Kd.S_nil _ _ _ _ _,by first|exact Kd.R_nil _ _ _ _ _|exact Kd.N_nil _ _ _ _ _|exact Kd.V_nil _ _ _ _ _|exact Kd.Q_nil _ _ _ _ _|exact Kd.S_nil _ _ _ _ _,pS HB.out⟩

/-! ### spec_SecPut: function 71 -/
mutual
def spec_SecPut.j0 : Nat → Int → ByteArray → List ByteArray → List (S75) → Option (List ByteArray × (List (S75)) × Bool)
 | 0,_,_,_,_=>none
 | k+1,x1,x2,x655000,x655001=>(spec_l1Copy.f x655000 x655001).bind fun bt657=>((spec_l1WriteOk.f (x655000.length:Int) x1 x2).bind fun t664=>(if t664=true then (spec_SecPut.j1 k x1 x2 (decide ((x655001.length:Int) ≥ 600)) bt657.1 bt657.2) else (spec_SecPut.j1 k x1 x2 true bt657.1 bt657.2)))
def spec_SecPut.j1 : Nat → Int → ByteArray → Bool → List ByteArray → List (S75) → Option (List ByteArray × (List (S75)) × Bool)
 | 0,_,_,_,_,_=>none
 | k+1,x1,x2,x27,x664000,x664001=>if x27=true then (some (x664000,x664001,false)) else (if x664001.length<5864062014805 then (some (x664000,(x664001 ++ [(⟨x1,x2⟩:S75)]),true)) else (none))
end
def spec_SecPut.f (k : Nat) (l0_0 : List ByteArray) (l0_1 : List (S75)) (a1 : Int) (a2 : ByteArray) : Option (List ByteArray × (List (S75)) × Bool) := (spec_SecOk.f k l0_0 l0_1).bind fun t656 => (if t656 = true then (spec_SecPut.j0 k a1 a2 l0_0 l0_1) else (some (([] : List ByteArray), ([] : List (S75)), false)))
theorem spec_SecPut.mono_l : ∀ k, (∀ y0 y1 y2 y3, LeO (spec_SecPut.j0 k y0 y1 y2 y3) (spec_SecPut.j0 (k + 1) y0 y1 y2 y3)) ∧ (∀ y0 y1 y2 y3 y4, LeO (spec_SecPut.j1 k y0 y1 y2 y3 y4) (spec_SecPut.j1 (k + 1) y0 y1 y2 y3 y4))
 | 0=>⟨fun _ _ _ _ r h=>by simp [spec_SecPut.j0] at h,fun _ _ _ _ _ r h=>by simp [spec_SecPut.j1] at h⟩
 | k+1=>by
  obtain ⟨ih0,ih1⟩:=spec_SecPut.mono_l k;refine ⟨?_,?_⟩
  ·intro y0 y1 y2 y3
   unfold spec_SecPut.j0
   repeat' first
   | (with_reducible first|exact ih0 _ _ _ _|exact ih1 _ _ _ _ _|exact spec_SecOk.mono _ _ _|exact LeO.refl _|exact LeO.none _|refine LeO.ite ?_ ?_|refine LeO.bind ?_ (fun _=>?_))|exact ih0 _ _ _ _|exact ih1 _ _ _ _ _|exact spec_SecOk.mono _ _ _|exact LeO.none _|refine LeO.ite ?_ ?_|refine LeO.bind ?_ (fun _=>?_)
  ·intro y0 y1 y2 y3 y4
   unfold spec_SecPut.j1
   repeat' first
   | (with_reducible first|exact ih0 _ _ _ _|exact ih1 _ _ _ _ _|exact spec_SecOk.mono _ _ _|exact LeO.refl _|exact LeO.none _|refine LeO.ite ?_ ?_|refine LeO.bind ?_ (fun _=>?_))|exact ih0 _ _ _ _|exact ih1 _ _ _ _ _|exact spec_SecOk.mono _ _ _|exact LeO.none _|refine LeO.ite ?_ ?_|refine LeO.bind ?_ (fun _=>?_)
theorem spec_SecPut.mono : ∀ a0 a1 a2 a3 k, LeO (spec_SecPut.f k a0 a1 a2 a3) (spec_SecPut.f (k + 1) a0 a1 a2 a3) := by
 intro a0 a1 a2 a3 k;obtain ⟨ih0,ih1⟩:=spec_SecPut.mono_l k
 unfold spec_SecPut.f
 repeat' first
   | (with_reducible first|exact ih0 _ _ _ _|exact ih1 _ _ _ _ _|exact spec_SecOk.mono _ _ _|exact LeO.refl _|exact LeO.none _|refine LeO.ite ?_ ?_|refine LeO.bind ?_ (fun _=>?_))|exact ih0 _ _ _ _|exact ih1 _ _ _ _ _|exact spec_SecOk.mono _ _ _|exact LeO.none _|refine LeO.ite ?_ ?_|refine LeO.bind ?_ (fun _=>?_)
set_option maxHeartbeats 8000000 in
set_option maxRecDepth 100000 in
theorem spec_SecPut.calls (k : Nat) (A0_0 : Option Addr) (c0_0 : Nat) (l0_0 : List ByteArray) (A0_1 : Option Addr) (c0_1 : Nat) (l0_1 : List (S75)) (a1 : Int) (a2 : ByteArray) (r1 : List ByteArray) (r2 : List (S75)) (r3 : Bool) (w : World) (hr0_0 : Kd.C Kd.string w A0_0 l0_0.length l0_0) (hc0_0 : l0_0.length ≤ c0_0) (hr0_1 : Kd.C k75 w A0_1 l0_1.length l0_1) (hc0_1 : l0_1.length ≤ c0_1) (h : spec_SecPut.f k l0_0 l0_1 a1 a2 = some (r1, r2, r3)) :
  Calls Try.prog 71 #[.agg #[.slice A0_0 l0_0.length c0_0,.slice A0_1 l0_1.length c0_1],.int .i64 a1,.string a2] w fun e w'=>∃ v0_ v1_:Value,e=.returned (.tuple #[.agg #[v0_,v1_],.bool r3])∧Kd.R Kd.string 9 w' w.heap.size (fun _=>True) v0_ r1∧Kd.R k75 75 w' w.heap.size (fun _=>True) v1_ r2∧Below w.heap.size w w':=by
 have hu31:=Try.underlying31;have hu75:=Try.underlying75;have HR0_0:=Aside0.mk hr0_0;have HC0_0:=Aside0.mk hc0_0;clear hr0_0 hc0_0;have HR0_1:=Aside0.mk hr0_1;have HC0_1:=Aside0.mk hc0_1;clear hr0_1 hc0_1;have HB:=Aside0.mk (Below.refl w.heap.size w);have H:((spec_SecOk.f k l0_0 l0_1).bind fun t656=>(if t656=true then (spec_SecPut.j0 k a1 a2 l0_0 l0_1) else (some (([]:List ByteArray),([]:List (S75)),false))))=some (r1,r2,r3):=h;clear h;replace H:=Option.bind_eq_some_iff.mp H;obtain ⟨t656,A40,H⟩:=H
 (try dsimp only at H)
 have A4:=Aside0.mk A40;clear A40;have HC5:=Aside0.mk H;clear H
 go_enter Try.func71,Try.ntmps71
 go_upto_if 11 with (first|((with_reducible refine gate_dst (N:=3) rfl ?_);(try (refine gate_guard (by rfl) ?_;dsimp only));refine box_event ?hg (N:=3) ?hd (cs:=#[.slice A0_0 l0_0.length c0_0,.slice A0_1 l0_1.length c0_1]) (t:=31) ?hr ?_;(case hd=>rfl);(case hg=>rfl);(case hr=>first|(go_simp;done)|(go_simp;rfl));intro gb654 hg w6 hbox hb;have n0_:=Aside0.mk (below_step (pB HB.out) hb);have n1_:=Aside0.mk (hbox);have n2_:=Aside0.mk ((by rw [hg];exact (below_size (pB HB.out)):w.heap.size≤gb654));have n3_:=Aside0.mk ((by rw [hg];exact (below_size (pB HB.out)):w.heap.size≤gb654));clear HB;have HB:=n0_;have BK654:=n1_;have GW654:=n2_;have GE654:=n3_;clear n0_ n1_ n2_ n3_;clear hb hbox hg)|((with_reducible refine gate_dst (N:=6) rfl ?_);(try (refine gate_guard (by rfl) ?_;dsimp only));refine box_event ?hg (N:=6) ?hd (cs:=#[.slice none 0 0,.slice none 0 0]) (t:=31) ?hr ?_;(case hd=>rfl);(case hg=>rfl);(case hr=>first|(go_simp;done)|(go_simp;rfl));intro gb655 hg w7 hbox hb;have n0_:=Aside0.mk (blk_below (pK BK654.out) hb);have n1_:=Aside0.mk (below_step (pS HB.out) hb);have n2_:=Aside0.mk (hbox);have n3_:=Aside0.mk ((by rw [hg];exact (below_size (pS HB.out)):w.heap.size≤gb655));have n4_:=Aside0.mk ((by rw [hg];exact (below_size (pS HB.out)):w.heap.size≤gb655));have n5_:=Aside0.mk ((by rw [hg];exact Nat.ne_of_lt (blk_lt (pK BK654.out)):gb654≠gb655));have n6_:=Aside0.mk ((by rw [hg];exact Nat.ne_of_gt (blk_lt (pK BK654.out)):gb655≠gb654));clear BK654;clear HB;have BK654:=n0_;have HB:=n1_;have BK655:=n2_;have GW655:=n3_;have GE655:=n4_;have NB654_655:=n5_;have NB655_654:=n6_;clear n0_ n1_ n2_ n3_ n4_ n5_ n6_;clear hb hbox hg;have hnb8:=NB654_655.out;have hnc8:=NB655_654.out;obtain ⟨hcz9_0,hcz9_1,hfz9_0,hfz9_1⟩:=box2 BK654.out)|((with_reducible refine gate_callee (f:=68) rfl ?_);refine goesL_ (some 10) rfl rfl Try.func68 (by kernel_rfl) rfl #[.agg #[.slice A0_0 l0_0.length c0_0,.slice A0_1 l0_1.length c0_1]] rfl bM ?_;(with_reducible refine (spec_SecOk.calls k _ _ l0_0 _ _ l0_1 t656 _ ?side1 ?side2 ?side3 ?side4 A4.out).mono ?_);(case side1=>exact pC (Kd.C_below HR0_0.out HB.out));(case side2=>exact HC0_0.out);(case side3=>exact pC (Kd.C_below HR0_1.out HB.out));(case side4=>exact HC0_1.out);rintro e w10 ⟨rfl,hb⟩;refine ⟨_,rfl,?_⟩;have n0_:=Aside0.mk (blk_below (pK BK654.out) hb);have n1_:=Aside0.mk (blk_below (pK BK655.out) hb);have n2_:=Aside0.mk (below_step (pS HB.out) hb);clear BK654;clear BK655;clear HB;have BK654:=n0_;have BK655:=n1_;have HB:=n2_;clear n0_ n1_ n2_;(try clear hb);(try clear hb2);(try clear hk);(try clear hi)))
 (try simp only [Act.put,List.setIfInBounds_toArray,List.set_cons_zero,List.set_cons_succ])
 go_cut [] (fun wc=>∃ (kq:Nat),Aside0 (spec_SecPut.j0 kq a1 a2 l0_0 l0_1=some (r1,r2,r3))∧Aside0 (kq≤k)∧Aside0 (wc.heap[gb654]?=some (.cells #[(.slice A0_0 l0_0.length c0_0),(.slice A0_1 l0_1.length c0_1)] 31 (0,0)))∧Aside0 (wc.heap[gb655]?=some (.cells #[(.slice none 0 0),(.slice none 0 0)] 31 (0,0)))∧Aside0 (Below w.heap.size w wc))
 case first =>
  have H:=HC5.out;clear HC5
  by_cases c11:t656=true
  ·subst c11;rw [if_pos rfl] at H;have H':=Aside0.mk H;clear H
   go_wp2
   go_meet
   case rel=>exact ⟨_,H',⟨by first|omega|exact Nat.le_refl _⟩,⟨pK BK654.out⟩,⟨pK BK655.out⟩,⟨pS HB.out⟩⟩
  ·replace c11:=Bool.eq_false_iff.mpr c11;subst c11
   rw [if_neg (show ¬ (false=true) by decide)] at H
   simp only [Option.some.injEq,Prod.mk.injEq] at H;obtain ⟨rfl,rfl,rfl⟩:=H;have hnb12:=NB655_654.out;have hnc12:=NB654_655.out;obtain ⟨hcz13_0,hcz13_1,hfz13_0,hfz13_1⟩:=box2 BK655.out
   go_wp2
   refine bodyPost_ret (results_ct rfl _ _ gb655 31 #[.slice none 0 0,.slice none 0 0] (0,0) _ rfl (by (with_reducible repeat (first|refine blk_drewN ?_ _|refine blk_drew ?_|refine blk_alloc ?_ _));refine blk_put (cs:=#[.slice none 0 0,.slice none 0 0]) ?_ 1 _ rfl;(with_reducible repeat (first|refine blk_drewN ?_ _|refine blk_drew ?_|refine blk_alloc ?_ _));refine blk_put (cs:=#[.slice none 0 0,.slice none 0 0]) ?_ 0 _ rfl;(with_reducible repeat (first|refine blk_drewN ?_ _|refine blk_drew ?_|refine blk_alloc ?_ _));exact BK655.out) Try.underlying31 rfl (by kernel_rfl)) rfl ?_
   exact ⟨_,_,by first|rfl|(simp [errW_none,errW_some]<;>rfl)|(simp [*,errW_none,errW_some]<;>rfl),by first|exact Kd.R_nil _ _ _ _ _|exact Kd.N_nil _ _ _ _ _|exact Kd.V_nil _ _ _ _ _|exact Kd.Q_nil _ _ _ _ _|exact Kd.S_nil _ _ _ _ _,by first|exact Kd.R_nil _ _ _ _ _|exact Kd.N_nil _ _ _ _ _|exact Kd.V_nil _ _ _ _ _|exact Kd.Q_nil _ _ _ _ _|exact Kd.S_nil _ _ _ _ _,pS HB.out⟩
 case rest =>
  clear HC5
  (try clear c1)
  (try clear p2)
  (try clear c6)
  (try clear c7)
  (try clear c8)
  (try clear c11)
  (try clear c12)
  (try clear hcz13_0)
  (try clear hcz13_1)
  (try clear hcz9_0)
  (try clear hcz9_1)
  (try clear hfz13_0)
  (try clear hfz13_1)
  (try clear hfz9_0)
  (try clear hfz9_1)
  obtain ⟨kq,HA,HJ4,BK654,BK655,HB⟩:=hcut
  cases kq with
  | zero=>exact absurd HA.out (by simp [spec_SecPut.j0])
  | succ kj4 =>
   have H:=HA.out;clear HA;simp only [spec_SecPut.j0] at H;replace H:=Option.bind_eq_some_iff.mp H;obtain ⟨⟨t657,t660⟩,A140,H⟩:=H
   (try dsimp only at H)
   have A14:=Aside0.mk A140;clear A140;have HC15:=Aside0.mk H;clear H;have hnb16:=NB654_655.out;have hnc16:=NB655_654.out;obtain ⟨hcz17_0,hcz17_1,hfz17_0,hfz17_1⟩:=box2 BK654.out
   go_upto_region 4 with (first|((with_reducible refine gate_callee (f:=69) rfl ?_);refine goesL_ (some 14) rfl rfl Try.func69 (by kernel_rfl) rfl #[.agg #[.slice A0_0 l0_0.length c0_0,.slice A0_1 l0_1.length c0_1]] rfl bM ?_;(with_reducible refine (spec_l1Copy.calls _ _ l0_0 _ _ l0_1 t657 t660 _ ?side1 ?side2 ?side3 ?side4 A14.out).mono ?_);(case side1=>exact pC (Kd.C_below HR0_0.out HB.out));(case side2=>exact HC0_0.out);(case side3=>exact pC (Kd.C_below HR0_1.out HB.out));(case side4=>exact HC0_1.out);rintro e w18 ⟨v658,v661,rfl,ho0,ho1,hb⟩;refine ⟨_,rfl,?_⟩;have n0_:=Aside0.mk (Kd.R_lower ho0 (below_size (pS HB.out)));have n1_:=Aside0.mk (Kd.R_lower ho1 (below_size (pS HB.out)));have n2_:=Aside0.mk (blk_below (pK BK654.out) hb);have n3_:=Aside0.mk (blk_below (pK BK655.out) hb);have n4_:=Aside0.mk (below_step (pS HB.out) hb);clear BK654;clear BK655;clear HB;have HO659:=n0_;have HO662:=n1_;have BK654:=n2_;have BK655:=n3_;have HB:=n4_;clear n0_ n1_ n2_ n3_ n4_;(try clear hb);(try clear hb2);(try clear hk);(try clear hi);(try clear ho0);(try clear ho1))|((with_reducible refine gate_dst (N:=8) rfl ?_);(try (refine gate_guard (by rfl) ?_;dsimp only));refine box_event ?hg (N:=8) ?hd (cs:=#[.slice none 0 0,.slice none 0 0]) (t:=31) ?hr ?_;(case hd=>rfl);(case hg=>rfl);(case hr=>first|(go_simp;done)|(go_simp;rfl));intro gb663 hg w19 hbox hb;have n0_:=Aside0.mk (Kd.R_below (pR HO659.out) hb);have n1_:=Aside0.mk (Kd.R_below (pR HO662.out) hb);have n2_:=Aside0.mk (blk_below (pK BK654.out) hb);have n3_:=Aside0.mk (blk_below (pK BK655.out) hb);have n4_:=Aside0.mk (below_step (pS HB.out) hb);have n5_:=Aside0.mk (hbox);have n6_:=Aside0.mk ((by rw [hg];exact (below_size (pS HB.out)):w.heap.size≤gb663));have n7_:=Aside0.mk ((by rw [hg];exact (below_size (pS HB.out)):w.heap.size≤gb663));have n8_:=Aside0.mk ((by rw [hg];exact Nat.ne_of_lt (blk_lt (pK BK654.out)):gb654≠gb663));have n9_:=Aside0.mk ((by rw [hg];exact Nat.ne_of_gt (blk_lt (pK BK654.out)):gb663≠gb654));have n10_:=Aside0.mk ((by rw [hg];exact Nat.ne_of_lt (blk_lt (pK BK655.out)):gb655≠gb663));have n11_:=Aside0.mk ((by rw [hg];exact Nat.ne_of_gt (blk_lt (pK BK655.out)):gb663≠gb655));clear HO659;clear HO662;clear BK654;clear BK655;clear HB;have HO659:=n0_;have HO662:=n1_;have BK654:=n2_;have BK655:=n3_;have HB:=n4_;have BK663:=n5_;have GW663:=n6_;have GE663:=n7_;have NB654_663:=n8_;have NB663_654:=n9_;have NB655_663:=n10_;have NB663_655:=n11_;clear n0_ n1_ n2_ n3_ n4_ n5_ n6_ n7_ n8_ n9_ n10_ n11_;clear hb hbox hg;obtain ⟨Ao20,co20,eo20⟩:=Kd.R_slice HO659.out;subst eo20;have hnb21:=NB663_654.out;have hnc21:=NB654_663.out;have hnb22:=NB663_655.out;have hnc22:=NB655_663.out;obtain ⟨hcz23_0,hcz23_1,hfz23_0,hfz23_1⟩:=box2 BK663.out;obtain ⟨Ao24,co24,eo24⟩:=Kd.R_slice HO662.out;subst eo24))
   (try simp only [Act.put,List.setIfInBounds_toArray,List.set_cons_zero,List.set_cons_succ])
   go_cut [27] (fun v27 wc=>∃ (kq:Nat) (x27_14:Bool),v27=.bool x27_14∧Aside0 (spec_SecPut.j1 kq a1 a2 x27_14 t657 t660=some (r1,r2,r3))∧Aside0 (kq≤kj4)∧Aside0 (Kd.R Kd.string 9 wc w.heap.size (fun _=>True) (.slice Ao20 t657.length co20) t657)∧Aside0 (Kd.R k75 75 wc w.heap.size (fun _=>True) (.slice Ao24 t660.length co24) t660)∧Aside0 (wc.heap[gb654]?=some (.cells #[(.slice A0_0 l0_0.length c0_0),(.slice A0_1 l0_1.length c0_1)] 31 (0,0)))∧Aside0 (wc.heap[gb655]?=some (.cells #[(.slice none 0 0),(.slice none 0 0)] 31 (0,0)))∧Aside0 (wc.heap[gb663]?=some (.cells #[(.slice Ao20 t657.length co20),(.slice Ao24 t660.length co24)] 31 (0,0)))∧Aside0 (Below w.heap.size w wc))
   case first =>
    have H:=HC15.out;clear HC15;replace H:=Option.bind_eq_some_iff.mp H;obtain ⟨t664,A250,H⟩:=H
    (try dsimp only at H)
    have A25:=Aside0.mk A250;clear A250
    by_cases c26:t664=true
    ·subst c26;rw [if_pos rfl] at H;have H':=Aside0.mk H;clear H;have hnb27:=NB654_655.out;have hnc27:=NB655_654.out;have hnb28:=NB654_663.out;have hnc28:=NB663_654.out;obtain ⟨hcz29_0,hcz29_1,hfz29_0,hfz29_1⟩:=box2 BK654.out
     go_wp2_with (first|((with_reducible refine gate_callee (f:=89) rfl ?_);refine goesL_ (some 20) rfl rfl Try.func89 (by kernel_rfl) rfl #[.int .i64 (l0_0.length:Int),.int .i64 a1,.string a2] rfl bM ?_;(with_reducible refine (spec_l1WriteOk.calls (l0_0.length:Int) a1 a2 true _ A25.out).mono ?_);rintro e w' ⟨rfl,⟨nd,rfl⟩⟩;refine ⟨_,rfl,?_⟩))
     go_meet
     case rel=>exact ⟨_,(decide ((l0_1.length:Int) ≥ 600)),(by first|rfl|(simp;done)|(simp [*];done)),H',⟨by have:=HJ4.out;first|omega|exact Nat.le_refl _⟩,⟨pR (Kd.R_mono (Kd.R_far (p:=⟨gb663,1,none⟩) (Kd.R_far (p:=⟨gb663,0,none⟩) (Kd.R_types HO659.out BK663.out (by decide)) (fun _ hk=>hk.2) (.slice Ao20 t657.length co20)) (fun _ hk=>hk.2) (.slice Ao24 t660.length co24)) (fun _ hk=>trivial))⟩,⟨pR (Kd.R_mono (Kd.R_far (p:=⟨gb663,1,none⟩) (Kd.R_far (p:=⟨gb663,0,none⟩) (Kd.R_types HO662.out BK663.out (by decide)) (fun _ hk=>hk.2) (.slice Ao20 t657.length co20)) (fun _ hk=>hk.2) (.slice Ao24 t660.length co24)) (fun _ hk=>trivial))⟩,⟨pF BK654.out⟩,⟨pF BK655.out⟩,⟨by (with_reducible repeat (first|refine blk_drewN ?_ _|refine blk_drew ?_|refine blk_alloc ?_ _));refine blk_put (cs:=#[.slice Ao20 t657.length co20,.slice none 0 0]) ?_ 1 _ rfl;(with_reducible repeat (first|refine blk_drewN ?_ _|refine blk_drew ?_|refine blk_alloc ?_ _));refine blk_put (cs:=#[.slice none 0 0,.slice none 0 0]) ?_ 0 _ rfl;(with_reducible repeat (first|refine blk_drewN ?_ _|refine blk_drew ?_|refine blk_alloc ?_ _));exact BK663.out⟩,⟨pS HB.out⟩⟩
    ·replace c26:=Bool.eq_false_iff.mpr c26;subst c26
     rw [if_neg (show ¬ (false=true) by decide)] at H
     have H':=Aside0.mk H;clear H;have hnb30:=NB654_655.out;have hnc30:=NB655_654.out;have hnb31:=NB654_663.out;have hnc31:=NB663_654.out;obtain ⟨hcz32_0,hcz32_1,hfz32_0,hfz32_1⟩:=box2 BK654.out
     go_wp2_with (first|((with_reducible refine gate_callee (f:=89) rfl ?_);refine goesL_ (some 20) rfl rfl Try.func89 (by kernel_rfl) rfl #[.int .i64 (l0_0.length:Int),.int .i64 a1,.string a2] rfl bM ?_;(with_reducible refine (spec_l1WriteOk.calls (l0_0.length:Int) a1 a2 false _ A25.out).mono ?_);rintro e w' ⟨rfl,⟨nd,rfl⟩⟩;refine ⟨_,rfl,?_⟩))
     go_meet
     case rel=>exact ⟨_,(true),(by first|rfl|(simp;done)|(simp [*];done)),H',⟨by have:=HJ4.out;first|omega|exact Nat.le_refl _⟩,⟨pR (Kd.R_mono (Kd.R_far (p:=⟨gb663,1,none⟩) (Kd.R_far (p:=⟨gb663,0,none⟩) (Kd.R_types HO659.out BK663.out (by decide)) (fun _ hk=>hk.2) (.slice Ao20 t657.length co20)) (fun _ hk=>hk.2) (.slice Ao24 t660.length co24)) (fun _ hk=>trivial))⟩,⟨pR (Kd.R_mono (Kd.R_far (p:=⟨gb663,1,none⟩) (Kd.R_far (p:=⟨gb663,0,none⟩) (Kd.R_types HO662.out BK663.out (by decide)) (fun _ hk=>hk.2) (.slice Ao20 t657.length co20)) (fun _ hk=>hk.2) (.slice Ao24 t660.length co24)) (fun _ hk=>trivial))⟩,⟨pF BK654.out⟩,⟨pF BK655.out⟩,⟨by (with_reducible repeat (first|refine blk_drewN ?_ _|refine blk_drew ?_|refine blk_alloc ?_ _));refine blk_put (cs:=#[.slice Ao20 t657.length co20,.slice none 0 0]) ?_ 1 _ rfl;(with_reducible repeat (first|refine blk_drewN ?_ _|refine blk_drew ?_|refine blk_alloc ?_ _));refine blk_put (cs:=#[.slice none 0 0,.slice none 0 0]) ?_ 0 _ rfl;(with_reducible repeat (first|refine blk_drewN ?_ _|refine blk_drew ?_|refine blk_alloc ?_ _));exact BK663.out⟩,⟨pS HB.out⟩⟩
   case rest =>
    clear HC15
    (try clear c1)
    (try clear c2)
    (try clear p2)
    (try clear c3)
    (try clear c6)
    (try clear c7)
    (try clear c8)
    (try clear c11)
    (try clear c12)
    (try clear c16)
    (try clear c21)
    (try clear c22)
    (try clear c26)
    (try clear c27)
    (try clear c28)
    (try clear c30)
    (try clear c31)
    (try clear hcz13_0)
    (try clear hcz13_1)
    (try clear hcz17_0)
    (try clear hcz17_1)
    (try clear hcz23_0)
    (try clear hcz23_1)
    (try clear hcz29_0)
    (try clear hcz29_1)
    (try clear hcz32_0)
    (try clear hcz32_1)
    (try clear hcz9_0)
    (try clear hcz9_1)
    (try clear hfz13_0)
    (try clear hfz13_1)
    (try clear hfz17_0)
    (try clear hfz17_1)
    (try clear hfz23_0)
    (try clear hfz23_1)
    (try clear hfz29_0)
    (try clear hfz29_1)
    (try clear hfz32_0)
    (try clear hfz32_1)
    (try clear hfz9_0)
    (try clear hfz9_1)
    (try clear p2)
    obtain ⟨kq,x27_14,rfl,HA,HJ14,HO_664000,HO_664001,BK654,BK655,BK663,HB⟩:=hcut
    cases kq with
    | zero=>exact absurd HA.out (by simp [spec_SecPut.j1])
    | succ kj14 =>
     have H:=HA.out;clear HA;simp only [spec_SecPut.j1] at H
     by_cases c33:x27_14=true
     ·subst c33;rw [if_pos rfl] at H;simp only [Option.some.injEq,Prod.mk.injEq] at H;obtain ⟨rfl,rfl,rfl⟩:=H;have hnb34:=NB663_654.out;have hnc34:=NB654_663.out;have hnb35:=NB663_655.out;have hnc35:=NB655_663.out;obtain ⟨hcz36_0,hcz36_1,hfz36_0,hfz36_1⟩:=box2 BK663.out;have hnb37:=NB655_654.out;have hnc37:=NB654_655.out;obtain ⟨hcz38_0,hcz38_1,hfz38_0,hfz38_1⟩:=box2 BK655.out
      go_wp2
      refine bodyPost_ret (results_ct rfl _ _ gb655 31 #[.slice Ao20 t657.length co20,.slice Ao24 t660.length co24] (0,0) _ rfl (by (with_reducible repeat (first|refine blk_drewN ?_ _|refine blk_drew ?_|refine blk_alloc ?_ _));refine blk_put (cs:=#[.slice Ao20 t657.length co20,.slice none 0 0]) ?_ 1 _ rfl;(with_reducible repeat (first|refine blk_drewN ?_ _|refine blk_drew ?_|refine blk_alloc ?_ _));refine blk_put (cs:=#[.slice none 0 0,.slice none 0 0]) ?_ 0 _ rfl;(with_reducible repeat (first|refine blk_drewN ?_ _|refine blk_drew ?_|refine blk_alloc ?_ _));exact BK655.out) Try.underlying31 rfl (by kernel_rfl)) rfl ?_
      exact ⟨_,_,by first|rfl|(simp [errW_none,errW_some]<;>rfl)|(simp [*,errW_none,errW_some]<;>rfl),pR (Kd.R_mono (Kd.R_far (p:=⟨gb655,1,none⟩) (Kd.R_far (p:=⟨gb655,0,none⟩) (Kd.R_types HO_664000.out BK655.out (by decide)) (fun _ hk=>hk.2) (.slice Ao20 t657.length co20)) (fun _ hk=>hk.2) (.slice Ao24 t660.length co24)) (fun _ hk=>trivial)),pR (Kd.R_mono (Kd.R_far (p:=⟨gb655,1,none⟩) (Kd.R_far (p:=⟨gb655,0,none⟩) (Kd.R_types HO_664001.out BK655.out (by decide)) (fun _ hk=>hk.2) (.slice Ao20 t657.length co20)) (fun _ hk=>hk.2) (.slice Ao24 t660.length co24)) (fun _ hk=>trivial)),pS HB.out⟩
     ·replace c33:=Bool.eq_false_iff.mpr c33;subst c33
      rw [if_neg (show ¬ (false=true) by decide)] at H
      by_cases c39:t660.length<5864062014805
      ·rw [if_pos c39] at H;have LMc39:=Aside0.mk c39;clear c39;obtain ⟨y665,hy665⟩:∃ y_:List (S75),y_=(t660 ++ [(⟨a1,a2⟩:S75)]):=⟨_,rfl⟩
       replace H:(some (t657,y665,true))=some (r1,r2,r3):=by first|(rw [hy665];with_reducible exact H)|(have H2_:=(Option.bind_some _ _).symm.trans H;rw [hy665];with_reducible exact H2_)|(have H2_:=(Option.bind_some _ _).symm.trans H;with_reducible exact H2_)|with_reducible exact H|(rw [hy665];exact H)|exact H
       have Ny665:=Aside0.mk hy665;clear hy665;simp only [Option.some.injEq,Prod.mk.injEq] at H;obtain ⟨rfl,rfl,rfl⟩:=H;have hnb40:=NB663_654.out;have hnc40:=NB654_663.out;have hnb41:=NB663_655.out;have hnc41:=NB655_663.out;obtain ⟨hcz42_0,hcz42_1,hfz42_0,hfz42_1⟩:=box2 BK663.out
       go_wp2_with (first|((with_reducible refine gate_builtin (b:=.append) (xs:=#[.tmp 30,.tmp 34]) rfl ?_);(try (refine gate_guard (by rfl) ?_;dsimp only));at_builtin;refine Kd.R_append k75 (w0:=w) w.heap.size rfl (.tmp 30) (.tmp 34) 29 75 (.agg #[(.int .i64 0),(.string ⟨#[]⟩)]) 24 rfl Try.underlying29 info75 rfl (by decide) (by omega) (.slice Ao24 t660.length co24) t660 (⟨a1,a2⟩:S75) [.int .i64 a1,.string a2] (fun _=>True) (fun _=>False) rfl rfl ?aP (fun _ hk=>hk.elim) ?aF ?aO ?aB ?aS ?aL ?_;(case aP=>exact k75_mkM _ _ _ (⟨a1,a2⟩:S75));(case aB=>exact (pS HB.out));(case aF=>exact (fun _ _=>trivial));(case aO=>exact (pR HO_664001.out));(case aS=>exact (below_size (pS HB.out)));(case aL=>have:=LMc39.out;omega);intro v666 w43 ho hb hg hat;rw [← Ny665.out] at ho;have n0_:=Aside0.mk (Kd.R_over' (pR HO_664000.out) (Kd.R_typed (pR HO_664001.out)) (by decide) hg);have n1_:=Aside0.mk (blk_grown (g:=gb654) (o:=.cells #[.slice A0_0 l0_0.length c0_0,.slice A0_1 l0_1.length c0_1] 31 (0,0)) (pK BK654.out) hg (Kd.R_ne HO_664001.out BK654.out (by decide)));have n2_:=Aside0.mk (blk_grown (g:=gb655) (o:=.cells #[.slice none 0 0,.slice none 0 0] 31 (0,0)) (pK BK655.out) hg (Kd.R_ne HO_664001.out BK655.out (by decide)));have n3_:=Aside0.mk (blk_grown (g:=gb663) (o:=.cells #[.slice Ao20 t657.length co20,.slice Ao24 t660.length co24] 31 (0,0)) (pK BK663.out) hg (Kd.R_ne HO_664001.out BK663.out (by decide)));have n4_:=Aside0.mk (hb);have n5_:=Aside0.mk (ho);clear HO_664000;clear BK654;clear BK655;clear BK663;clear HB;clear HO_664001;have HO_664000:=n0_;have BK654:=n1_;have BK655:=n2_;have BK663:=n3_;have HB:=n4_;have HO667:=n5_;clear n0_ n1_ n2_ n3_ n4_ n5_;clear ho hb hg hat;obtain ⟨Ao44,co44,eo44⟩:=Kd.R_slice HO667.out;subst eo44;obtain ⟨hcz45_0,hcz45_1,hfz45_0,hfz45_1⟩:=box2 BK663.out;have hnb46:=NB655_654.out;have hnc46:=NB654_655.out;obtain ⟨hcz47_0,hcz47_1,hfz47_0,hfz47_1⟩:=box2 BK655.out))
       refine bodyPost_ret (results_ct rfl _ _ gb655 31 #[.slice Ao20 t657.length co20,.slice Ao44 y665.length co44] (0,0) _ rfl (by (with_reducible repeat (first|refine blk_drewN ?_ _|refine blk_drew ?_|refine blk_alloc ?_ _));refine blk_put (cs:=#[.slice Ao20 t657.length co20,.slice none 0 0]) ?_ 1 _ rfl;(with_reducible repeat (first|refine blk_drewN ?_ _|refine blk_drew ?_|refine blk_alloc ?_ _));refine blk_put (cs:=#[.slice none 0 0,.slice none 0 0]) ?_ 0 _ rfl;(with_reducible repeat (first|refine blk_drewN ?_ _|refine blk_drew ?_|refine blk_alloc ?_ _));refine blk_far ?_ NB655_663.out _;(with_reducible repeat (first|refine blk_drewN ?_ _|refine blk_drew ?_|refine blk_alloc ?_ _));exact BK655.out) Try.underlying31 rfl (by kernel_rfl)) rfl ?_
       exact ⟨_,_,by first|rfl|(simp [errW_none,errW_some]<;>rfl)|(simp [*,errW_none,errW_some]<;>rfl),pR (Kd.R_mono (Kd.R_far (p:=⟨gb655,1,none⟩) (Kd.R_far (p:=⟨gb655,0,none⟩) (Kd.R_far (p:=⟨gb663,1,none⟩) (Kd.R_types (Kd.R_types HO_664000.out BK663.out (by decide)) BK655.out (by decide)) (fun _ hk=>hk.1.2) (.slice Ao44 y665.length co44)) (fun _ hk=>hk.2) (.slice Ao20 t657.length co20)) (fun _ hk=>hk.2) (.slice Ao44 y665.length co44)) (fun _ hk=>trivial)),pR (Kd.R_mono (Kd.R_far (p:=⟨gb655,1,none⟩) (Kd.R_far (p:=⟨gb655,0,none⟩) (Kd.R_far (p:=⟨gb663,1,none⟩) (Kd.R_types (Kd.R_types HO667.out BK663.out (by decide)) BK655.out (by decide)) (fun _ hk=>hk.1.2) (.slice Ao44 y665.length co44)) (fun _ hk=>hk.2) (.slice Ao20 t657.length co20)) (fun _ hk=>hk.2) (.slice Ao44 y665.length co44)) (fun _ hk=>trivial)),pS HB.out⟩
      ·rw [if_neg c39] at H
       exact absurd H (by simp)

/-! ### spec_WalDo: function 33 -/
mutual
def spec_WalDo.j0 : Nat → List (S61) → Bool → Int → List Int → Bool → List ByteArray → List (S75) → Option (List ByteArray × (List (S75)))
 | 0,_,_,_,_,_,_,_=>none
 | k+1,x1,x2,x3,x4,x19,x669000,x669001=>if x19=true then (some (([]:List ByteArray),([]:List (S75)))) else ((spec_l1Copy.f x669000 x669001).bind fun bt671=>(spec_WalDo.l0 k x1 x2 x3 x4 0 bt671.1 bt671.2))
def spec_WalDo.l0 : Nat → List (S61) → Bool → Int → List Int → Int → List ByteArray → List (S75) → Option (List ByteArray × (List (S75)))
 | 0,_,_,_,_,_,_,_=>none
 | k+1,x1,x2,x3,x4,x11,x669000,x669001=>if x11<(x1.length:Int) then (if x2=true then (spec_WalDo.j2 k x1 x2 x3 x4 x11 (decide (x11 ≥ x3)) x669000 x669001) else (spec_WalDo.j2 k x1 x2 x3 x4 x11 false x669000 x669001)) else (if x2=true then ((spec_SecCut.f k x669000 x669001 x4).bind fun bt677=>(some (bt677.1,bt677.2))) else (some (x669000,x669001)))
def spec_WalDo.j2 : Nat → List (S61) → Bool → Int → List Int → Int → Bool → List ByteArray → List (S75) → Option (List ByteArray × (List (S75)))
 | 0,_,_,_,_,_,_,_,_=>none
 | k+1,x1,x2,x3,x4,x11,x34,x669000,x669001=>if x34=true then ((spec_SecCut.f k x669000 x669001 x4).bind fun bt683=>(some (bt683.1,bt683.2))) else (if 0≤x11 then (if x11<(x1.length:Int) then (if (rd_T61 x1 x11).f0=true then ((spec_SecFlush.f k x669000 x669001).bind fun bt690=>(spec_WalDo.l0 k x1 x2 x3 x4 (wrap64 (x11+1)) bt690.1 bt690.2)) else ((spec_SecPut.f k x669000 x669001 ((rd_T61 x1 x11).f1) ((rd_T61 x1 x11).f2)).bind fun bt698=>(spec_WalDo.l0 k x1 x2 x3 x4 (wrap64 (x11+1)) bt698.1 bt698.2.1))) else (none)) else (none))
end
def spec_WalDo.f (k : Nat) (l0_0 : List ByteArray) (l0_1 : List (S75)) (l1 : List (S61)) (a2 : Bool) (a3 : Int) (l4 : List Int) : Option (List ByteArray × (List (S75))) := (spec_SecOk.f k l0_0 l0_1).bind fun t670 => (if t670 = true then (spec_WalDo.j0 k l1 a2 a3 l4 (decide ((l1.length : Int) > 600)) l0_0 l0_1) else (spec_WalDo.j0 k l1 a2 a3 l4 true l0_0 l0_1))
theorem spec_WalDo.mono_l : ∀ k, (∀ y0 y1 y2 y3 y4 y5 y6, LeO (spec_WalDo.j0 k y0 y1 y2 y3 y4 y5 y6) (spec_WalDo.j0 (k + 1) y0 y1 y2 y3 y4 y5 y6)) ∧ (∀ y0 y1 y2 y3 y4 y5 y6, LeO (spec_WalDo.l0 k y0 y1 y2 y3 y4 y5 y6) (spec_WalDo.l0 (k + 1) y0 y1 y2 y3 y4 y5 y6)) ∧ (∀ y0 y1 y2 y3 y4 y5 y6 y7, LeO (spec_WalDo.j2 k y0 y1 y2 y3 y4 y5 y6 y7) (spec_WalDo.j2 (k + 1) y0 y1 y2 y3 y4 y5 y6 y7))
 | 0=>⟨fun _ _ _ _ _ _ _ r h=>by simp [spec_WalDo.j0] at h,fun _ _ _ _ _ _ _ r h=>by simp [spec_WalDo.l0] at h,fun _ _ _ _ _ _ _ _ r h=>by simp [spec_WalDo.j2] at h⟩
 | k+1=>by
  obtain ⟨ih0,ih1,ih2⟩:=spec_WalDo.mono_l k;refine ⟨?_,?_,?_⟩
  ·intro y0 y1 y2 y3 y4 y5 y6
   unfold spec_WalDo.j0
   repeat' first
   | (with_reducible first|exact ih0 _ _ _ _ _ _ _|exact ih1 _ _ _ _ _ _ _|exact ih2 _ _ _ _ _ _ _ _|exact spec_SecCut.mono _ _ _ _|exact spec_SecFlush.mono _ _ _|exact spec_SecOk.mono _ _ _|exact spec_SecPut.mono _ _ _ _ _|exact LeO.refl _|exact LeO.none _|refine LeO.ite ?_ ?_|refine LeO.bind ?_ (fun _=>?_))|exact ih0 _ _ _ _ _ _ _|exact ih1 _ _ _ _ _ _ _|exact ih2 _ _ _ _ _ _ _ _|exact spec_SecCut.mono _ _ _ _|exact spec_SecFlush.mono _ _ _|exact spec_SecOk.mono _ _ _|exact spec_SecPut.mono _ _ _ _ _|exact LeO.none _|refine LeO.ite ?_ ?_|refine LeO.bind ?_ (fun _=>?_)
  ·intro y0 y1 y2 y3 y4 y5 y6
   unfold spec_WalDo.l0
   repeat' first
   | (with_reducible first|exact ih0 _ _ _ _ _ _ _|exact ih1 _ _ _ _ _ _ _|exact ih2 _ _ _ _ _ _ _ _|exact spec_SecCut.mono _ _ _ _|exact spec_SecFlush.mono _ _ _|exact spec_SecOk.mono _ _ _|exact spec_SecPut.mono _ _ _ _ _|exact LeO.refl _|exact LeO.none _|refine LeO.ite ?_ ?_|refine LeO.bind ?_ (fun _=>?_))|exact ih0 _ _ _ _ _ _ _|exact ih1 _ _ _ _ _ _ _|exact ih2 _ _ _ _ _ _ _ _|exact spec_SecCut.mono _ _ _ _|exact spec_SecFlush.mono _ _ _|exact spec_SecOk.mono _ _ _|exact spec_SecPut.mono _ _ _ _ _|exact LeO.none _|refine LeO.ite ?_ ?_|refine LeO.bind ?_ (fun _=>?_)
  ·intro y0 y1 y2 y3 y4 y5 y6 y7
   unfold spec_WalDo.j2
   repeat' first
   | (with_reducible first|exact ih0 _ _ _ _ _ _ _|exact ih1 _ _ _ _ _ _ _|exact ih2 _ _ _ _ _ _ _ _|exact spec_SecCut.mono _ _ _ _|exact spec_SecFlush.mono _ _ _|exact spec_SecOk.mono _ _ _|exact spec_SecPut.mono _ _ _ _ _|exact LeO.refl _|exact LeO.none _|refine LeO.ite ?_ ?_|refine LeO.bind ?_ (fun _=>?_))|exact ih0 _ _ _ _ _ _ _|exact ih1 _ _ _ _ _ _ _|exact ih2 _ _ _ _ _ _ _ _|exact spec_SecCut.mono _ _ _ _|exact spec_SecFlush.mono _ _ _|exact spec_SecOk.mono _ _ _|exact spec_SecPut.mono _ _ _ _ _|exact LeO.none _|refine LeO.ite ?_ ?_|refine LeO.bind ?_ (fun _=>?_)
theorem spec_WalDo.mono : ∀ a0 a1 a2 a3 a4 a5 k, LeO (spec_WalDo.f k a0 a1 a2 a3 a4 a5) (spec_WalDo.f (k + 1) a0 a1 a2 a3 a4 a5) := by
 intro a0 a1 a2 a3 a4 a5 k;obtain ⟨ih0,ih1,ih2⟩:=spec_WalDo.mono_l k
 unfold spec_WalDo.f
 repeat' first
   | (with_reducible first|exact ih0 _ _ _ _ _ _ _|exact ih1 _ _ _ _ _ _ _|exact ih2 _ _ _ _ _ _ _ _|exact spec_SecCut.mono _ _ _ _|exact spec_SecFlush.mono _ _ _|exact spec_SecOk.mono _ _ _|exact spec_SecPut.mono _ _ _ _ _|exact LeO.refl _|exact LeO.none _|refine LeO.ite ?_ ?_|refine LeO.bind ?_ (fun _=>?_))|exact ih0 _ _ _ _ _ _ _|exact ih1 _ _ _ _ _ _ _|exact ih2 _ _ _ _ _ _ _ _|exact spec_SecCut.mono _ _ _ _|exact spec_SecFlush.mono _ _ _|exact spec_SecOk.mono _ _ _|exact spec_SecPut.mono _ _ _ _ _|exact LeO.none _|refine LeO.ite ?_ ?_|refine LeO.bind ?_ (fun _=>?_)
def spec_WalDo.T11 : Bool × List (List Nat × List Nat) := (true, [([], []), ([], []), ([], []), ([1, 2], [1, 2]), ([3], [3]), ([4], [4]), ([], []), ([], []), ([6, 7], [6, 7]), ([8], [8]), ([9], [9]), ([0, 5, 10], [0, 5, 10]), ([11], [11]), ([12], [12]), ([12], [12]), ([13, 11, 0, 1, 2, 3, 4, 5, 6, 7, 8, 9, 10, 11, 12, 13], [13])])
def spec_WalDo.B11 : List Nat := [0, 0, 0, 6, 14, 30, 0, 0, 192, 448, 960, 2047, 4095, 8191, 8191, 16383]
theorem spec_WalDo.tab11 : rtab .any (opsOf Try.f33 11) = spec_WalDo.T11 := by kernel_rfl
theorem spec_WalDo.bits11 : waitsOk spec_WalDo.T11.2 spec_WalDo.B11 = true := by kernel_rfl
set_option maxHeartbeats 8000000 in
set_option maxRecDepth 100000 in
theorem spec_WalDo.calls (k : Nat) (A0_0 : Option Addr) (c0_0 : Nat) (l0_0 : List ByteArray) (A0_1 : Option Addr) (c0_1 : Nat) (l0_1 : List (S75)) (A1 : Option Addr) (c1 : Nat) (l1 : List (S61)) (a2 : Bool) (a3 : Int) (A4 : Option Addr) (c4 : Nat) (l4 : List Int) (r1 : List ByteArray) (r2 : List (S75)) (w : World) (hr0_0 : Kd.C Kd.string w A0_0 l0_0.length l0_0) (hc0_0 : l0_0.length ≤ c0_0) (hr0_1 : Kd.C k75 w A0_1 l0_1.length l0_1) (hc0_1 : l0_1.length ≤ c0_1) (hr1 : Kd.C k61 w A1 l1.length l1) (hc1 : l1.length ≤ c1) (hr4 : Kd.C (Kd.int .i64) w A4 l4.length l4) (hc4 : l4.length ≤ c4) (h : spec_WalDo.f k l0_0 l0_1 l1 a2 a3 l4 = some (r1, r2)) :
  Calls Try.prog 33 #[.agg #[.slice A0_0 l0_0.length c0_0,.slice A0_1 l0_1.length c0_1],.slice A1 l1.length c1,.bool a2,.int .i64 a3,.slice A4 l4.length c4] w fun e w'=>∃ v0_ v1_:Value,e=.returned (.agg #[v0_,v1_])∧Kd.R Kd.string 9 w' w.heap.size (fun _=>True) v0_ r1∧Kd.R k75 75 w' w.heap.size (fun _=>True) v1_ r2∧Below w.heap.size w w':=by
 have hu31:=Try.underlying31;have HR0_0:=Aside0.mk hr0_0;have HC0_0:=Aside0.mk hc0_0;clear hr0_0 hc0_0;have HR0_1:=Aside0.mk hr0_1;have HC0_1:=Aside0.mk hc0_1;clear hr0_1 hc0_1;have HR1:=Aside0.mk hr1;have HC1:=Aside0.mk hc1;clear hr1 hc1;have HR4:=Aside0.mk hr4;have HC4:=Aside0.mk hc4;clear hr4 hc4;have HB:=Aside0.mk (Below.refl w.heap.size w);have H:((spec_SecOk.f k l0_0 l0_1).bind fun t670=>(if t670=true then (spec_WalDo.j0 k l1 a2 a3 l4 (decide ((l1.length:Int) > 600)) l0_0 l0_1) else (spec_WalDo.j0 k l1 a2 a3 l4 true l0_0 l0_1)))=some (r1,r2):=h;clear h;have HC6:=Aside0.mk H;clear H
 go_enter Try.func33,Try.ntmps33
 go_upto_region 1 with (first|((with_reducible refine gate_dst (N:=5) rfl ?_);(try (refine gate_guard (by rfl) ?_;dsimp only));refine box_event ?hg (N:=5) ?hd (cs:=#[.slice A0_0 l0_0.length c0_0,.slice A0_1 l0_1.length c0_1]) (t:=31) ?hr ?_;(case hd=>rfl);(case hg=>rfl);(case hr=>first|(go_simp;done)|(go_simp;rfl));intro gb668 hg w7 hbox hb;have n0_:=Aside0.mk (below_step (pB HB.out) hb);have n1_:=Aside0.mk (hbox);have n2_:=Aside0.mk ((by rw [hg];exact (below_size (pB HB.out)):w.heap.size≤gb668));have n3_:=Aside0.mk ((by rw [hg];exact (below_size (pB HB.out)):w.heap.size≤gb668));clear HB;have HB:=n0_;have BK668:=n1_;have GW668:=n2_;have GE668:=n3_;clear n0_ n1_ n2_ n3_;clear hb hbox hg)|((with_reducible refine gate_dst (N:=10) rfl ?_);(try (refine gate_guard (by rfl) ?_;dsimp only));refine box_event ?hg (N:=10) ?hd (cs:=#[.slice none 0 0,.slice none 0 0]) (t:=31) ?hr ?_;(case hd=>rfl);(case hg=>rfl);(case hr=>first|(go_simp;done)|(go_simp;rfl));intro gb669 hg w8 hbox hb;have n0_:=Aside0.mk (blk_below (pK BK668.out) hb);have n1_:=Aside0.mk (below_step (pS HB.out) hb);have n2_:=Aside0.mk (hbox);have n3_:=Aside0.mk ((by rw [hg];exact (below_size (pS HB.out)):w.heap.size≤gb669));have n4_:=Aside0.mk ((by rw [hg];exact (below_size (pS HB.out)):w.heap.size≤gb669));have n5_:=Aside0.mk ((by rw [hg];exact Nat.ne_of_lt (blk_lt (pK BK668.out)):gb668≠gb669));have n6_:=Aside0.mk ((by rw [hg];exact Nat.ne_of_gt (blk_lt (pK BK668.out)):gb669≠gb668));clear BK668;clear HB;have BK668:=n0_;have HB:=n1_;have BK669:=n2_;have GW669:=n3_;have GE669:=n4_;have NB668_669:=n5_;have NB669_668:=n6_;clear n0_ n1_ n2_ n3_ n4_ n5_ n6_;clear hb hbox hg))
 (try simp only [Act.put,List.setIfInBounds_toArray,List.set_cons_zero,List.set_cons_succ])
 go_cut [19] (fun v19 wc=>∃ (kq:Nat) (x19_5:Bool),v19=.bool x19_5∧Aside0 (spec_WalDo.j0 kq l1 a2 a3 l4 x19_5 l0_0 l0_1=some (r1,r2))∧Aside0 (kq≤k)∧Aside0 (wc.heap[gb668]?=some (.cells #[(.slice A0_0 l0_0.length c0_0),(.slice A0_1 l0_1.length c0_1)] 31 (0,0)))∧Aside0 (wc.heap[gb669]?=some (.cells #[(.slice none 0 0),(.slice none 0 0)] 31 (0,0)))∧Aside0 (Below w.heap.size w wc))
 case first =>
  have H:=HC6.out;clear HC6;replace H:=Option.bind_eq_some_iff.mp H;obtain ⟨t670,A90,H⟩:=H
  (try dsimp only at H)
  have A9:=Aside0.mk A90;clear A90
  by_cases c10:t670=true
  ·subst c10;rw [if_pos rfl] at H;have H':=Aside0.mk H;clear H;have hnb11:=NB668_669.out;have hnc11:=NB669_668.out;obtain ⟨hcz12_0,hcz12_1,hfz12_0,hfz12_1⟩:=box2 BK668.out
   go_wp2_with (first|((with_reducible refine gate_callee (f:=68) rfl ?_);refine goesL_ (some 13) rfl rfl Try.func68 (by kernel_rfl) rfl #[.agg #[.slice A0_0 l0_0.length c0_0,.slice A0_1 l0_1.length c0_1]] rfl bM ?_;(with_reducible refine (spec_SecOk.calls k _ _ l0_0 _ _ l0_1 true _ ?side1 ?side2 ?side3 ?side4 A9.out).mono ?_);(case side1=>exact pC (Kd.C_below HR0_0.out HB.out));(case side2=>exact HC0_0.out);(case side3=>exact pC (Kd.C_below HR0_1.out HB.out));(case side4=>exact HC0_1.out);rintro e w13 ⟨rfl,hb⟩;refine ⟨_,rfl,?_⟩;have n0_:=Aside0.mk (blk_below (pK BK668.out) hb);have n1_:=Aside0.mk (blk_below (pK BK669.out) hb);have n2_:=Aside0.mk (below_step (pS HB.out) hb);clear BK668;clear BK669;clear HB;have BK668:=n0_;have BK669:=n1_;have HB:=n2_;clear n0_ n1_ n2_;(try clear hb);(try clear hb2);(try clear hk);(try clear hi)))
   go_meet
   case rel=>exact ⟨_,(decide ((l1.length:Int) > 600)),(by first|rfl|(simp;done)|(simp [*];done)),H',⟨by first|omega|exact Nat.le_refl _⟩,⟨pK BK668.out⟩,⟨pK BK669.out⟩,⟨pS HB.out⟩⟩
  ·replace c10:=Bool.eq_false_iff.mpr c10;subst c10
   rw [if_neg (show ¬ (false=true) by decide)] at H
   have H':=Aside0.mk H;clear H;have hnb14:=NB668_669.out;have hnc14:=NB669_668.out;obtain ⟨hcz15_0,hcz15_1,hfz15_0,hfz15_1⟩:=box2 BK668.out
   go_wp2_with (first|((with_reducible refine gate_callee (f:=68) rfl ?_);refine goesL_ (some 13) rfl rfl Try.func68 (by kernel_rfl) rfl #[.agg #[.slice A0_0 l0_0.length c0_0,.slice A0_1 l0_1.length c0_1]] rfl bM ?_;(with_reducible refine (spec_SecOk.calls k _ _ l0_0 _ _ l0_1 false _ ?side1 ?side2 ?side3 ?side4 A9.out).mono ?_);(case side1=>exact pC (Kd.C_below HR0_0.out HB.out));(case side2=>exact HC0_0.out);(case side3=>exact pC (Kd.C_below HR0_1.out HB.out));(case side4=>exact HC0_1.out);rintro e w16 ⟨rfl,hb⟩;refine ⟨_,rfl,?_⟩;have n0_:=Aside0.mk (blk_below (pK BK668.out) hb);have n1_:=Aside0.mk (blk_below (pK BK669.out) hb);have n2_:=Aside0.mk (below_step (pS HB.out) hb);clear BK668;clear BK669;clear HB;have BK668:=n0_;have BK669:=n1_;have HB:=n2_;clear n0_ n1_ n2_;(try clear hb);(try clear hb2);(try clear hk);(try clear hi)))
   go_meet
   case rel=>exact ⟨_,(true),(by first|rfl|(simp;done)|(simp [*];done)),H',⟨by first|omega|exact Nat.le_refl _⟩,⟨pK BK668.out⟩,⟨pK BK669.out⟩,⟨pS HB.out⟩⟩
 case rest =>
  clear HC6
  (try clear c1)
  (try clear p2)
  (try clear c3)
  (try clear c4)
  (try clear c6)
  (try clear c10)
  (try clear c11)
  (try clear c14)
  (try clear hcz12_0)
  (try clear hcz12_1)
  (try clear hcz15_0)
  (try clear hcz15_1)
  (try clear hfz12_0)
  (try clear hfz12_1)
  (try clear hfz15_0)
  (try clear hfz15_1)
  obtain ⟨kq,x19_5,rfl,HA,HJ5,BK668,BK669,HB⟩:=hcut
  cases kq with
  | zero=>exact absurd HA.out (by simp [spec_WalDo.j0])
  | succ kj5 =>
   have H:=HA.out;clear HA;simp only [spec_WalDo.j0] at H
   by_cases c17:x19_5=true
   ·subst c17;rw [if_pos rfl] at H;simp only [Option.some.injEq,Prod.mk.injEq] at H;obtain ⟨rfl,rfl⟩:=H;have hnb18:=NB669_668.out;have hnc18:=NB668_669.out;obtain ⟨hcz19_0,hcz19_1,hfz19_0,hfz19_1⟩:=box2 BK669.out
    go_wp2
    refine bodyPost_ret (results_cell_row rfl _ _ gb669 31 #[.slice none 0 0,.slice none 0 0] (0,0) _ rfl (by (with_reducible repeat (first|refine blk_drewN ?_ _|refine blk_drew ?_|refine blk_alloc ?_ _));refine blk_put (cs:=#[.slice none 0 0,.slice none 0 0]) ?_ 1 _ rfl;(with_reducible repeat (first|refine blk_drewN ?_ _|refine blk_drew ?_|refine blk_alloc ?_ _));refine blk_put (cs:=#[.slice none 0 0,.slice none 0 0]) ?_ 0 _ rfl;(with_reducible repeat (first|refine blk_drewN ?_ _|refine blk_drew ?_|refine blk_alloc ?_ _));exact BK669.out) Try.underlying31 rfl (by kernel_rfl)) rfl ?_
    exact ⟨_,_,by first|rfl|(simp [errW_none,errW_some]<;>rfl)|(simp [*,errW_none,errW_some]<;>rfl),by first|exact Kd.R_nil _ _ _ _ _|exact Kd.N_nil _ _ _ _ _|exact Kd.V_nil _ _ _ _ _|exact Kd.Q_nil _ _ _ _ _|exact Kd.S_nil _ _ _ _ _,by first|exact Kd.R_nil _ _ _ _ _|exact Kd.N_nil _ _ _ _ _|exact Kd.V_nil _ _ _ _ _|exact Kd.Q_nil _ _ _ _ _|exact Kd.S_nil _ _ _ _ _,pS HB.out⟩
   ·replace c17:=Bool.eq_false_iff.mpr c17;subst c17
    rw [if_neg (show ¬ (false=true) by decide)] at H
    replace H:=Option.bind_eq_some_iff.mp H;obtain ⟨⟨t671,t674⟩,A200,H⟩:=H
    (try dsimp only at H)
    have A20:=Aside0.mk A200;clear A200;have H':=Aside0.mk H;clear H;have hnb21:=NB668_669.out;have hnc21:=NB669_668.out;obtain ⟨hcz22_0,hcz22_1,hfz22_0,hfz22_1⟩:=box2 BK668.out
    go_wp2_with (first|((with_reducible refine gate_callee (f:=69) rfl ?_);refine goesL_ (some 22) rfl rfl Try.func69 (by kernel_rfl) rfl #[.agg #[.slice A0_0 l0_0.length c0_0,.slice A0_1 l0_1.length c0_1]] rfl bM ?_;(with_reducible refine (spec_l1Copy.calls _ _ l0_0 _ _ l0_1 t671 t674 _ ?side1 ?side2 ?side3 ?side4 A20.out).mono ?_);(case side1=>exact pC (Kd.C_below HR0_0.out HB.out));(case side2=>exact HC0_0.out);(case side3=>exact pC (Kd.C_below HR0_1.out HB.out));(case side4=>exact HC0_1.out);rintro e w23 ⟨v672,v675,rfl,ho0,ho1,hb⟩;refine ⟨_,rfl,?_⟩;have n0_:=Aside0.mk (Kd.R_lower ho0 (below_size (pS HB.out)));have n1_:=Aside0.mk (Kd.R_lower ho1 (below_size (pS HB.out)));have n2_:=Aside0.mk (blk_below (pK BK668.out) hb);have n3_:=Aside0.mk (blk_below (pK BK669.out) hb);have n4_:=Aside0.mk (below_step (pS HB.out) hb);clear BK668;clear BK669;clear HB;have HO673:=n0_;have HO676:=n1_;have BK668:=n2_;have BK669:=n3_;have HB:=n4_;clear n0_ n1_ n2_ n3_ n4_;(try clear hb);(try clear hb2);(try clear hk);(try clear hi);(try clear ho0);(try clear ho1);obtain ⟨Ao24,co24,eo24⟩:=Kd.R_slice HO673.out;subst eo24;obtain ⟨hcz25_0,hcz25_1,hfz25_0,hfz25_1⟩:=box2 BK668.out;obtain ⟨Ao26,co26,eo26⟩:=Kd.R_slice HO676.out;subst eo26))
    go_loopg [11] kj5 (fun kq v11 w'=>∃ (x11_2:Int) (x669000_2:List ByteArray) (x669001_2:List (S75)) (u669000:Value) (u669001:Value),v11=.int .i64 x11_2∧Aside0 (spec_WalDo.l0 kq l1 a2 a3 l4 x11_2 x669000_2 x669001_2=some (r1,r2))∧Aside0 (kq≤kj5)∧Aside0 (Kd.R Kd.string 9 w' w.heap.size (fun _=>True) u669000 x669000_2)∧Aside0 (Kd.R k75 75 w' w.heap.size (fun _=>True) u669001 x669001_2)∧Aside0 (w'.heap[gb668]?=some (.cells #[u669000,u669001] 31 (0,0)))∧Aside0 (w'.heap[gb669]?=some (.cells #[(.slice none 0 0),(.slice none 0 0)] 31 (0,0)))∧Aside0 (Below w.heap.size w w'))
    case atStart=>exact ⟨(0),(t671),(t674),(.slice Ao24 t671.length co24),(.slice Ao26 t674.length co26),(by first|rfl|(simp;done)|(simp [*];done)),H',⟨Nat.le_refl _⟩,⟨pR (Kd.R_mono (Kd.R_far (p:=⟨gb668,1,none⟩) (Kd.R_far (p:=⟨gb668,0,none⟩) (Kd.R_types HO673.out BK668.out (by decide)) (fun _ hk=>hk.2) (.slice Ao24 t671.length co24)) (fun _ hk=>hk.2) (.slice Ao26 t674.length co26)) (fun _ hk=>trivial))⟩,⟨pR (Kd.R_mono (Kd.R_far (p:=⟨gb668,1,none⟩) (Kd.R_far (p:=⟨gb668,0,none⟩) (Kd.R_types HO676.out BK668.out (by decide)) (fun _ hk=>hk.2) (.slice Ao24 t671.length co24)) (fun _ hk=>hk.2) (.slice Ao26 t674.length co26)) (fun _ hk=>trivial))⟩,⟨by (with_reducible repeat (first|refine blk_drewN ?_ _|refine blk_drew ?_|refine blk_alloc ?_ _));refine blk_put (cs:=#[.slice Ao24 t671.length co24,.slice A0_1 l0_1.length c0_1]) ?_ 1 _ rfl;(with_reducible repeat (first|refine blk_drewN ?_ _|refine blk_drew ?_|refine blk_alloc ?_ _));refine blk_put (cs:=#[.slice A0_0 l0_0.length c0_0,.slice A0_1 l0_1.length c0_1]) ?_ 0 _ rfl;(with_reducible repeat (first|refine blk_drewN ?_ _|refine blk_drew ?_|refine blk_alloc ?_ _));exact BK668.out⟩,⟨pF BK669.out⟩,⟨pS HB.out⟩⟩
    case round =>
     clear H'
     (try clear c1)
     (try clear c2)
     (try clear p2)
     (try clear c3)
     (try clear c4)
     (try clear c6)
     (try clear c10)
     (try clear c11)
     (try clear c14)
     (try clear c17)
     (try clear c18)
     (try clear c21)
     (try clear hcz12_0)
     (try clear hcz12_1)
     (try clear hcz15_0)
     (try clear hcz15_1)
     (try clear hcz19_0)
     (try clear hcz19_1)
     (try clear hcz22_0)
     (try clear hcz22_1)
     (try clear hcz25_0)
     (try clear hcz25_1)
     (try clear hfz12_0)
     (try clear hfz12_1)
     (try clear hfz15_0)
     (try clear hfz15_1)
     (try clear hfz19_0)
     (try clear hfz19_1)
     (try clear hfz22_0)
     (try clear hfz22_1)
     (try clear hfz25_0)
     (try clear hfz25_1)
     (try clear p2)
     obtain ⟨x11_2,x669000_2,x669001_2,u669000,u669001,rfl,HA,HK2,HO_669000,HO_669001,BK668,BK669,HB⟩:=hrel
     cases gk with
     | zero=>exact absurd HA.out (by simp [spec_WalDo.l0])
     | succ k2 =>
      have H:=HA.out;clear HA;simp only [spec_WalDo.l0] at H
      by_cases c27:x11_2<(l1.length:Int)
      ·rw [if_pos c27] at H;have c27b0:decide (x11_2<(l1.length:Int))=true:=decide_eq_true c27;clear c27;have HC28:=Aside0.mk H;clear H
       go_upto_region 7 with (fail)
       go_cut [34] (fun v34 wc=>∃ (kq:Nat) (x34_27:Bool),v34=.bool x34_27∧Aside0 (spec_WalDo.j2 kq l1 a2 a3 l4 x11_2 x34_27 x669000_2 x669001_2=some (r1,r2))∧Aside0 (kq≤k2)∧Aside0 (Kd.R Kd.string 9 wc w.heap.size (fun _=>True) u669000 x669000_2)∧Aside0 (Kd.R k75 75 wc w.heap.size (fun _=>True) u669001 x669001_2)∧Aside0 (wc.heap[gb668]?=some (.cells #[u669000,u669001] 31 (0,0)))∧Aside0 (wc.heap[gb669]?=some (.cells #[(.slice none 0 0),(.slice none 0 0)] 31 (0,0)))∧Aside0 (Below w.heap.size w wc))
       case first =>
        have H:=HC28.out;clear HC28
        by_cases c29:a2=true
        ·subst c29;rw [if_pos rfl] at H;have H':=Aside0.mk H;clear H
         go_wp2
         go_meet
         case rel=>exact ⟨_,(decide (x11_2 ≥ a3)),(by first|rfl|(simp;done)|(simp [*];done)),H',⟨by have:=HJ5.out;have:=HK2.out;first|omega|exact Nat.le_refl _⟩,⟨pR HO_669000.out⟩,⟨pR HO_669001.out⟩,⟨pK BK668.out⟩,⟨pK BK669.out⟩,⟨pS HB.out⟩⟩
        ·replace c29:=Bool.eq_false_iff.mpr c29;subst c29
         rw [if_neg (show ¬ (false=true) by decide)] at H
         have H':=Aside0.mk H;clear H
         go_wp2
         go_meet
         case rel=>exact ⟨_,(false),(by first|rfl|(simp;done)|(simp [*];done)),H',⟨by have:=HJ5.out;have:=HK2.out;first|omega|exact Nat.le_refl _⟩,⟨pR HO_669000.out⟩,⟨pR HO_669001.out⟩,⟨pK BK668.out⟩,⟨pK BK669.out⟩,⟨pS HB.out⟩⟩
       case rest =>
        clear HC28
        (try clear c1)
        (try clear c2)
        (try clear p2)
        (try clear c3)
        (try clear c4)
        (try clear c6)
        (try clear c10)
        (try clear c11)
        (try clear c14)
        (try clear c17)
        (try clear c18)
        (try clear c21)
        (try clear c27)
        (try clear c27b0)
        (try clear c29)
        (try clear hcz12_0)
        (try clear hcz12_1)
        (try clear hcz15_0)
        (try clear hcz15_1)
        (try clear hcz19_0)
        (try clear hcz19_1)
        (try clear hcz22_0)
        (try clear hcz22_1)
        (try clear hcz25_0)
        (try clear hcz25_1)
        (try clear hfz12_0)
        (try clear hfz12_1)
        (try clear hfz15_0)
        (try clear hfz15_1)
        (try clear hfz19_0)
        (try clear hfz19_1)
        (try clear hfz22_0)
        (try clear hfz22_1)
        (try clear hfz25_0)
        (try clear hfz25_1)
        (try clear p2)
        obtain ⟨kq,x34_27,rfl,HA,HJ27,HO_669000,HO_669001,BK668,BK669,HB⟩:=hcut
        cases kq with
        | zero=>exact absurd HA.out (by simp [spec_WalDo.j2])
        | succ kj27 =>
         have H:=HA.out;clear HA;simp only [spec_WalDo.j2] at H
         by_cases c30:x34_27=true
         ·subst c30;rw [if_pos rfl] at H;replace H:=Option.bind_eq_some_iff.mp H;obtain ⟨⟨t683,t686⟩,A310,H⟩:=H
          (try dsimp only at H)
          have A31:=Aside0.mk A310;clear A310;simp only [Option.some.injEq,Prod.mk.injEq] at H;obtain ⟨rfl,rfl⟩:=H;have hnb32:=NB668_669.out;have hnc32:=NB669_668.out;obtain ⟨hcz33_0,hcz33_1,hfz33_0,hfz33_1⟩:=box2 BK668.out;obtain ⟨Ao34,co34,eo34⟩:=Kd.R_slice HO_669000.out;subst eo34;obtain ⟨Ao35,co35,eo35⟩:=Kd.R_slice HO_669001.out;subst eo35
          go_wp2_with (first|((with_reducible refine gate_callee (f:=70) rfl ?_);refine goesL_ (some 37) rfl rfl Try.func70 (by kernel_rfl) rfl #[.agg #[.slice Ao34 x669000_2.length co34,.slice Ao35 x669001_2.length co35],.slice A4 l4.length c4] rfl bM ?_;(with_reducible refine (spec_SecCut.calls kj27 _ _ x669000_2 _ _ x669001_2 _ _ l4 t683 t686 _ ?side1 ?side2 ?side3 ?side4 ?side5 ?side6 A31.out).mono ?_);(case side1=>exact pC (Kd.R_reads' HO_669000.out).2.2);(case side2=>exact (Kd.R_reads' HO_669000.out).2.1);(case side3=>exact pC (Kd.R_reads' HO_669001.out).2.2);(case side4=>exact (Kd.R_reads' HO_669001.out).2.1);(case side5=>exact pC (Kd.C_below HR4.out HB.out));(case side6=>exact HC4.out);rintro e w36 ⟨v684,v687,rfl,ho0,ho1,hb⟩;refine ⟨_,rfl,?_⟩;have n0_:=Aside0.mk (Kd.R_elder' (pR HO_669000.out) (Kd.R_base ho0) hb);have n1_:=Aside0.mk (Kd.R_elder' (pR HO_669001.out) (Kd.R_base ho1) hb);have n2_:=Aside0.mk (Kd.R_lower (Kd.R_new' ho0 (Kd.R_lt (pR HO_669000.out))) (below_size (pS HB.out)));have n3_:=Aside0.mk (Kd.R_lower (Kd.R_new' ho1 (Kd.R_lt (pR HO_669001.out))) (below_size (pS HB.out)));have n4_:=Aside0.mk (blk_below (pK BK668.out) hb);have n5_:=Aside0.mk (blk_below (pK BK669.out) hb);have n6_:=Aside0.mk (below_step (pS HB.out) hb);clear HO_669000;clear HO_669001;clear BK668;clear BK669;clear HB;have HO_669000:=n0_;have HO_669001:=n1_;have HO685:=n2_;have HO688:=n3_;have BK668:=n4_;have BK669:=n5_;have HB:=n6_;clear n0_ n1_ n2_ n3_ n4_ n5_ n6_;(try clear hb);(try clear hb2);(try clear hk);(try clear hi);(try clear ho0);(try clear ho1);obtain ⟨Ao37,co37,eo37⟩:=Kd.R_slice HO685.out;subst eo37;obtain ⟨hcz38_0,hcz38_1,hfz38_0,hfz38_1⟩:=box2 BK669.out;obtain ⟨Ao39,co39,eo39⟩:=Kd.R_slice HO688.out;subst eo39))
          refine bodyPost_ret (results_cell_row rfl _ _ gb669 31 #[.slice Ao37 t683.length co37,.slice Ao39 t686.length co39] (0,0) _ rfl (by (with_reducible repeat (first|refine blk_drewN ?_ _|refine blk_drew ?_|refine blk_alloc ?_ _));refine blk_put (cs:=#[.slice Ao37 t683.length co37,.slice none 0 0]) ?_ 1 _ rfl;(with_reducible repeat (first|refine blk_drewN ?_ _|refine blk_drew ?_|refine blk_alloc ?_ _));refine blk_put (cs:=#[.slice none 0 0,.slice none 0 0]) ?_ 0 _ rfl;(with_reducible repeat (first|refine blk_drewN ?_ _|refine blk_drew ?_|refine blk_alloc ?_ _));exact BK669.out) Try.underlying31 rfl (by kernel_rfl)) rfl ?_
          exact ⟨_,_,by first|rfl|(simp [errW_none,errW_some]<;>rfl)|(simp [*,errW_none,errW_some]<;>rfl),pR (Kd.R_mono (Kd.R_far (p:=⟨gb669,1,none⟩) (Kd.R_far (p:=⟨gb669,0,none⟩) (Kd.R_types HO685.out BK669.out (by decide)) (fun _ hk=>hk.2) (.slice Ao37 t683.length co37)) (fun _ hk=>hk.2) (.slice Ao39 t686.length co39)) (fun _ hk=>trivial)),pR (Kd.R_mono (Kd.R_far (p:=⟨gb669,1,none⟩) (Kd.R_far (p:=⟨gb669,0,none⟩) (Kd.R_types HO688.out BK669.out (by decide)) (fun _ hk=>hk.2) (.slice Ao37 t683.length co37)) (fun _ hk=>hk.2) (.slice Ao39 t686.length co39)) (fun _ hk=>trivial)),pS HB.out⟩
         ·replace c30:=Bool.eq_false_iff.mpr c30;subst c30
          rw [if_neg (show ¬ (false=true) by decide)] at H
          by_cases c40:0≤x11_2
          ·rw [if_pos c40] at H;have c40b0:decide (0≤x11_2)=true:=decide_eq_true c40;clear c40
           by_cases c41:x11_2<(l1.length:Int)
           ·rw [if_pos c41] at H;have c41b0:decide (x11_2<(l1.length:Int))=true:=decide_eq_true c41;clear c41;obtain ⟨bq42,hbq42⟩:∃ b_:Bool,b_=((rd_T61 l1 x11_2).f0):=⟨_,rfl⟩
            replace H:(if bq42=true then ((spec_SecFlush.f kj27 x669000_2 x669001_2).bind fun bt690=>(spec_WalDo.l0 kj27 l1 a2 a3 l4 (wrap64 (x11_2+1)) bt690.1 bt690.2)) else ((spec_SecPut.f kj27 x669000_2 x669001_2 ((rd_T61 l1 x11_2).f1) ((rd_T61 l1 x11_2).f2)).bind fun bt698=>(spec_WalDo.l0 kj27 l1 a2 a3 l4 (wrap64 (x11_2+1)) bt698.1 bt698.2.1)))=some (r1,r2):=by rw [← hbq42] at H;exact H
            have Nbq42:=Aside0.mk hbq42;clear hbq42
            by_cases c43:bq42=true
            ·subst c43;rw [if_pos rfl] at H;replace H:=Option.bind_eq_some_iff.mp H;obtain ⟨⟨t690,t693⟩,A440,H⟩:=H
             (try dsimp only at H)
             have A44:=Aside0.mk A440;clear A440;have H':=Aside0.mk H;clear H;have p689:0≤(x11_2:Int):=of_decide_eq_true bA;have q689:x11_2<(l1.length:Int):=of_decide_eq_true bA;obtain ⟨ad689,e689,hx689_0,hx689_1,hx689_2⟩:=at_T61 HR1.out x11_2 p689 q689
             (try rw [← Nbq42.out] at hx689_0)
             cases e689;replace hx689_0:=(HB.out.cell (World.block_lt_of_cell? w _ hx689_0)).trans hx689_0;replace hx689_1:=(HB.out.cell (World.block_lt_of_cell? w _ hx689_1)).trans hx689_1;replace hx689_2:=(HB.out.cell (World.block_lt_of_cell? w _ hx689_2)).trans hx689_2;replace p689:=eq_true p689;replace q689:=eq_true q689;have hnb45:=NB668_669.out;have hnc45:=NB669_668.out;obtain ⟨hcz46_0,hcz46_1,hfz46_0,hfz46_1⟩:=box2 BK668.out;obtain ⟨Ao47,co47,eo47⟩:=Kd.R_slice HO_669000.out;subst eo47;obtain ⟨Ao48,co48,eo48⟩:=Kd.R_slice HO_669001.out;subst eo48
             go_wp2_with (first|((with_reducible refine gate_callee (f:=45) rfl ?_);refine goesL_ (some 44) rfl rfl Try.func45 (by kernel_rfl) rfl #[.agg #[.slice Ao47 x669000_2.length co47,.slice Ao48 x669001_2.length co48]] rfl bM ?_;(with_reducible refine (spec_SecFlush.calls kj27 _ _ x669000_2 _ _ x669001_2 t690 t693 _ ?side1 ?side2 ?side3 ?side4 A44.out).mono ?_);(case side1=>exact pC (Kd.R_reads' HO_669000.out).2.2);(case side2=>exact (Kd.R_reads' HO_669000.out).2.1);(case side3=>exact pC (Kd.R_reads' HO_669001.out).2.2);(case side4=>exact (Kd.R_reads' HO_669001.out).2.1);rintro e w49 ⟨v691,v694,rfl,ho0,ho1,hb⟩;refine ⟨_,rfl,?_⟩;have n0_:=Aside0.mk (Kd.R_elder' (pR HO_669000.out) (Kd.R_base ho0) hb);have n1_:=Aside0.mk (Kd.R_elder' (pR HO_669001.out) (Kd.R_base ho1) hb);have n2_:=Aside0.mk (Kd.R_lower (Kd.R_new' ho0 (Kd.R_lt (pR HO_669000.out))) (below_size (pS HB.out)));have n3_:=Aside0.mk (Kd.R_lower (Kd.R_new' ho1 (Kd.R_lt (pR HO_669001.out))) (below_size (pS HB.out)));have n4_:=Aside0.mk (blk_below (pK BK668.out) hb);have n5_:=Aside0.mk (blk_below (pK BK669.out) hb);have n6_:=Aside0.mk (below_step (pS HB.out) hb);clear HO_669000;clear HO_669001;clear BK668;clear BK669;clear HB;have HO_669000:=n0_;have HO_669001:=n1_;have HO692:=n2_;have HO695:=n3_;have BK668:=n4_;have BK669:=n5_;have HB:=n6_;clear n0_ n1_ n2_ n3_ n4_ n5_ n6_;(try clear hb);(try clear hb2);(try clear hk);(try clear hi);(try clear ho0);(try clear ho1);obtain ⟨Ao50,co50,eo50⟩:=Kd.R_slice HO692.out;subst eo50;obtain ⟨hcz51_0,hcz51_1,hfz51_0,hfz51_1⟩:=box2 BK668.out;obtain ⟨Ao52,co52,eo52⟩:=Kd.R_slice HO695.out;subst eo52))
             go_roundg kj27
             case measure=>have:=HJ5.out;have:=HK2.out;have:=HJ27.out;omega
             case rel=>exact ⟨(wrap64 (x11_2+1)),(t690),(t693),(.slice Ao50 t690.length co50),(.slice Ao52 t693.length co52),(by first|rfl|(simp;done)|(simp [*];done)),H',⟨by have:=HJ5.out;have:=HK2.out;have:=HJ27.out;omega⟩,⟨pR (Kd.R_mono (Kd.R_far (p:=⟨gb668,1,none⟩) (Kd.R_far (p:=⟨gb668,0,none⟩) (Kd.R_types HO692.out BK668.out (by decide)) (fun _ hk=>hk.2) (.slice Ao50 t690.length co50)) (fun _ hk=>hk.2) (.slice Ao52 t693.length co52)) (fun _ hk=>trivial))⟩,⟨pR (Kd.R_mono (Kd.R_far (p:=⟨gb668,1,none⟩) (Kd.R_far (p:=⟨gb668,0,none⟩) (Kd.R_types HO695.out BK668.out (by decide)) (fun _ hk=>hk.2) (.slice Ao50 t690.length co50)) (fun _ hk=>hk.2) (.slice Ao52 t693.length co52)) (fun _ hk=>trivial))⟩,⟨by (with_reducible repeat (first|refine blk_drewN ?_ _|refine blk_drew ?_|refine blk_alloc ?_ _));refine blk_put (cs:=#[.slice Ao50 t690.length co50,.slice Ao48 x669001_2.length co48]) ?_ 1 _ rfl;(with_reducible repeat (first|refine blk_drewN ?_ _|refine blk_drew ?_|refine blk_alloc ?_ _));refine blk_put (cs:=#[.slice Ao47 x669000_2.length co47,.slice Ao48 x669001_2.length co48]) ?_ 0 _ rfl;(with_reducible repeat (first|refine blk_drewN ?_ _|refine blk_drew ?_|refine blk_alloc ?_ _));exact BK668.out⟩,⟨pF BK669.out⟩,⟨pS HB.out⟩⟩
            ·replace c43:=Bool.eq_false_iff.mpr c43;subst c43
             rw [if_neg (show ¬ (false=true) by decide)] at H
             replace H:=Option.bind_eq_some_iff.mp H;obtain ⟨⟨t698,t701,t704⟩,A530,H⟩:=H
             (try dsimp only at H)
             have A53:=Aside0.mk A530;clear A530;have H':=Aside0.mk H;clear H;have p689:0≤(x11_2:Int):=of_decide_eq_true bA;have q689:x11_2<(l1.length:Int):=of_decide_eq_true bA;obtain ⟨ad689,e689,hx689_0,hx689_1,hx689_2⟩:=at_T61 HR1.out x11_2 p689 q689
             (try rw [← Nbq42.out] at hx689_0)
             cases e689;replace hx689_0:=(HB.out.cell (World.block_lt_of_cell? w _ hx689_0)).trans hx689_0;replace hx689_1:=(HB.out.cell (World.block_lt_of_cell? w _ hx689_1)).trans hx689_1;replace hx689_2:=(HB.out.cell (World.block_lt_of_cell? w _ hx689_2)).trans hx689_2;replace p689:=eq_true p689;replace q689:=eq_true q689
             try go_wp2
             have n0_:=Aside0.mk (Kd.R_drew HO_669000.out);have n1_:=Aside0.mk (Kd.R_drew HO_669001.out);have n2_:=Aside0.mk (blk_drew BK668.out);have n3_:=Aside0.mk (blk_drew BK669.out);have n4_:=Aside0.mk (below_drew1 HB.out);clear HO_669000;clear HO_669001;clear BK668;clear BK669;clear HB;have HO_669000:=n0_;have HO_669001:=n1_;have BK668:=n2_;have BK669:=n3_;have HB:=n4_;clear n0_ n1_ n2_ n3_ n4_;have p696:0≤(x11_2:Int):=of_decide_eq_true bA;have q696:x11_2<(l1.length:Int):=of_decide_eq_true bA;obtain ⟨ad696,e696,hx696_0,hx696_1,hx696_2⟩:=at_T61 HR1.out x11_2 p696 q696;have hw696_2:=hx696_2
             (try rw [← Nbq42.out] at hw696_2)
             have hw696_1:=hx696_1
             (try rw [← Nbq42.out] at hw696_1)
             have hw696_0:=hx696_0
             (try rw [← Nbq42.out] at hw696_0)
             (try rw [← Nbq42.out] at hx696_0)
             obtain rfl:ad689=ad696:=(by injection e696)
             replace hx696_0:=(HB.out.cell (World.block_lt_of_cell? w _ hx696_0)).trans hx696_0;replace hx696_1:=(HB.out.cell (World.block_lt_of_cell? w _ hx696_1)).trans hx696_1;replace hx696_2:=(HB.out.cell (World.block_lt_of_cell? w _ hx696_2)).trans hx696_2;replace p696:=eq_true p696;replace q696:=eq_true q696;have p697:0≤(x11_2:Int):=of_decide_eq_true bA;have q697:x11_2<(l1.length:Int):=of_decide_eq_true bA;obtain ⟨ad697,e697,hx697_0,hx697_1,hx697_2⟩:=at_T61 HR1.out x11_2 p697 q697;have hw697_2:=hx697_2
             (try rw [← Nbq42.out] at hw697_2)
             have hw697_1:=hx697_1
             (try rw [← Nbq42.out] at hw697_1)
             have hw697_0:=hx697_0
             (try rw [← Nbq42.out] at hw697_0)
             (try rw [← Nbq42.out] at hx697_0)
             obtain rfl:ad689=ad697:=(by injection e697)
             replace hx697_0:=(HB.out.cell (World.block_lt_of_cell? w _ hx697_0)).trans hx697_0;replace hx697_1:=(HB.out.cell (World.block_lt_of_cell? w _ hx697_1)).trans hx697_1;replace hx697_2:=(HB.out.cell (World.block_lt_of_cell? w _ hx697_2)).trans hx697_2;replace p697:=eq_true p697;replace q697:=eq_true q697;obtain ⟨Ao55,co55,eo55⟩:=Kd.R_slice HO_669000.out
             (first|subst eo55|(injection eo55 with f1_ f2_ f3_;have f4_:=f1_.symm;have f5_:=f3_.symm;clear f1_ f2_ f3_;subst f4_;subst f5_))
             obtain ⟨Ao56,co56,eo56⟩:=Kd.R_slice HO_669001.out
             (first|subst eo56|(injection eo56 with f1_ f2_ f3_;have f4_:=f1_.symm;have f5_:=f3_.symm;clear f1_ f2_ f3_;subst f4_;subst f5_))
             refine start_ (n:=16) (S:=fun w'=>w'.cell? ⟨gb668,0,none⟩=some (.slice Ao55 x669000_2.length co55)∧w'.cell? ⟨gb668,1,none⟩=some (.slice Ao56 x669001_2.length co56)∧w'.cell? (ad689.add ((x11_2).toNat * 3))=some (.bool (false))∧w'.cell? ⟨(ad689.add ((x11_2).toNat * 3)).block,(ad689.add ((x11_2).toNat * 3)).off+1,none⟩=some (.int .i64 ((rd_T61 l1 x11_2).f1))∧w'.cell? ⟨(ad689.add ((x11_2).toNat * 3)).block,(ad689.add ((x11_2).toNat * 3)).off+2,none⟩=some (.string ((rd_T61 l1 x11_2).f2))∧w'.cell? (ad689.add ((x11_2).toNat * 3))=some (.bool (false))∧w'.cell? ⟨(ad689.add ((x11_2).toNat * 3)).block,(ad689.add ((x11_2).toNat * 3)).off+1,none⟩=some (.int .i64 ((rd_T61 l1 x11_2).f1))∧w'.cell? ⟨(ad689.add ((x11_2).toNat * 3)).block,(ad689.add ((x11_2).toNat * 3)).off+2,none⟩=some (.string ((rd_T61 l1 x11_2).f2))) (ds:=[15]) #[false,false,false,false,false,false,false,false,false,false,false,false,false,false,false,false] (by kernel_rfl) rfl rfl ⟨(blk_cell BK668.out 0).trans rfl,(blk_cell BK668.out 1).trans rfl,((HB.out.cell (World.block_lt_of_cell? w _ hw696_0)).trans hw696_0),((HB.out.cell (World.block_lt_of_cell? w _ hw696_1)).trans hw696_1),((HB.out.cell (World.block_lt_of_cell? w _ hw696_2)).trans hw696_2),((HB.out.cell (World.block_lt_of_cell? w _ hw697_0)).trans hw697_0),((HB.out.cell (World.block_lt_of_cell? w _ hw697_1)).trans hw697_1),((HB.out.cell (World.block_lt_of_cell? w _ hw697_2)).trans hw697_2)⟩ (fun hHeld=>?_);refine with_tabW spec_WalDo.tab11 spec_WalDo.bits11 (fun HT_ HW_=>?_)
             generalize wc.drew=w54 at HO_669000 HO_669001 BK668 BK669 HB hx696_0 hx696_1 hx696_2 hx697_0 hx697_1 hx697_2 hHeld ⊢
             refine pure_ (i:=1) (N:=some 47) (v:=?_) (a':=?_) #[false,true,false,false,false,false,false,false,false,false,false,false,false,false,false,false] rfl rfl (any_of HT_.out (by kernel_rfl)) (fun _ _ _ h=>h) (Or.inl ⟨by rfl,?_⟩) ?_ ?_
             rotate_left
             ·intro w';go_simp;with_reducible rfl
             rotate_left
             ·simp only [Act.put,List.setIfInBounds_toArray,List.set_cons_zero,List.set_cons_succ,i64_w,i32_w];rfl
             refine pure_ (i:=2) (N:=some 48) (v:=?_) (a':=?_) #[false,true,true,false,false,false,false,false,false,false,false,false,false,false,false,false] rfl rfl (any_of HT_.out (by kernel_rfl)) (fun _ _ _ h=>h) (Or.inl ⟨by rfl,?_⟩) ?_ ?_
             rotate_left
             ·intro w';go_simp;with_reducible rfl
             rotate_left
             ·simp only [Act.put,List.setIfInBounds_toArray,List.set_cons_zero,List.set_cons_succ,i64_w,i32_w];rfl
             refine pure_ (i:=3) (N:=some 49) (v:=?_) (a':=?_) #[false,true,true,true,false,false,false,false,false,false,false,false,false,false,false,false] rfl rfl (any_of HT_.out (by kernel_rfl)) (fun _ _ _ h=>h) (Or.inl ⟨by rfl,?_⟩) ?_ ?_
             rotate_left
             ·intro w';go_simp;with_reducible rfl
             rotate_left
             ·simp only [Act.put,List.setIfInBounds_toArray,List.set_cons_zero,List.set_cons_succ,i64_w,i32_w];rfl
             refine pure_ (i:=4) (N:=some 50) (v:=?_) (a':=?_) #[false,true,true,true,true,false,false,false,false,false,false,false,false,false,false,false] rfl rfl (any_of HT_.out (by kernel_rfl)) (fun _ _ _ h=>h) (Or.inl ⟨by rfl,?_⟩) ?_ ?_
             rotate_left
             ·intro w';go_simp;with_reducible rfl
             rotate_left
             ·simp only [Act.put,List.setIfInBounds_toArray,List.set_cons_zero,List.set_cons_succ,i64_w,i32_w];rfl
             refine pure_ (i:=6) (N:=some 52) (v:=?_) (a':=?_) #[false,true,true,true,true,false,true,false,false,false,false,false,false,false,false,false] rfl rfl (any_of HT_.out (by kernel_rfl)) (fun _ _ _ h=>h) (Or.inl ⟨by rfl,?_⟩) ?_ ?_
             rotate_left
             ·intro w';go_simp;with_reducible rfl
             rotate_left
             ·simp only [Act.put,List.setIfInBounds_toArray,List.set_cons_zero,List.set_cons_succ,i64_w,i32_w];rfl
             refine pure_ (i:=7) (N:=some 53) (v:=?_) (a':=?_) #[false,true,true,true,true,false,true,true,false,false,false,false,false,false,false,false] rfl rfl (any_of HT_.out (by kernel_rfl)) (fun _ _ _ h=>h) (Or.inl ⟨by rfl,?_⟩) ?_ ?_
             rotate_left
             ·intro w';go_simp;with_reducible rfl
             rotate_left
             ·simp only [Act.put,List.setIfInBounds_toArray,List.set_cons_zero,List.set_cons_succ,i64_w,i32_w];rfl
             refine pure_ (i:=8) (N:=some 54) (v:=?_) (a':=?_) #[false,true,true,true,true,false,true,true,true,false,false,false,false,false,false,false] rfl rfl (any_of HT_.out (by kernel_rfl)) (fun _ _ _ h=>h) (Or.inl ⟨by rfl,?_⟩) ?_ ?_
             rotate_left
             ·intro w';go_simp;with_reducible rfl
             rotate_left
             ·simp only [Act.put,List.setIfInBounds_toArray,List.set_cons_zero,List.set_cons_succ,i64_w,i32_w];rfl
             refine pure_ (i:=9) (N:=some 55) (v:=?_) (a':=?_) #[false,true,true,true,true,false,true,true,true,true,false,false,false,false,false,false] rfl rfl (any_of HT_.out (by kernel_rfl)) (fun _ _ _ h=>h) (Or.inl ⟨by rfl,?_⟩) ?_ ?_
             rotate_left
             ·intro w';go_simp;with_reducible rfl
             rotate_left
             ·simp only [Act.put,List.setIfInBounds_toArray,List.set_cons_zero,List.set_cons_succ,i64_w,i32_w];rfl
             refine take_ (i:=0) (N:=some 46) (v:=?_) (a':=?_) #[true,true,true,true,true,false,true,true,true,true,false,false,false,false,false,false] rfl rfl (take_ofW HT_.out HW_.out (by kernel_rfl)) (fun _ _ _ h=>h) (Or.inl ⟨by rfl,?_⟩) hHeld ?_ ?_
             rotate_left
             ·rintro w' ⟨s0,s1,s2,s3,s4,s5,s6,s7⟩;go_simp;with_reducible rfl
             rotate_left
             ·simp only [Act.put,List.setIfInBounds_toArray,List.set_cons_zero,List.set_cons_succ,i64_w,i32_w];rfl
             refine take_ (i:=5) (N:=some 51) (v:=?_) (a':=?_) #[true,true,true,true,true,true,true,true,true,true,false,false,false,false,false,false] rfl rfl (take_ofW HT_.out HW_.out (by kernel_rfl)) (fun _ _ _ h=>h) (Or.inl ⟨by rfl,?_⟩) hHeld ?_ ?_
             rotate_left
             ·rintro w' ⟨s0,s1,s2,s3,s4,s5,s6,s7⟩;go_simp;with_reducible rfl
             rotate_left
             ·simp only [Act.put,List.setIfInBounds_toArray,List.set_cons_zero,List.set_cons_succ,i64_w,i32_w];rfl
             refine take_ (i:=10) (N:=some 56) (v:=?_) (a':=?_) #[true,true,true,true,true,true,true,true,true,true,true,false,false,false,false,false] rfl rfl (take_ofW HT_.out HW_.out (by kernel_rfl)) (fun _ _ _ h=>h) (Or.inl ⟨by rfl,?_⟩) hHeld ?_ ?_
             rotate_left
             ·rintro w' ⟨s0,s1,s2,s3,s4,s5,s6,s7⟩;go_simp;with_reducible rfl
             rotate_left
             ·simp only [Act.put,List.setIfInBounds_toArray,List.set_cons_zero,List.set_cons_succ,i64_w,i32_w];rfl
             refine one_ (i:=11) (N:=some 57) #[true,true,true,true,true,true,true,true,true,true,true,true,false,false,false,false] rfl rfl (one_of HT_.out (by kernel_rfl)) (by decide) (fun K hK=>?_)
             refine goes_ Try.func71 (by kernel_rfl) rfl #[.agg #[.slice Ao55 x669000_2.length co55,.slice Ao56 x669001_2.length co56],.int .i64 ((rd_T61 l1 x11_2).f1),.string ((rd_T61 l1 x11_2).f2)] (by rfl) rfl rfl bM ?_
             with_reducible refine (spec_SecPut.calls kj27 _ _ x669000_2 _ _ x669001_2 ((rd_T61 l1 x11_2).f1) ((rd_T61 l1 x11_2).f2) t698 t701 t704 _ ?side1 ?side2 ?side3 ?side4 A53.out).mono ?_
             (case side1=>exact pC (Kd.R_reads' HO_669000.out).2.2)
             (case side2=>exact (Kd.R_reads' HO_669000.out).2.1)
             (case side3=>exact pC (Kd.R_reads' HO_669001.out).2.2)
             (case side4=>exact (Kd.R_reads' HO_669001.out).2.1)
             rintro e w57 ⟨v699,v702,rfl,ho0,ho1,hb⟩;refine ⟨_,rfl,?_⟩;have n0_:=Aside0.mk (Kd.R_elder' (pR HO_669000.out) (Kd.R_base ho0) hb);have n1_:=Aside0.mk (Kd.R_elder' (pR HO_669001.out) (Kd.R_base ho1) hb);have n2_:=Aside0.mk (Kd.R_lower (Kd.R_new' ho0 (Kd.R_lt (pR HO_669000.out))) (below_size (pS HB.out)));have n3_:=Aside0.mk (Kd.R_lower (Kd.R_new' ho1 (Kd.R_lt (pR HO_669001.out))) (below_size (pS HB.out)));have n4_:=Aside0.mk (blk_below (pK BK668.out) hb);have n5_:=Aside0.mk (blk_below (pK BK669.out) hb);have n6_:=Aside0.mk (below_step (pS HB.out) hb);clear HO_669000;clear HO_669001;clear BK668;clear BK669;clear HB;have HO_669000:=n0_;have HO_669001:=n1_;have HO700:=n2_;have HO703:=n3_;have BK668:=n4_;have BK669:=n5_;have HB:=n6_;clear n0_ n1_ n2_ n3_ n4_ n5_ n6_
             (try clear hb)
             (try clear hb2)
             (try clear hk)
             (try clear hi)
             (try clear ho0)
             (try clear ho1)
             obtain ⟨Ao58,co58,eo58⟩:=Kd.R_slice HO700.out
             (first|subst eo58|(injection eo58 with f1_ f2_ f3_;have f4_:=f1_.symm;have f5_:=f3_.symm;clear f1_ f2_ f3_;subst f4_;subst f5_))
             obtain ⟨Ao60,co60,eo60⟩:=Kd.R_slice HO703.out
             (first|subst eo60|(injection eo60 with f1_ f2_ f3_;have f4_:=f1_.symm;have f5_:=f3_.symm;clear f1_ f2_ f3_;subst f4_;subst f5_))
             refine hK.out _ _ ⟨(blk_cell BK668.out 0).trans rfl,(blk_cell BK668.out 1).trans rfl,((HB.out.cell (World.block_lt_of_cell? w _ hw696_0)).trans hw696_0),((HB.out.cell (World.block_lt_of_cell? w _ hw696_1)).trans hw696_1),((HB.out.cell (World.block_lt_of_cell? w _ hw696_2)).trans hw696_2),((HB.out.cell (World.block_lt_of_cell? w _ hw697_0)).trans hw697_0),((HB.out.cell (World.block_lt_of_cell? w _ hw697_1)).trans hw697_1),((HB.out.cell (World.block_lt_of_cell? w _ hw697_2)).trans hw697_2)⟩ (fun hHeld=>?_);clear hK K;refine norm_ (a':=?_) ?_ ?_;rotate_left
             ·show Act.put _ (some 57) _=_
              simp only [Act.put,List.setIfInBounds_toArray,List.set_cons_zero,List.set_cons_succ,i64_w,i32_w];rfl
             refine pure_ (i:=12) (N:=some 45) (v:=?_) (a':=?_) #[true,true,true,true,true,true,true,true,true,true,true,true,true,false,false,false] rfl rfl (any_of HT_.out (by kernel_rfl)) (fun _ _ _ h=>h) (Or.inl ⟨by rfl,?_⟩) ?_ ?_
             rotate_left
             ·intro w';go_simp;with_reducible rfl
             rotate_left
             ·simp only [Act.put,List.setIfInBounds_toArray,List.set_cons_zero,List.set_cons_succ,i64_w,i32_w];rfl
             refine pure_ (i:=13) (N:=some 58) (v:=?_) (a':=?_) #[true,true,true,true,true,true,true,true,true,true,true,true,true,true,false,false] rfl rfl (any_of HT_.out (by kernel_rfl)) (fun _ _ _ h=>h) (Or.inl ⟨by rfl,?_⟩) ?_ ?_
             rotate_left
             ·intro w';go_simp;with_reducible rfl
             rotate_left
             ·simp only [Act.put,List.setIfInBounds_toArray,List.set_cons_zero,List.set_cons_succ,i64_w,i32_w];rfl
             refine pure_ (i:=14) (N:=some 59) (v:=?_) (a':=?_) #[true,true,true,true,true,true,true,true,true,true,true,true,true,true,true,false] rfl rfl (any_of HT_.out (by kernel_rfl)) (fun _ _ _ h=>h) (Or.inl ⟨by rfl,?_⟩) ?_ ?_
             rotate_left
             ·intro w';go_simp;with_reducible rfl
             rotate_left
             ·simp only [Act.put,List.setIfInBounds_toArray,List.set_cons_zero,List.set_cons_succ,i64_w,i32_w];rfl
             refine last_ (i:=15) (N:=none) #[true,true,true,true,true,true,true,true,true,true,true,true,true,true,true,true] rfl rfl (one_of HT_.out (by kernel_rfl)) (by decide) (fun K hK=>?_)
             have hs59:w57.cell? ⟨gb668,0,none⟩=some (.slice Ao55 x669000_2.length co55):=(blk_cell BK668.out 0).trans rfl;have hfs59:=blk_frozen BK668.out 0;have hns59_1:=NB669_668.out;have hms59_1:=NB668_669.out;have hs61:w57.cell? ⟨gb668,1,none⟩=some (.slice Ao56 x669001_2.length co56):=(blk_cell BK668.out 1).trans rfl;have hfs61:=blk_frozen BK668.out 1;have hns61_1:=NB669_668.out;have hms61_1:=NB668_669.out
             refine skip_ (w1:=?_) (by rfl) rfl ?_ ?_
             rotate_left
             ·go_simp;rfl
             refine hK.out _ _ ?_;clear hK K
             refine done_ (done_of HT_.out (by kernel_rfl)) ?_
             try go_wp2
             go_roundg kj27
             case measure=>have:=HJ5.out;have:=HK2.out;have:=HJ27.out;omega
             case rel=>exact ⟨(wrap64 (x11_2+1)),(t698),(t701),(.slice Ao58 t698.length co58),(.slice Ao60 t701.length co60),(by first|rfl|(simp;done)|(simp [*];done)),H',⟨by have:=HJ5.out;have:=HK2.out;have:=HJ27.out;omega⟩,⟨pR (Kd.R_mono (Kd.R_far (p:=⟨gb668,1,none⟩) (Kd.R_far (p:=⟨gb668,0,none⟩) (Kd.R_types HO700.out BK668.out (by decide)) (fun _ hk=>hk.2) (.slice Ao58 t698.length co58)) (fun _ hk=>hk.2) (.slice Ao60 t701.length co60)) (fun _ hk=>trivial))⟩,⟨pR (Kd.R_mono (Kd.R_far (p:=⟨gb668,1,none⟩) (Kd.R_far (p:=⟨gb668,0,none⟩) (Kd.R_types HO703.out BK668.out (by decide)) (fun _ hk=>hk.2) (.slice Ao58 t698.length co58)) (fun _ hk=>hk.2) (.slice Ao60 t701.length co60)) (fun _ hk=>trivial))⟩,⟨by (with_reducible repeat (first|refine blk_drewN ?_ _|refine blk_drew ?_|refine blk_alloc ?_ _));refine blk_put (cs:=#[.slice Ao58 t698.length co58,.slice Ao56 x669001_2.length co56]) ?_ 1 _ rfl;(with_reducible repeat (first|refine blk_drewN ?_ _|refine blk_drew ?_|refine blk_alloc ?_ _));refine blk_put (cs:=#[.slice Ao55 x669000_2.length co55,.slice Ao56 x669001_2.length co56]) ?_ 0 _ rfl;(with_reducible repeat (first|refine blk_drewN ?_ _|refine blk_drew ?_|refine blk_alloc ?_ _));exact BK668.out⟩,⟨pF BK669.out⟩,⟨pS HB.out⟩⟩
           ·rw [if_neg c41] at H
            exact absurd H (by simp)
          ·rw [if_neg c40] at H
           exact absurd H (by simp)
      ·rw [if_neg c27] at H;have c27b0:decide (x11_2<(l1.length:Int))=false:=decide_eq_false c27;clear c27
       by_cases c62:a2=true
       ·subst c62;rw [if_pos rfl] at H;replace H:=Option.bind_eq_some_iff.mp H;obtain ⟨⟨t677,t680⟩,A630,H⟩:=H
        (try dsimp only at H)
        have A63:=Aside0.mk A630;clear A630;simp only [Option.some.injEq,Prod.mk.injEq] at H;obtain ⟨rfl,rfl⟩:=H;have hnb64:=NB668_669.out;have hnc64:=NB669_668.out;obtain ⟨hcz65_0,hcz65_1,hfz65_0,hfz65_1⟩:=box2 BK668.out;obtain ⟨Ao66,co66,eo66⟩:=Kd.R_slice HO_669000.out;subst eo66;obtain ⟨Ao67,co67,eo67⟩:=Kd.R_slice HO_669001.out;subst eo67
        go_wp2_with (first|((with_reducible refine gate_callee (f:=70) rfl ?_);refine goesL_ (some 63) rfl rfl Try.func70 (by kernel_rfl) rfl #[.agg #[.slice Ao66 x669000_2.length co66,.slice Ao67 x669001_2.length co67],.slice A4 l4.length c4] rfl bM ?_;(with_reducible refine (spec_SecCut.calls k2 _ _ x669000_2 _ _ x669001_2 _ _ l4 t677 t680 _ ?side1 ?side2 ?side3 ?side4 ?side5 ?side6 A63.out).mono ?_);(case side1=>exact pC (Kd.R_reads' HO_669000.out).2.2);(case side2=>exact (Kd.R_reads' HO_669000.out).2.1);(case side3=>exact pC (Kd.R_reads' HO_669001.out).2.2);(case side4=>exact (Kd.R_reads' HO_669001.out).2.1);(case side5=>exact pC (Kd.C_below HR4.out HB.out));(case side6=>exact HC4.out);rintro e w68 ⟨v678,v681,rfl,ho0,ho1,hb⟩;refine ⟨_,rfl,?_⟩;have n0_:=Aside0.mk (Kd.R_elder' (pR HO_669000.out) (Kd.R_base ho0) hb);have n1_:=Aside0.mk (Kd.R_elder' (pR HO_669001.out) (Kd.R_base ho1) hb);have n2_:=Aside0.mk (Kd.R_lower (Kd.R_new' ho0 (Kd.R_lt (pR HO_669000.out))) (below_size (pS HB.out)));have n3_:=Aside0.mk (Kd.R_lower (Kd.R_new' ho1 (Kd.R_lt (pR HO_669001.out))) (below_size (pS HB.out)));have n4_:=Aside0.mk (blk_below (pK BK668.out) hb);have n5_:=Aside0.mk (blk_below (pK BK669.out) hb);have n6_:=Aside0.mk (below_step (pS HB.out) hb);clear HO_669000;clear HO_669001;clear BK668;clear BK669;clear HB;have HO_669000:=n0_;have HO_669001:=n1_;have HO679:=n2_;have HO682:=n3_;have BK668:=n4_;have BK669:=n5_;have HB:=n6_;clear n0_ n1_ n2_ n3_ n4_ n5_ n6_;(try clear hb);(try clear hb2);(try clear hk);(try clear hi);(try clear ho0);(try clear ho1);obtain ⟨Ao69,co69,eo69⟩:=Kd.R_slice HO679.out;subst eo69;obtain ⟨hcz70_0,hcz70_1,hfz70_0,hfz70_1⟩:=box2 BK669.out;obtain ⟨Ao71,co71,eo71⟩:=Kd.R_slice HO682.out;subst eo71))
        refine bodyPost_ret (results_cell_row rfl _ _ gb669 31 #[.slice Ao69 t677.length co69,.slice Ao71 t680.length co71] (0,0) _ rfl (by (with_reducible repeat (first|refine blk_drewN ?_ _|refine blk_drew ?_|refine blk_alloc ?_ _));refine blk_put (cs:=#[.slice Ao69 t677.length co69,.slice none 0 0]) ?_ 1 _ rfl;(with_reducible repeat (first|refine blk_drewN ?_ _|refine blk_drew ?_|refine blk_alloc ?_ _));refine blk_put (cs:=#[.slice none 0 0,.slice none 0 0]) ?_ 0 _ rfl;(with_reducible repeat (first|refine blk_drewN ?_ _|refine blk_drew ?_|refine blk_alloc ?_ _));exact BK669.out) Try.underlying31 rfl (by kernel_rfl)) rfl ?_
        exact ⟨_,_,by first|rfl|(simp [errW_none,errW_some]<;>rfl)|(simp [*,errW_none,errW_some]<;>rfl),pR (Kd.R_mono (Kd.R_far (p:=⟨gb669,1,none⟩) (Kd.R_far (p:=⟨gb669,0,none⟩) (Kd.R_types HO679.out BK669.out (by decide)) (fun _ hk=>hk.2) (.slice Ao69 t677.length co69)) (fun _ hk=>hk.2) (.slice Ao71 t680.length co71)) (fun _ hk=>trivial)),pR (Kd.R_mono (Kd.R_far (p:=⟨gb669,1,none⟩) (Kd.R_far (p:=⟨gb669,0,none⟩) (Kd.R_types HO682.out BK669.out (by decide)) (fun _ hk=>hk.2) (.slice Ao69 t677.length co69)) (fun _ hk=>hk.2) (.slice Ao71 t680.length co71)) (fun _ hk=>trivial)),pS HB.out⟩
       ·replace c62:=Bool.eq_false_iff.mpr c62;subst c62
        rw [if_neg (show ¬ (false=true) by decide)] at H
        simp only [Option.some.injEq,Prod.mk.injEq] at H;obtain ⟨rfl,rfl⟩:=H;have hnb72:=NB668_669.out;have hnc72:=NB669_668.out;obtain ⟨hcz73_0,hcz73_1,hfz73_0,hfz73_1⟩:=box2 BK668.out;obtain ⟨Ao74,co74,eo74⟩:=Kd.R_slice HO_669000.out;subst eo74;obtain ⟨hcz75_0,hcz75_1,hfz75_0,hfz75_1⟩:=box2 BK669.out;obtain ⟨Ao76,co76,eo76⟩:=Kd.R_slice HO_669001.out;subst eo76
        go_wp2
        refine bodyPost_ret (results_cell_row rfl _ _ gb669 31 #[.slice Ao74 x669000_2.length co74,.slice Ao76 x669001_2.length co76] (0,0) _ rfl (by (with_reducible repeat (first|refine blk_drewN ?_ _|refine blk_drew ?_|refine blk_alloc ?_ _));refine blk_put (cs:=#[.slice Ao74 x669000_2.length co74,.slice none 0 0]) ?_ 1 _ rfl;(with_reducible repeat (first|refine blk_drewN ?_ _|refine blk_drew ?_|refine blk_alloc ?_ _));refine blk_put (cs:=#[.slice none 0 0,.slice none 0 0]) ?_ 0 _ rfl;(with_reducible repeat (first|refine blk_drewN ?_ _|refine blk_drew ?_|refine blk_alloc ?_ _));exact BK669.out) Try.underlying31 rfl (by kernel_rfl)) rfl ?_
        exact ⟨_,_,by first|rfl|(simp [errW_none,errW_some]<;>rfl)|(simp [*,errW_none,errW_some]<;>rfl),pR (Kd.R_mono (Kd.R_far (p:=⟨gb669,1,none⟩) (Kd.R_far (p:=⟨gb669,0,none⟩) (Kd.R_types HO_669000.out BK669.out (by decide)) (fun _ hk=>hk.2) (.slice Ao74 x669000_2.length co74)) (fun _ hk=>hk.2) (.slice Ao76 x669001_2.length co76)) (fun _ hk=>trivial)),pR (Kd.R_mono (Kd.R_far (p:=⟨gb669,1,none⟩) (Kd.R_far (p:=⟨gb669,0,none⟩) (Kd.R_types HO_669001.out BK669.out (by decide)) (fun _ hk=>hk.2) (.slice Ao74 x669000_2.length co74)) (fun _ hk=>hk.2) (.slice Ao76 x669001_2.length co76)) (fun _ hk=>trivial)),pS HB.out⟩

/-! ### impl_copied_SecWrite: function 88 -/
def impl_copied_SecWrite.f (l0 : List S75) : Option (List S75) := if l0.length ≤ 11728124029610 then some l0 else none
set_option maxHeartbeats 8000000 in
set_option maxRecDepth 100000 in
theorem impl_copied_SecWrite.calls (A0 : Option Addr) (c0 : Nat) (l0 : List S75) (r : List S75) (w : World) (hr0 : Kd.C k75 w A0 l0.length l0) (hc0 : l0.length ≤ c0) (h : impl_copied_SecWrite.f l0 = some r) :
    Calls Try.prog 88 #[.slice A0 l0.length c0] w fun e w' => ∃ v0_ : Value, e = .returned (v0_) ∧ Kd.R k75 75 w' w.heap.size (fun _ => True) v0_ r ∧ Below w.heap.size w w' := by
  unfold impl_copied_SecWrite.f at h
  by_cases hz : l0.length ≤ 11728124029610
  · rw [if_pos hz] at h
    obtain rfl := Option.some.inj h
    have HR := Aside0.mk hr0
    have HZ := Aside0.mk hz
    clear hr0 hc0 h hz
    by_cases h0 : l0.length = 0
    · obtain rfl := List.eq_nil_of_length_eq_zero h0
      clear h0
      go_enter Try.func88, Try.ntmps88
      go_wp2
      go_ret
      exact ⟨_, rfl, Kd.R_nil _ _ _ _ _, Below.refl _ _⟩
    · have c0b : ((l0.length : Int) == 0) = false := beq_eq_false_iff_ne.mpr (by omega)
      have c0c : ((l0.length : Int) != 0) = true := bne_iff_ne.mpr (by omega)
      have c0d : ¬ (l0 = []) := fun h_ => h0 (by rw [h_]; rfl)
      clear h0
      have HB := Aside0.mk (Below.refl w.heap.size w)
      go_enter Try.func88, Try.ntmps88
      go_wp2_with (first
        | (refine Kd.R_make k75 _ 75 rfl (N := 9) rfl 29 _ _ rfl (l0.length : Int) rfl rfl Try.underlying29 (.agg #[(.int .i64 0), (.string ⟨#[]⟩)]) 24 info75 rfl (by decide) (by omega) z75 (ok := fun _ => True) (okp := fun _ => True) (k75_mkM _ _ _ z75) (fun _ hk => hk) trivial (Int.natCast_nonneg _) (by have hz := HZ.out; rw [Int.toNat_natCast]; omega) HB.out (Nat.le_refl _) ?_
           intro v1 w1 hR1 hB1 hg1 hn1
           rw [Int.toNat_natCast] at hR1
           have HR1 := Aside0.mk hR1
           have HB1 := Aside0.mk hB1
           have HC1 := Aside0.mk (Kd.C_below HR.out (below_of_grown hg1))
           clear hR1 hB1 hg1 hn1)
        | (refine R_copy k75 flat75 w.heap.size rfl _ _ 29 29 75 rfl Try.underlying29 (by rw [show (Try.prog.info? 75).map (·.size) = ((Try.prog.info? 75).map (fun i => (i.zero, i.size, i.bytes))).map (fun x => x.2.1) from by rw [Option.map_map]; rfl, info75]; rfl) _ _ _ _ _ l0 (fun _ => True) rfl rfl rfl (by simp) HR1.out HC1.out HB1.out ?_
           intro w2 hR2 hB2 _
           have HR2 := Aside0.mk hR2
           have HB2 := Aside0.mk hB2
           clear hR2 hB2))
      go_ret
      exact ⟨_, rfl, HR2.out, HB2.out⟩
  · rw [if_neg hz] at h; cases h

end Go.Proofs.Ythjocaegapchaaa.P
