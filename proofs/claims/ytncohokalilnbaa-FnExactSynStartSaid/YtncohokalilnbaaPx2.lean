-- printed by pprint.py (this session's program over the kit's printer) out of the translation. Lean checks it.
import Derived.Test.YtncohokalilnbaaPx0
namespace Go.Proofs.Ytncohokalilnbaa.P
open Go.RowKit Go.Proofs.YtncohokalilnbaaX Go.Proofs.YtncohokalilnbaaW.PrintWords Go.Proofs.YtncohokalilnbaaW.PrintLast Go.Proofs.YtncohokalilnbaaW.PrintMore
attribute [local go_sem] max2_int min2_int max_two min_two max_three min_three max_four min_four   -- for this text's walks alone
set_option linter.unusedVariables false
set_option linter.unusedSimpArgs false

/-! ### impl_SynStart: function 11 -/
def impl_SynStart.f  : Option ((List (S84)) × List Int × (List (S88)) × Unit × Unit) := if 3 ≤ 8796093022208 then (if 3 ≤ 35184372088832 then (if 3 ≤ 1256584717458 then (some ((List.replicate 3 z84), (List.replicate 3 0), (List.replicate 3 z88), (), ())) else (none)) else (none)) else (none)
set_option maxHeartbeats 8000000 in
set_option maxRecDepth 100000 in
theorem impl_SynStart.calls  (r1 : List (S84)) (r2 : List Int) (r3 : List (S88)) (r4 : Unit) (r5 : Unit) (w : World) (h : impl_SynStart.f  = some (r1, r2, r3, r4, r5)) :
  Calls Try.prog 11 #[] w fun e w'=>∃ v0_ v1_ v2_:Value,e=.returned (.agg #[v0_,v1_,v2_,.slice none 0 0,.slice none 0 0])∧Kd.R k84 84 w' w.heap.size (fun _=>True) v0_ r1∧Kd.R (Kd.int .i64) 3 w' w.heap.size (fun _=>True) v1_ r2∧Kd.R k88 88 w' w.heap.size (fun _=>True) v2_ r3∧Below w.heap.size w w':=by
 have hu28:=Try.underlying28;have HB:=mA (Below.refl w.heap.size w);have H:(if 3≤8796093022208 then (if 3≤35184372088832 then (if 3≤1256584717458 then (some ((List.replicate 3 z84),(List.replicate 3 0),(List.replicate 3 z88),(),())) else (none)) else (none)) else (none))=some (r1,r2,r3,r4,r5):=h;clear h
 by_cases c1:3≤8796093022208
 ·rw [if_pos c1] at H;have c1b0:=eq_true c1;have c1b1:decide (3≤8796093022208)=true:=decide_eq_true c1;clear c1;obtain ⟨y112,hy112⟩:∃ y_:List (S84),y_=(List.replicate 3 z84):=⟨_,rfl⟩
  replace H:(if 3≤35184372088832 then (if 3≤1256584717458 then (some (y112,(List.replicate 3 0),(List.replicate 3 z88),(),())) else (none)) else (none))=some (r1,r2,r3,r4,r5):=qH hy112 H
  have Ny112:=mA hy112;clear hy112
  by_cases c2:3≤35184372088832
  ·rw [if_pos c2] at H;have c2b0:=eq_true c2;have c2b1:decide (3≤35184372088832)=true:=decide_eq_true c2;clear c2;obtain ⟨y115,hy115⟩:∃ y_:List Int,y_=(List.replicate 3 0):=⟨_,rfl⟩
   replace H:(if 3≤1256584717458 then (some (y112,y115,(List.replicate 3 z88),(),())) else (none))=some (r1,r2,r3,r4,r5):=qH hy115 H
   have Ny115:=mA hy115;clear hy115
   by_cases c3:3≤1256584717458
   ·rw [if_pos c3] at H;have c3b0:=eq_true c3;have c3b1:decide (3≤1256584717458)=true:=decide_eq_true c3;clear c3;obtain ⟨y118,hy118⟩:∃ y_:List (S88),y_=(List.replicate 3 z88):=⟨_,rfl⟩
    replace H:(some (y112,y115,y118,(),()))=some (r1,r2,r3,r4,r5):=qH hy118 H
    have Ny118:=mA hy118;clear hy118;simp only [Option.some.injEq,Prod.mk.injEq] at H;obtain ⟨rfl,rfl,rfl,rfl,rfl⟩:=H
    go_enter Try.func11,Try.ntmps11
    try go_wp2_with (first|((with_reducible refine gT 0 rfl ?_);refine bJ 0 y28 ?_;intro gb111 hg w4 hbox hb;have BK111:=mA hbox;have GW111:=gbpB HB hg;have GE111:=gbpB HB hg;replace HB:=spB HB hb;clear hb hbox hg))
    replace BK111:=mA (blk_drew BK111.out);replace HB:=mA (below_drew1 HB.out)
    refine start_ (n:=5) (S:=fun w'=>True) (ds:=[]) _ aK rfl rfl trivial (fun hHeld=>?_)
    generalize w4.drew=w5 at BK111 HB hHeld ⊢
    refine join_ (σ:=Value × Value × Value) 2 #[true,true,true,false,false] (fun s_=>[(1,s_.1),(2,s_.2.1),(3,s_.2.2)]) (fun s_ w'=>(Kd.R k84 84 w' w.heap.size (fun _=>True) s_.1 y112)∧(Kd.R (Kd.int .i64) 3 w' w.heap.size (fun _=>True) s_.2.1 y115)∧(Kd.R k88 88 w' w.heap.size (fun _=>True) s_.2.2 y118)∧(w'.heap[gb111]?=some (.cells #[.slice none 0 0,.slice none 0 0,.slice none 0 0,.slice none 0 0,.slice none 0 0] 28 (0,0)))∧(Below w.heap.size w w')) ?_ ?_;rotate_left
    ·intro hJ0_1_2;refine join_ (σ:=Value × Value) 3 #[true,true,false,false,false] (fun s_=>[(1,s_.1),(2,s_.2)]) (fun s_ w'=>(Kd.R k84 84 w' w.heap.size (fun _=>True) s_.1 y112)∧(Kd.R (Kd.int .i64) 3 w' w.heap.size (fun _=>True) s_.2 y115)∧(w'.heap[gb111]?=some (.cells #[.slice none 0 0,.slice none 0 0,.slice none 0 0,.slice none 0 0,.slice none 0 0] 28 (0,0)))∧(Below w.heap.size w w')) ?_ ?_;rotate_left
     ·intro hJ0_1;refine join_ (σ:=Value × Value) 3 #[true,false,true,false,false] (fun s_=>[(1,s_.1),(3,s_.2)]) (fun s_ w'=>(Kd.R k84 84 w' w.heap.size (fun _=>True) s_.1 y112)∧(Kd.R k88 88 w' w.heap.size (fun _=>True) s_.2 y118)∧(w'.heap[gb111]?=some (.cells #[.slice none 0 0,.slice none 0 0,.slice none 0 0,.slice none 0 0,.slice none 0 0] 28 (0,0)))∧(Below w.heap.size w w')) ?_ ?_;rotate_left
      ·intro hJ0_2;refine join_ (σ:=Value × Value) 3 #[false,true,true,false,false] (fun s_=>[(2,s_.1),(3,s_.2)]) (fun s_ w'=>(Kd.R (Kd.int .i64) 3 w' w.heap.size (fun _=>True) s_.1 y115)∧(Kd.R k88 88 w' w.heap.size (fun _=>True) s_.2 y118)∧(w'.heap[gb111]?=some (.cells #[.slice none 0 0,.slice none 0 0,.slice none 0 0,.slice none 0 0,.slice none 0 0] 28 (0,0)))∧(Below w.heap.size w w')) ?_ ?_;rotate_left
       ·intro hJ1_2;refine join_ (σ:=Value) 4 #[true,false,false,false,false] (fun s_=>[(1,s_)]) (fun s_ w'=>(Kd.R k84 84 w' w.heap.size (fun _=>True) s_ y112)∧(w'.heap[gb111]?=some (.cells #[.slice none 0 0,.slice none 0 0,.slice none 0 0,.slice none 0 0,.slice none 0 0] 28 (0,0)))∧(Below w.heap.size w w')) ?_ ?_;rotate_left
        ·intro hJ0;refine join_ (σ:=Value) 4 #[false,true,false,false,false] (fun s_=>[(2,s_)]) (fun s_ w'=>(Kd.R (Kd.int .i64) 3 w' w.heap.size (fun _=>True) s_ y115)∧(w'.heap[gb111]?=some (.cells #[.slice none 0 0,.slice none 0 0,.slice none 0 0,.slice none 0 0,.slice none 0 0] 28 (0,0)))∧(Below w.heap.size w w')) ?_ ?_;rotate_left
         ·intro hJ1;refine join_ (σ:=Value) 4 #[false,false,true,false,false] (fun s_=>[(3,s_)]) (fun s_ w'=>(Kd.R k88 88 w' w.heap.size (fun _=>True) s_ y118)∧(w'.heap[gb111]?=some (.cells #[.slice none 0 0,.slice none 0 0,.slice none 0 0,.slice none 0 0,.slice none 0 0] 28 (0,0)))∧(Below w.heap.size w w')) ?_ ?_;rotate_left
          ·intro hJ2
           refine three_ (i:=0) (j:=1) (k:=2) (Ni:=some 1) (Nj:=some 2) (Nk:=some 3) #[true,false,false,false,false] #[false,true,false,false,false] #[false,false,true,false,false] rfl rfl rfl rfl rfl rfl aK aD aD aD (fun K hK=>?_) (fun K hK=>?_) (fun K hK=>?_)
           ·skip
            refine Kd.R_make_step k84 _ 84 (by rfl) (N:=1) rfl 22 _ _ rfl 3 rfl rfl Try.underlying22 (.agg #[(.int .i64 0),(.slice none 0 0)]) 32 info84 rfl aD (by omega) z84 (ok:=fun _=>True) (okp:=fun _=>True) (k84_mkM _ _ _ z84 ) (fun _ hk=>hk) trivial (by omega) (by omega) (Below.refl _ _) (Nat.le_refl _) ?_
            intro v113 w6 ho7 hb hg_ hnew_;clear hg_ hnew_
            (first|rw [← Ny112.out] at ho7|(simp only [Int.reduceToNat] at ho7;rw [← Ny112.out] at ho7))
            have HO114:=mA (Kd.R_lower ho7 (bpS HB));replace BK111:=bK BK111 hb;replace HB:=spS HB hb;clear hb ho7;refine hK.out _ _ trivial (fun hHeld=>?_);clear hK K;refine no_ (some 1) ?_
            exact norm_ (by first|(simp only [putAll,Act.put,List.setIfInBounds_toArray,List.set_cons_zero,List.set_cons_succ];done)|(simp only [putAll,Act.put,List.setIfInBounds_toArray,List.set_cons_zero,List.set_cons_succ];rfl)) (hJ0 (v113) _ ⟨(pR HO114.out),(pK BK111.out),(pS HB.out)⟩)
           ·skip
            refine Kd.R_make_step (Kd.int .i64) _ 3 (by rfl) (N:=2) rfl 23 _ _ rfl 3 rfl rfl Try.underlying23 (.int .i64 0) 8 info3 rfl aD (by omega) 0 (ok:=fun _=>True) (okp:=fun _=>True) rfl (fun _ hk=>hk) trivial (by omega) (by omega) (Below.refl _ _) (Nat.le_refl _) ?_
            intro v116 w6 ho7 hb hg_ hnew_;clear hg_ hnew_
            (first|rw [← Ny115.out] at ho7|(simp only [Int.reduceToNat] at ho7;rw [← Ny115.out] at ho7))
            have HO117:=mA (Kd.R_lower ho7 (bpS HB));replace BK111:=bK BK111 hb;replace HB:=spS HB hb;clear hb ho7;refine hK.out _ _ trivial (fun hHeld=>?_);clear hK K;refine no_ (some 2) ?_
            exact norm_ (by first|(simp only [putAll,Act.put,List.setIfInBounds_toArray,List.set_cons_zero,List.set_cons_succ];done)|(simp only [putAll,Act.put,List.setIfInBounds_toArray,List.set_cons_zero,List.set_cons_succ];rfl)) (hJ1 (v116) _ ⟨(pR HO117.out),(pK BK111.out),(pS HB.out)⟩)
           ·skip
            refine Kd.R_make_step k88 _ 88 (by rfl) (N:=3) rfl 24 _ _ rfl 3 rfl rfl Try.underlying24 (.agg #[(.int .i64 0),(.int .i64 0),(.int .i64 0),(.int .i64 0),(.int .i64 0),(.int .i64 0),(.int .i64 0),(.int .i64 0),(.int .i64 0),(.int .i64 0),(.int .i64 0),(.int .i64 0),(.int .i64 0),(.int .i64 0),(.int .i64 0),(.int .i64 0),(.int .i64 0),(.int .i64 0),(.int .i64 0),(.int .i64 0),(.int .i64 0),(.int .i64 0),(.int .i64 0),(.int .i64 0),(.int .i64 0),(.slice none 0 0)]) 224 info88 rfl aD (by omega) z88 (ok:=fun _=>True) (okp:=fun _=>True) (k88_mkM _ _ _ z88 ) (fun _ hk=>hk) trivial (by omega) (by omega) (Below.refl _ _) (Nat.le_refl _) ?_
            intro v119 w6 ho7 hb hg_ hnew_;clear hg_ hnew_
            (first|rw [← Ny118.out] at ho7|(simp only [Int.reduceToNat] at ho7;rw [← Ny118.out] at ho7))
            have HO120:=mA (Kd.R_lower ho7 (bpS HB));replace BK111:=bK BK111 hb;replace HB:=spS HB hb;clear hb ho7;refine hK.out _ _ trivial (fun hHeld=>?_);clear hK K;refine no_ (some 3) ?_
            exact norm_ (by first|(simp only [putAll,Act.put,List.setIfInBounds_toArray,List.set_cons_zero,List.set_cons_succ];done)|(simp only [putAll,Act.put,List.setIfInBounds_toArray,List.set_cons_zero,List.set_cons_succ];rfl)) (hJ2 (v119) _ ⟨(pR HO120.out),(pK BK111.out),(pS HB.out)⟩)
          ·skip
           rintro v119 w8 ⟨h0_,h1_,h2_⟩;have n0_:Aside0 (Kd.R k88 88 w8 w.heap.size (fun _=>True) v119 y118):=⟨h0_⟩;have n1_:Aside0 (w8.heap[gb111]?=some (.cells #[.slice none 0 0,.slice none 0 0,.slice none 0 0,.slice none 0 0,.slice none 0 0] 28 (0,0))):=⟨h1_⟩;have n2_:Aside0 (Below w.heap.size w w8):=⟨h2_⟩;clear BK111;clear HB;clear h0_ h1_ h2_;have HO120:=n0_;have BK111:=n1_;have HB:=n2_;clear n0_ n1_ n2_;have hHeld:=trivial;refine norm_ (a':=?_) ?_ ?_;rotate_left
           ·simp only [putAll,Act.put,List.setIfInBounds_toArray,List.set_cons_zero,List.set_cons_succ];rfl
           refine two_ (i:=0) (j:=1) (Ni:=some 1) (Nj:=some 2) #[true,false,true,false,false] #[false,true,true,false,false] rfl rfl rfl rfl aK aD aD (fun K hK=>?_) (fun K hK=>?_)
           ·skip
            refine Kd.R_make_step k84 _ 84 (by rfl) (N:=1) rfl 22 _ _ rfl 3 rfl rfl Try.underlying22 (.agg #[(.int .i64 0),(.slice none 0 0)]) 32 info84 rfl aD (by omega) z84 (ok:=fun _=>True) (okp:=fun _=>True) (k84_mkM _ _ _ z84 ) (fun _ hk=>hk) trivial (by omega) (by omega) (Below.refl _ _) (Nat.le_refl _) ?_
            intro v113 w9 ho10 hb hg_ hnew_;clear hg_ hnew_
            (first|rw [← Ny112.out] at ho10|(simp only [Int.reduceToNat] at ho10;rw [← Ny112.out] at ho10))
            replace HO120:=rB HO120 hb;have HO114:=mA (Kd.R_lower ho10 (bpS HB));replace BK111:=bK BK111 hb;replace HB:=spS HB hb;clear hb ho10;refine hK.out _ _ trivial (fun hHeld=>?_);clear hK K;refine no_ (some 1) ?_
            exact norm_ (by first|(simp only [putAll,Act.put,List.setIfInBounds_toArray,List.set_cons_zero,List.set_cons_succ];done)|(simp only [putAll,Act.put,List.setIfInBounds_toArray,List.set_cons_zero,List.set_cons_succ];rfl)) (hJ0_2 (v113,v119) _ ⟨(pR HO114.out),(pR HO120.out),(pK BK111.out),(pS HB.out)⟩)
           ·skip
            refine Kd.R_make_step (Kd.int .i64) _ 3 (by rfl) (N:=2) rfl 23 _ _ rfl 3 rfl rfl Try.underlying23 (.int .i64 0) 8 info3 rfl aD (by omega) 0 (ok:=fun _=>True) (okp:=fun _=>True) rfl (fun _ hk=>hk) trivial (by omega) (by omega) (Below.refl _ _) (Nat.le_refl _) ?_
            intro v116 w9 ho10 hb hg_ hnew_;clear hg_ hnew_
            (first|rw [← Ny115.out] at ho10|(simp only [Int.reduceToNat] at ho10;rw [← Ny115.out] at ho10))
            replace HO120:=rB HO120 hb;have HO117:=mA (Kd.R_lower ho10 (bpS HB));replace BK111:=bK BK111 hb;replace HB:=spS HB hb;clear hb ho10;refine hK.out _ _ trivial (fun hHeld=>?_);clear hK K;refine no_ (some 2) ?_
            exact norm_ (by first|(simp only [putAll,Act.put,List.setIfInBounds_toArray,List.set_cons_zero,List.set_cons_succ];done)|(simp only [putAll,Act.put,List.setIfInBounds_toArray,List.set_cons_zero,List.set_cons_succ];rfl)) (hJ1_2 (v116,v119) _ ⟨(pR HO117.out),(pR HO120.out),(pK BK111.out),(pS HB.out)⟩)
         ·skip
          rintro v116 w8 ⟨h0_,h1_,h2_⟩;have n0_:Aside0 (Kd.R (Kd.int .i64) 3 w8 w.heap.size (fun _=>True) v116 y115):=⟨h0_⟩;have n1_:Aside0 (w8.heap[gb111]?=some (.cells #[.slice none 0 0,.slice none 0 0,.slice none 0 0,.slice none 0 0,.slice none 0 0] 28 (0,0))):=⟨h1_⟩;have n2_:Aside0 (Below w.heap.size w w8):=⟨h2_⟩;clear BK111;clear HB;clear h0_ h1_ h2_;have HO117:=n0_;have BK111:=n1_;have HB:=n2_;clear n0_ n1_ n2_;have hHeld:=trivial;refine norm_ (a':=?_) ?_ ?_;rotate_left
          ·simp only [putAll,Act.put,List.setIfInBounds_toArray,List.set_cons_zero,List.set_cons_succ];rfl
          refine two_ (i:=0) (j:=2) (Ni:=some 1) (Nj:=some 3) #[true,true,false,false,false] #[false,true,true,false,false] rfl rfl rfl rfl aK aD aD (fun K hK=>?_) (fun K hK=>?_)
          ·skip
           refine Kd.R_make_step k84 _ 84 (by rfl) (N:=1) rfl 22 _ _ rfl 3 rfl rfl Try.underlying22 (.agg #[(.int .i64 0),(.slice none 0 0)]) 32 info84 rfl aD (by omega) z84 (ok:=fun _=>True) (okp:=fun _=>True) (k84_mkM _ _ _ z84 ) (fun _ hk=>hk) trivial (by omega) (by omega) (Below.refl _ _) (Nat.le_refl _) ?_
           intro v113 w9 ho10 hb hg_ hnew_;clear hg_ hnew_
           (first|rw [← Ny112.out] at ho10|(simp only [Int.reduceToNat] at ho10;rw [← Ny112.out] at ho10))
           replace HO117:=rB HO117 hb;have HO114:=mA (Kd.R_lower ho10 (bpS HB));replace BK111:=bK BK111 hb;replace HB:=spS HB hb;clear hb ho10;refine hK.out _ _ trivial (fun hHeld=>?_);clear hK K;refine no_ (some 1) ?_
           exact norm_ (by first|(simp only [putAll,Act.put,List.setIfInBounds_toArray,List.set_cons_zero,List.set_cons_succ];done)|(simp only [putAll,Act.put,List.setIfInBounds_toArray,List.set_cons_zero,List.set_cons_succ];rfl)) (hJ0_1 (v113,v116) _ ⟨(pR HO114.out),(pR HO117.out),(pK BK111.out),(pS HB.out)⟩)
          ·skip
           refine Kd.R_make_step k88 _ 88 (by rfl) (N:=3) rfl 24 _ _ rfl 3 rfl rfl Try.underlying24 (.agg #[(.int .i64 0),(.int .i64 0),(.int .i64 0),(.int .i64 0),(.int .i64 0),(.int .i64 0),(.int .i64 0),(.int .i64 0),(.int .i64 0),(.int .i64 0),(.int .i64 0),(.int .i64 0),(.int .i64 0),(.int .i64 0),(.int .i64 0),(.int .i64 0),(.int .i64 0),(.int .i64 0),(.int .i64 0),(.int .i64 0),(.int .i64 0),(.int .i64 0),(.int .i64 0),(.int .i64 0),(.int .i64 0),(.slice none 0 0)]) 224 info88 rfl aD (by omega) z88 (ok:=fun _=>True) (okp:=fun _=>True) (k88_mkM _ _ _ z88 ) (fun _ hk=>hk) trivial (by omega) (by omega) (Below.refl _ _) (Nat.le_refl _) ?_
           intro v119 w9 ho10 hb hg_ hnew_;clear hg_ hnew_
           (first|rw [← Ny118.out] at ho10|(simp only [Int.reduceToNat] at ho10;rw [← Ny118.out] at ho10))
           replace HO117:=rB HO117 hb;have HO120:=mA (Kd.R_lower ho10 (bpS HB));replace BK111:=bK BK111 hb;replace HB:=spS HB hb;clear hb ho10;refine hK.out _ _ trivial (fun hHeld=>?_);clear hK K;refine no_ (some 3) ?_
           exact norm_ (by first|(simp only [putAll,Act.put,List.setIfInBounds_toArray,List.set_cons_zero,List.set_cons_succ];done)|(simp only [putAll,Act.put,List.setIfInBounds_toArray,List.set_cons_zero,List.set_cons_succ];rfl)) (hJ1_2 (v116,v119) _ ⟨(pR HO117.out),(pR HO120.out),(pK BK111.out),(pS HB.out)⟩)
        ·skip
         rintro v113 w8 ⟨h0_,h1_,h2_⟩;have n0_:Aside0 (Kd.R k84 84 w8 w.heap.size (fun _=>True) v113 y112):=⟨h0_⟩;have n1_:Aside0 (w8.heap[gb111]?=some (.cells #[.slice none 0 0,.slice none 0 0,.slice none 0 0,.slice none 0 0,.slice none 0 0] 28 (0,0))):=⟨h1_⟩;have n2_:Aside0 (Below w.heap.size w w8):=⟨h2_⟩;clear BK111;clear HB;clear h0_ h1_ h2_;have HO114:=n0_;have BK111:=n1_;have HB:=n2_;clear n0_ n1_ n2_;have hHeld:=trivial;refine norm_ (a':=?_) ?_ ?_;rotate_left
         ·simp only [putAll,Act.put,List.setIfInBounds_toArray,List.set_cons_zero,List.set_cons_succ];rfl
         refine two_ (i:=1) (j:=2) (Ni:=some 2) (Nj:=some 3) #[true,true,false,false,false] #[true,false,true,false,false] rfl rfl rfl rfl aK aD aD (fun K hK=>?_) (fun K hK=>?_)
         ·skip
          refine Kd.R_make_step (Kd.int .i64) _ 3 (by rfl) (N:=2) rfl 23 _ _ rfl 3 rfl rfl Try.underlying23 (.int .i64 0) 8 info3 rfl aD (by omega) 0 (ok:=fun _=>True) (okp:=fun _=>True) rfl (fun _ hk=>hk) trivial (by omega) (by omega) (Below.refl _ _) (Nat.le_refl _) ?_
          intro v116 w9 ho10 hb hg_ hnew_;clear hg_ hnew_
          (first|rw [← Ny115.out] at ho10|(simp only [Int.reduceToNat] at ho10;rw [← Ny115.out] at ho10))
          replace HO114:=rB HO114 hb;have HO117:=mA (Kd.R_lower ho10 (bpS HB));replace BK111:=bK BK111 hb;replace HB:=spS HB hb;clear hb ho10;refine hK.out _ _ trivial (fun hHeld=>?_);clear hK K;refine no_ (some 2) ?_
          exact norm_ (by first|(simp only [putAll,Act.put,List.setIfInBounds_toArray,List.set_cons_zero,List.set_cons_succ];done)|(simp only [putAll,Act.put,List.setIfInBounds_toArray,List.set_cons_zero,List.set_cons_succ];rfl)) (hJ0_1 (v113,v116) _ ⟨(pR HO114.out),(pR HO117.out),(pK BK111.out),(pS HB.out)⟩)
         ·skip
          refine Kd.R_make_step k88 _ 88 (by rfl) (N:=3) rfl 24 _ _ rfl 3 rfl rfl Try.underlying24 (.agg #[(.int .i64 0),(.int .i64 0),(.int .i64 0),(.int .i64 0),(.int .i64 0),(.int .i64 0),(.int .i64 0),(.int .i64 0),(.int .i64 0),(.int .i64 0),(.int .i64 0),(.int .i64 0),(.int .i64 0),(.int .i64 0),(.int .i64 0),(.int .i64 0),(.int .i64 0),(.int .i64 0),(.int .i64 0),(.int .i64 0),(.int .i64 0),(.int .i64 0),(.int .i64 0),(.int .i64 0),(.int .i64 0),(.slice none 0 0)]) 224 info88 rfl aD (by omega) z88 (ok:=fun _=>True) (okp:=fun _=>True) (k88_mkM _ _ _ z88 ) (fun _ hk=>hk) trivial (by omega) (by omega) (Below.refl _ _) (Nat.le_refl _) ?_
          intro v119 w9 ho10 hb hg_ hnew_;clear hg_ hnew_
          (first|rw [← Ny118.out] at ho10|(simp only [Int.reduceToNat] at ho10;rw [← Ny118.out] at ho10))
          replace HO114:=rB HO114 hb;have HO120:=mA (Kd.R_lower ho10 (bpS HB));replace BK111:=bK BK111 hb;replace HB:=spS HB hb;clear hb ho10;refine hK.out _ _ trivial (fun hHeld=>?_);clear hK K;refine no_ (some 3) ?_
          exact norm_ (by first|(simp only [putAll,Act.put,List.setIfInBounds_toArray,List.set_cons_zero,List.set_cons_succ];done)|(simp only [putAll,Act.put,List.setIfInBounds_toArray,List.set_cons_zero,List.set_cons_succ];rfl)) (hJ0_2 (v113,v119) _ ⟨(pR HO114.out),(pR HO120.out),(pK BK111.out),(pS HB.out)⟩)
       ·skip
        rintro ⟨v116,v119⟩ w10 ⟨h0_,h1_,h2_,h3_⟩;have n0_:Aside0 (Kd.R (Kd.int .i64) 3 w10 w.heap.size (fun _=>True) v116 y115):=⟨h0_⟩;have n1_:Aside0 (Kd.R k88 88 w10 w.heap.size (fun _=>True) v119 y118):=⟨h1_⟩;have n2_:Aside0 (w10.heap[gb111]?=some (.cells #[.slice none 0 0,.slice none 0 0,.slice none 0 0,.slice none 0 0,.slice none 0 0] 28 (0,0))):=⟨h2_⟩;have n3_:Aside0 (Below w.heap.size w w10):=⟨h3_⟩;clear BK111;clear HB;clear h0_ h1_ h2_ h3_;have HO117:=n0_;have HO120:=n1_;have BK111:=n2_;have HB:=n3_;clear n0_ n1_ n2_ n3_;have hHeld:=trivial;refine norm_ (a':=?_) ?_ ?_;rotate_left
        ·simp only [putAll,Act.put,List.setIfInBounds_toArray,List.set_cons_zero,List.set_cons_succ];rfl
        refine on_ 0 (some 1) aK ?_;intro K hK
        refine Kd.R_make_step k84 _ 84 (by rfl) (N:=1) rfl 22 _ _ rfl 3 rfl rfl Try.underlying22 (.agg #[(.int .i64 0),(.slice none 0 0)]) 32 info84 rfl aD (by omega) z84 (ok:=fun _=>True) (okp:=fun _=>True) (k84_mkM _ _ _ z84 ) (fun _ hk=>hk) trivial (by omega) (by omega) (Below.refl _ _) (Nat.le_refl _) ?_
        intro v113 w11 ho12 hb hg_ hnew_;clear hg_ hnew_
        (first|rw [← Ny112.out] at ho12|(simp only [Int.reduceToNat] at ho12;rw [← Ny112.out] at ho12))
        replace HO117:=rB HO117 hb;replace HO120:=rB HO120 hb;have HO114:=mA (Kd.R_lower ho12 (bpS HB));replace BK111:=bK BK111 hb;replace HB:=spS HB hb;clear hb ho12;obtain ⟨Ao13,co13,eo13⟩:=Kd.R_slice HO120.out
        (first|subst eo13|(injection eo13 with f1_ f2_ f3_;have f4_:=f1_.symm;have f5_:=f3_.symm;clear f1_ f2_ f3_;subst f4_;subst f5_))
        obtain ⟨Ao14,co14,eo14⟩:=Kd.R_slice HO117.out
        (first|subst eo14|(injection eo14 with f1_ f2_ f3_;have f4_:=f1_.symm;have f5_:=f3_.symm;clear f1_ f2_ f3_;subst f4_;subst f5_))
        obtain ⟨Ao15,co15,eo15⟩:=Kd.R_slice HO114.out
        (first|subst eo15|(injection eo15 with f1_ f2_ f3_;have f4_:=f1_.symm;have f5_:=f3_.symm;clear f1_ f2_ f3_;subst f4_;subst f5_))
        refine hK.out _ _ trivial (fun hHeld=>?_);clear hK K;refine no_ (some 1) ?_
        exact norm_ (by first|(simp only [putAll,Act.put,List.setIfInBounds_toArray,List.set_cons_zero,List.set_cons_succ];done)|(simp only [putAll,Act.put,List.setIfInBounds_toArray,List.set_cons_zero,List.set_cons_succ];rfl)) (hJ0_1_2 (.slice Ao15 y112.length co15,.slice Ao14 y115.length co14,.slice Ao13 y118.length co13) _ ⟨(pR HO114.out),(pR HO117.out),(pR HO120.out),(pK BK111.out),(pS HB.out)⟩)
      ·skip
       rintro ⟨v113,v119⟩ w10 ⟨h0_,h1_,h2_,h3_⟩;have n0_:Aside0 (Kd.R k84 84 w10 w.heap.size (fun _=>True) v113 y112):=⟨h0_⟩;have n1_:Aside0 (Kd.R k88 88 w10 w.heap.size (fun _=>True) v119 y118):=⟨h1_⟩;have n2_:Aside0 (w10.heap[gb111]?=some (.cells #[.slice none 0 0,.slice none 0 0,.slice none 0 0,.slice none 0 0,.slice none 0 0] 28 (0,0))):=⟨h2_⟩;have n3_:Aside0 (Below w.heap.size w w10):=⟨h3_⟩;clear BK111;clear HB;clear h0_ h1_ h2_ h3_;have HO114:=n0_;have HO120:=n1_;have BK111:=n2_;have HB:=n3_;clear n0_ n1_ n2_ n3_;have hHeld:=trivial;refine norm_ (a':=?_) ?_ ?_;rotate_left
       ·simp only [putAll,Act.put,List.setIfInBounds_toArray,List.set_cons_zero,List.set_cons_succ];rfl
       refine on_ 1 (some 2) aK ?_;intro K hK
       refine Kd.R_make_step (Kd.int .i64) _ 3 (by rfl) (N:=2) rfl 23 _ _ rfl 3 rfl rfl Try.underlying23 (.int .i64 0) 8 info3 rfl aD (by omega) 0 (ok:=fun _=>True) (okp:=fun _=>True) rfl (fun _ hk=>hk) trivial (by omega) (by omega) (Below.refl _ _) (Nat.le_refl _) ?_
       intro v116 w11 ho12 hb hg_ hnew_;clear hg_ hnew_
       (first|rw [← Ny115.out] at ho12|(simp only [Int.reduceToNat] at ho12;rw [← Ny115.out] at ho12))
       replace HO114:=rB HO114 hb;replace HO120:=rB HO120 hb;have HO117:=mA (Kd.R_lower ho12 (bpS HB));replace BK111:=bK BK111 hb;replace HB:=spS HB hb;clear hb ho12;obtain ⟨Ao13,co13,eo13⟩:=Kd.R_slice HO120.out
       (first|subst eo13|(injection eo13 with f1_ f2_ f3_;have f4_:=f1_.symm;have f5_:=f3_.symm;clear f1_ f2_ f3_;subst f4_;subst f5_))
       obtain ⟨Ao14,co14,eo14⟩:=Kd.R_slice HO117.out
       (first|subst eo14|(injection eo14 with f1_ f2_ f3_;have f4_:=f1_.symm;have f5_:=f3_.symm;clear f1_ f2_ f3_;subst f4_;subst f5_))
       obtain ⟨Ao15,co15,eo15⟩:=Kd.R_slice HO114.out
       (first|subst eo15|(injection eo15 with f1_ f2_ f3_;have f4_:=f1_.symm;have f5_:=f3_.symm;clear f1_ f2_ f3_;subst f4_;subst f5_))
       refine hK.out _ _ trivial (fun hHeld=>?_);clear hK K;refine no_ (some 2) ?_
       exact norm_ (by first|(simp only [putAll,Act.put,List.setIfInBounds_toArray,List.set_cons_zero,List.set_cons_succ];done)|(simp only [putAll,Act.put,List.setIfInBounds_toArray,List.set_cons_zero,List.set_cons_succ];rfl)) (hJ0_1_2 (.slice Ao15 y112.length co15,.slice Ao14 y115.length co14,.slice Ao13 y118.length co13) _ ⟨(pR HO114.out),(pR HO117.out),(pR HO120.out),(pK BK111.out),(pS HB.out)⟩)
     ·skip
      rintro ⟨v113,v116⟩ w10 ⟨h0_,h1_,h2_,h3_⟩;have n0_:Aside0 (Kd.R k84 84 w10 w.heap.size (fun _=>True) v113 y112):=⟨h0_⟩;have n1_:Aside0 (Kd.R (Kd.int .i64) 3 w10 w.heap.size (fun _=>True) v116 y115):=⟨h1_⟩;have n2_:Aside0 (w10.heap[gb111]?=some (.cells #[.slice none 0 0,.slice none 0 0,.slice none 0 0,.slice none 0 0,.slice none 0 0] 28 (0,0))):=⟨h2_⟩;have n3_:Aside0 (Below w.heap.size w w10):=⟨h3_⟩;clear BK111;clear HB;clear h0_ h1_ h2_ h3_;have HO114:=n0_;have HO117:=n1_;have BK111:=n2_;have HB:=n3_;clear n0_ n1_ n2_ n3_;have hHeld:=trivial;refine norm_ (a':=?_) ?_ ?_;rotate_left
      ·simp only [putAll,Act.put,List.setIfInBounds_toArray,List.set_cons_zero,List.set_cons_succ];rfl
      refine on_ 2 (some 3) aK ?_;intro K hK
      refine Kd.R_make_step k88 _ 88 (by rfl) (N:=3) rfl 24 _ _ rfl 3 rfl rfl Try.underlying24 (.agg #[(.int .i64 0),(.int .i64 0),(.int .i64 0),(.int .i64 0),(.int .i64 0),(.int .i64 0),(.int .i64 0),(.int .i64 0),(.int .i64 0),(.int .i64 0),(.int .i64 0),(.int .i64 0),(.int .i64 0),(.int .i64 0),(.int .i64 0),(.int .i64 0),(.int .i64 0),(.int .i64 0),(.int .i64 0),(.int .i64 0),(.int .i64 0),(.int .i64 0),(.int .i64 0),(.int .i64 0),(.int .i64 0),(.slice none 0 0)]) 224 info88 rfl aD (by omega) z88 (ok:=fun _=>True) (okp:=fun _=>True) (k88_mkM _ _ _ z88 ) (fun _ hk=>hk) trivial (by omega) (by omega) (Below.refl _ _) (Nat.le_refl _) ?_
      intro v119 w11 ho12 hb hg_ hnew_;clear hg_ hnew_
      (first|rw [← Ny118.out] at ho12|(simp only [Int.reduceToNat] at ho12;rw [← Ny118.out] at ho12))
      replace HO114:=rB HO114 hb;replace HO117:=rB HO117 hb;have HO120:=mA (Kd.R_lower ho12 (bpS HB));replace BK111:=bK BK111 hb;replace HB:=spS HB hb;clear hb ho12;obtain ⟨Ao13,co13,eo13⟩:=Kd.R_slice HO120.out
      (first|subst eo13|(injection eo13 with f1_ f2_ f3_;have f4_:=f1_.symm;have f5_:=f3_.symm;clear f1_ f2_ f3_;subst f4_;subst f5_))
      obtain ⟨Ao14,co14,eo14⟩:=Kd.R_slice HO117.out
      (first|subst eo14|(injection eo14 with f1_ f2_ f3_;have f4_:=f1_.symm;have f5_:=f3_.symm;clear f1_ f2_ f3_;subst f4_;subst f5_))
      obtain ⟨Ao15,co15,eo15⟩:=Kd.R_slice HO114.out
      (first|subst eo15|(injection eo15 with f1_ f2_ f3_;have f4_:=f1_.symm;have f5_:=f3_.symm;clear f1_ f2_ f3_;subst f4_;subst f5_))
      refine hK.out _ _ trivial (fun hHeld=>?_);clear hK K;refine no_ (some 3) ?_
      exact norm_ (by first|(simp only [putAll,Act.put,List.setIfInBounds_toArray,List.set_cons_zero,List.set_cons_succ];done)|(simp only [putAll,Act.put,List.setIfInBounds_toArray,List.set_cons_zero,List.set_cons_succ];rfl)) (hJ0_1_2 (.slice Ao15 y112.length co15,.slice Ao14 y115.length co14,.slice Ao13 y118.length co13) _ ⟨(pR HO114.out),(pR HO117.out),(pR HO120.out),(pK BK111.out),(pS HB.out)⟩)
    rintro ⟨v113,v116,v119⟩ w15 ⟨h0_,h1_,h2_,h3_,h4_⟩;have n0_:Aside0 (Kd.R k84 84 w15 w.heap.size (fun _=>True) v113 y112):=⟨h0_⟩;have n1_:Aside0 (Kd.R (Kd.int .i64) 3 w15 w.heap.size (fun _=>True) v116 y115):=⟨h1_⟩;have n2_:Aside0 (Kd.R k88 88 w15 w.heap.size (fun _=>True) v119 y118):=⟨h2_⟩;have n3_:Aside0 (w15.heap[gb111]?=some (.cells #[.slice none 0 0,.slice none 0 0,.slice none 0 0,.slice none 0 0,.slice none 0 0] 28 (0,0))):=⟨h3_⟩;have n4_:Aside0 (Below w.heap.size w w15):=⟨h4_⟩;clear BK111;clear HB;clear h0_ h1_ h2_ h3_ h4_;have HO114:=n0_;have HO117:=n1_;have HO120:=n2_;have BK111:=n3_;have HB:=n4_;clear n0_ n1_ n2_ n3_ n4_;have hHeld:=trivial;obtain ⟨Ao16,co16,eo16⟩:=Kd.R_slice HO120.out
    (first|subst eo16|(injection eo16 with f1_ f2_ f3_;have f4_:=f1_.symm;have f5_:=f3_.symm;clear f1_ f2_ f3_;subst f4_;subst f5_))
    obtain ⟨Ao17,co17,eo17⟩:=Kd.R_slice HO117.out
    (first|subst eo17|(injection eo17 with f1_ f2_ f3_;have f4_:=f1_.symm;have f5_:=f3_.symm;clear f1_ f2_ f3_;subst f4_;subst f5_))
    obtain ⟨Ao18,co18,eo18⟩:=Kd.R_slice HO114.out
    (first|subst eo18|(injection eo18 with f1_ f2_ f3_;have f4_:=f1_.symm;have f5_:=f3_.symm;clear f1_ f2_ f3_;subst f4_;subst f5_))
    refine norm_ (a':=?_) ?_ ?_;rotate_left
    ·simp only [putAll,Act.put,List.setIfInBounds_toArray,List.set_cons_zero,List.set_cons_succ];rfl
    refine pu_ 3 (some 4) aK ?_
    refine on_ 4 (none) aK ?_;intro K hK
    have hcz19_0:=fun i_=>blk_cell BK111.out i_;have hfz19_0:=fun i_=>blk_frozen BK111.out i_
    refine skip_ (w1:=?_) (by rfl) rfl ?_ ?_
    rotate_left
    ·first|exact stG|(go_simp;rfl)
    refine hK.out _ _ trivial (fun hHeld=>?_);clear hK K
    refine done_ aK ?_
    try go_wp2
    refine bodyPost_ret (results_cell_row rfl _ _ gb111 28 #[.slice Ao18 y112.length co18,.slice Ao17 y115.length co17,.slice Ao16 y118.length co16,.slice none 0 0,.slice none 0 0] (0,0) _ rfl (pP BK111) Try.underlying28 rfl aK) rfl ?_
    exact ⟨_,_,_,by first|rfl|(simp [errW_none,errW_some]<;>rfl)|(simp [*,errW_none,errW_some]<;>rfl),pU HO114 BK111,pU HO117 BK111,pU HO120 BK111,pS HB.out⟩
   ·rw [if_neg c3] at H
    exact absurd H (by simp)
  ·rw [if_neg c2] at H
   exact absurd H (by simp)
 ·rw [if_neg c1] at H
  exact absurd H (by simp)

end Go.Proofs.Ytncohokalilnbaa.P
