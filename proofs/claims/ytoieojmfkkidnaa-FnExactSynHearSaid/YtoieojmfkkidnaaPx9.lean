-- printed by pprint.py (this session's program over the kit's printer) out of the translation. Lean checks it.
import Derived.Test.YtoieojmfkkidnaaPx0
import Derived.Test.YtoieojmfkkidnaaPx5
import Derived.Test.YtoieojmfkkidnaaPx6
import Derived.Test.YtoieojmfkkidnaaPx8
namespace Go.Proofs.Ytoieojmfkkidnaa.P
open Go.RowKit Go.Proofs.YtoieojmfkkidnaaX Go.Proofs.YtoieojmfkkidnaaW.PrintWords Go.Proofs.YtoieojmfkkidnaaW.PrintLast Go.Proofs.YtoieojmfkkidnaaW.PrintMore
attribute [local go_sem] max2_int min2_int max_two min_two max_three min_three max_four min_four   -- for this text's walks alone
set_option linter.unusedVariables false
set_option linter.unusedSimpArgs false
/-! ### laws_markSynSeeker: function 39 -/
def laws_markSynSeeker.f (k : Nat) (a0_0 a0_1 a0_2 a0_3 a0_4 a0_5 a0_6 a0_7 a0_8 a0_9 a0_10 a0_11 a0_12 a0_13 a0_14 a0_15 a0_16 a0_17 a0_18 a0_19 a0_20 a0_21 a0_22 a0_23 a0_24 : Int) (l0_25 : List Int) (a1 : Int) : Option (Int × List Int) := (laws_markIntS.f k l0_25 a1).bind fun bt239 => (some (bt239.1, bt239.2))
set_option maxHeartbeats 8000000 in
set_option maxRecDepth 100000 in
theorem laws_markSynSeeker.calls (k : Nat) (a0_0 a0_1 a0_2 a0_3 a0_4 a0_5 a0_6 a0_7 a0_8 a0_9 a0_10 a0_11 a0_12 a0_13 a0_14 a0_15 a0_16 a0_17 a0_18 a0_19 a0_20 a0_21 a0_22 a0_23 a0_24 : Int) (P0_25_ : Nat → Prop) (u9000_ : Value) (l0_25 : List Int) (a1 r1 : Int) (r2 : List Int) (w0 w : World) (hB : Below w0.heap.size w0 w) (ho0_25 : Kd.R (Kd.int .i64) 3 w w0.heap.size P0_25_ u9000_ l0_25) (h : laws_markSynSeeker.f k a0_0 a0_1 a0_2 a0_3 a0_4 a0_5 a0_6 a0_7 a0_8 a0_9 a0_10 a0_11 a0_12 a0_13 a0_14 a0_15 a0_16 a0_17 a0_18 a0_19 a0_20 a0_21 a0_22 a0_23 a0_24 l0_25 a1 = some (r1, r2)) :
  Calls Try.prog 39 #[.agg #[.int .i64 a0_0,.int .i64 a0_1,.int .i64 a0_2,.int .i64 a0_3,.int .i64 a0_4,.int .i64 a0_5,.int .i64 a0_6,.int .i64 a0_7,.int .i64 a0_8,.int .i64 a0_9,.int .i64 a0_10,.int .i64 a0_11,.int .i64 a0_12,.int .i64 a0_13,.int .i64 a0_14,.int .i64 a0_15,.int .i64 a0_16,.int .i64 a0_17,.int .i64 a0_18,.int .i64 a0_19,.int .i64 a0_20,.int .i64 a0_21,.int .i64 a0_22,.int .i64 a0_23,.int .i64 a0_24,u9000_],.int .i64 a1] w fun e w'=>e=.returned (.int .i64 r1)∧Kd.R (Kd.int .i64) 3 w' w0.heap.size (fun k_=>(P0_25_ k_ ∨ w.heap.size≤k_)) u9000_ r2∧Below w0.heap.size w0 w'∧Kept w w' (fun k_=>P0_25_ k_):=by
 have hu66:=Try.underlying66;have HO0_25:=mA (show Kd.R (Kd.int .i64) 3 w w0.heap.size (fun k_=>(P0_25_ k_ ∨ w.heap.size≤k_)) u9000_ l0_25 from Kd.R_mono ho0_25 (fun k_ hk=>(.inl hk)));have HK:=mA (Kept.refl w (fun k_=>P0_25_ k_));have HW0:=mA hB.size;have HB:=mA hB;clear hB;have H:((laws_markIntS.f k l0_25 a1).bind fun bt239=>(some (bt239.1,bt239.2)))=some (r1,r2):=h;clear h;obtain ⟨⟨t239,t240⟩,A3,H⟩:=bI H;(try dsimp only at H);simp only [Option.some.injEq,Prod.mk.injEq] at H;obtain ⟨rfl,rfl⟩:=H;obtain ⟨Ao4,co4,rfl⟩:=Kd.R_slice HO0_25.out
 go_enter Try.func39,Try.ntmps39
 go_wp2_with (first|((with_reducible refine gLg rfl (by assumption) ?_);refine ldV ?_)|((with_reducible refine gSt rfl (by assumption) ?_);refine stV ?_)|((with_reducible refine gT 2 rfl ?_);refine bX 2 ?_;intro gb238 hg w5 hbox hb;replace HO0_25:=rB HO0_25 hb;have BK238:=mA hbox;have GW238:=mA (by rw [hg];exact (by first|exact HK.out.1|exact (show Kept w _ (fun k_=>P0_25_ k_) from by repeat (first|(with_reducible first|exact HK.out|apply Kept.alloc|apply Kept.drewN|apply Kept.drew)|exact HK.out)).1):w.heap.size≤gb238);replace HK:=mA (Kept.below (S:=(fun k_=>P0_25_ k_)) (by repeat (first|(with_reducible first|exact HK.out|apply Kept.alloc|apply Kept.drewN|apply Kept.drew)|exact HK.out)) hb);have GE238:=gbpB HB hg;replace HB:=spB HB hb;clear hb hbox hg;have hcz6_0:=fun i_=>blk_cell BK238.out i_;have hfz6_0:=fun i_=>blk_frozen BK238.out i_)|((with_reducible refine gT 8 rfl ?_);refine gC (some 8) Try.func100 (laws_markIntS.calls k (fun k_=>some k_=(.slice Ao4 l0_25.length co4:Value).ownBlock) (.slice Ao4 l0_25.length co4) l0_25 a1 t239 t240 w0 _ ?s1 (Kd.R_tight rfl HO0_25.out) A3.out) ?_;(case s1=>repeat (first|(with_reducible first|exact HB.out|apply below_alloc|apply pw_below_drewN|apply below_drew1|refine below_set ?_ GE238.out)|exact HB.out));rintro e w7 ⟨rfl,hy0,hb,hkp⟩;refine ⟨_,rfl,?_⟩;replace BK238:=mA (blk_kept (pK BK238.out) hkp (fun hs_=>(fun e_=>(Kd.R_ne HO0_25.out BK238.out aD) e_) hs_));replace HK:=mA (Kept.then_ (S:=(fun k_=>P0_25_ k_)) (by repeat (first|(with_reducible first|exact HK.out|apply Kept.alloc|apply Kept.drewN|apply Kept.drew|refine Kept.setCell ?_ (.inr GW238.out) _)|exact HK.out)) hkp (fun k_ hs_=>(fun e_=>(HO0_25.out.1 k_ e_.symm)) hs_));replace HO0_25:=mA (Kd.R_reok rfl hy0 (fun k_ e_=>HO0_25.out.1 k_ e_));replace HB:=mA hb;(try clear hb);(try clear hkp);(try clear hy0)))
 go_ret
 exact ⟨by first|rfl|(simp [errW_none,errW_some]<;>rfl)|(simp [*,errW_none,errW_some]<;>rfl),pR HO0_25.out,pS HB.out,by repeat (first|(with_reducible first|exact HK.out|apply Kept.alloc|apply Kept.drewN|apply Kept.drew|refine Kept.setCell ?_ (.inr GW238.out) _)|exact HK.out)⟩
/-! ### laws_markWordS: function 40 -/
def laws_markWordS.l0 : Nat → List (S9028) → Int → Int → Option (Int × (List (S9028)))
 | 0,_,_,_=>none
 | k+1,x0,x1,x5=>if x5<(x0.length:Int) then (if 0≤x5 then ((laws_markBlkPieceS.f k ([]:List (S138)) (wrap64 ((wrap64 ((wrap64 ((wrap64 ((wrap64 ((wrap64 ((wrap64 ((wrap64 ((wrap64 ((wrap64 ((wrap64 ((wrap64 ((wrap64 ((wrap64 ((wrap64 ((wrap64 ((wrap64 ((wrap64 ((wrap64 ((wrap64 ((wrap64 ((wrap64 ((wrap64 ((wrap64 (x1+1))+1))+1))+1))+1))+1))+1))+1))+1))+1))+1))+1))+1))+1))+1))+1))+1))+1))+1))+1))+1))+1))+1))+1))).bind fun bt266=>((laws_markBlkLastS.f k ([]:List (S140)) bt266.1).bind fun bt269=>(laws_markWordS.l0 k (x0.set (x5:Int).toNat (⟨x1,(wrap64 (x1+1)),(wrap64 ((wrap64 (x1+1))+1)),(wrap64 ((wrap64 ((wrap64 (x1+1))+1))+1)),(wrap64 ((wrap64 ((wrap64 ((wrap64 (x1+1))+1))+1))+1)),(wrap64 ((wrap64 ((wrap64 ((wrap64 ((wrap64 (x1+1))+1))+1))+1))+1)),(⟨(wrap64 ((wrap64 ((wrap64 ((wrap64 ((wrap64 ((wrap64 (x1+1))+1))+1))+1))+1))+1)),(wrap64 ((wrap64 ((wrap64 ((wrap64 ((wrap64 ((wrap64 ((wrap64 (x1+1))+1))+1))+1))+1))+1))+1)),(wrap64 ((wrap64 ((wrap64 ((wrap64 ((wrap64 ((wrap64 ((wrap64 ((wrap64 (x1+1))+1))+1))+1))+1))+1))+1))+1)),(wrap64 ((wrap64 ((wrap64 ((wrap64 ((wrap64 ((wrap64 ((wrap64 ((wrap64 ((wrap64 (x1+1))+1))+1))+1))+1))+1))+1))+1))+1)),(wrap64 ((wrap64 ((wrap64 ((wrap64 ((wrap64 ((wrap64 ((wrap64 ((wrap64 ((wrap64 ((wrap64 (x1+1))+1))+1))+1))+1))+1))+1))+1))+1))+1)),(wrap64 ((wrap64 ((wrap64 ((wrap64 ((wrap64 ((wrap64 ((wrap64 ((wrap64 ((wrap64 ((wrap64 ((wrap64 (x1+1))+1))+1))+1))+1))+1))+1))+1))+1))+1))+1)),(wrap64 ((wrap64 ((wrap64 ((wrap64 ((wrap64 ((wrap64 ((wrap64 ((wrap64 ((wrap64 ((wrap64 ((wrap64 ((wrap64 (x1+1))+1))+1))+1))+1))+1))+1))+1))+1))+1))+1))+1)),(wrap64 ((wrap64 ((wrap64 ((wrap64 ((wrap64 ((wrap64 ((wrap64 ((wrap64 ((wrap64 ((wrap64 ((wrap64 ((wrap64 ((wrap64 (x1+1))+1))+1))+1))+1))+1))+1))+1))+1))+1))+1))+1))+1)),(wrap64 ((wrap64 ((wrap64 ((wrap64 ((wrap64 ((wrap64 ((wrap64 ((wrap64 ((wrap64 ((wrap64 ((wrap64 ((wrap64 ((wrap64 ((wrap64 (x1+1))+1))+1))+1))+1))+1))+1))+1))+1))+1))+1))+1))+1))+1)),(wrap64 ((wrap64 ((wrap64 ((wrap64 ((wrap64 ((wrap64 ((wrap64 ((wrap64 ((wrap64 ((wrap64 ((wrap64 ((wrap64 ((wrap64 ((wrap64 ((wrap64 (x1+1))+1))+1))+1))+1))+1))+1))+1))+1))+1))+1))+1))+1))+1))+1))⟩:S24),(wrap64 ((wrap64 ((wrap64 ((wrap64 ((wrap64 ((wrap64 ((wrap64 ((wrap64 ((wrap64 ((wrap64 ((wrap64 ((wrap64 ((wrap64 ((wrap64 ((wrap64 ((wrap64 (x1+1))+1))+1))+1))+1))+1))+1))+1))+1))+1))+1))+1))+1))+1))+1))+1)),(wrap64 ((wrap64 ((wrap64 ((wrap64 ((wrap64 ((wrap64 ((wrap64 ((wrap64 ((wrap64 ((wrap64 ((wrap64 ((wrap64 ((wrap64 ((wrap64 ((wrap64 ((wrap64 ((wrap64 (x1+1))+1))+1))+1))+1))+1))+1))+1))+1))+1))+1))+1))+1))+1))+1))+1))+1)),(wrap64 ((wrap64 ((wrap64 ((wrap64 ((wrap64 ((wrap64 ((wrap64 ((wrap64 ((wrap64 ((wrap64 ((wrap64 ((wrap64 ((wrap64 ((wrap64 ((wrap64 ((wrap64 ((wrap64 ((wrap64 (x1+1))+1))+1))+1))+1))+1))+1))+1))+1))+1))+1))+1))+1))+1))+1))+1))+1))+1)),(wrap64 ((wrap64 ((wrap64 ((wrap64 ((wrap64 ((wrap64 ((wrap64 ((wrap64 ((wrap64 ((wrap64 ((wrap64 ((wrap64 ((wrap64 ((wrap64 ((wrap64 ((wrap64 ((wrap64 ((wrap64 ((wrap64 (x1+1))+1))+1))+1))+1))+1))+1))+1))+1))+1))+1))+1))+1))+1))+1))+1))+1))+1))+1)),(wrap64 ((wrap64 ((wrap64 ((wrap64 ((wrap64 ((wrap64 ((wrap64 ((wrap64 ((wrap64 ((wrap64 ((wrap64 ((wrap64 ((wrap64 ((wrap64 ((wrap64 ((wrap64 ((wrap64 ((wrap64 ((wrap64 ((wrap64 (x1+1))+1))+1))+1))+1))+1))+1))+1))+1))+1))+1))+1))+1))+1))+1))+1))+1))+1))+1))+1)),(wrap64 ((wrap64 ((wrap64 ((wrap64 ((wrap64 ((wrap64 ((wrap64 ((wrap64 ((wrap64 ((wrap64 ((wrap64 ((wrap64 ((wrap64 ((wrap64 ((wrap64 ((wrap64 ((wrap64 ((wrap64 ((wrap64 ((wrap64 ((wrap64 (x1+1))+1))+1))+1))+1))+1))+1))+1))+1))+1))+1))+1))+1))+1))+1))+1))+1))+1))+1))+1))+1)),(wrap64 ((wrap64 ((wrap64 ((wrap64 ((wrap64 ((wrap64 ((wrap64 ((wrap64 ((wrap64 ((wrap64 ((wrap64 ((wrap64 ((wrap64 ((wrap64 ((wrap64 ((wrap64 ((wrap64 ((wrap64 ((wrap64 ((wrap64 ((wrap64 ((wrap64 (x1+1))+1))+1))+1))+1))+1))+1))+1))+1))+1))+1))+1))+1))+1))+1))+1))+1))+1))+1))+1))+1))+1)),(wrap64 ((wrap64 ((wrap64 ((wrap64 ((wrap64 ((wrap64 ((wrap64 ((wrap64 ((wrap64 ((wrap64 ((wrap64 ((wrap64 ((wrap64 ((wrap64 ((wrap64 ((wrap64 ((wrap64 ((wrap64 ((wrap64 ((wrap64 ((wrap64 ((wrap64 ((wrap64 (x1+1))+1))+1))+1))+1))+1))+1))+1))+1))+1))+1))+1))+1))+1))+1))+1))+1))+1))+1))+1))+1))+1))+1)),(),()⟩:S9028)) bt269.1 (wrap64 (x5+1))))) else (none)) else (some (x1,x0))
def laws_markWordS.f (k : Nat) (l0 : List (S9028)) (a1 : Int) : Option (Int × (List (S9028))) := laws_markWordS.l0 k l0 a1 0
theorem laws_markWordS.mono_l : ∀ k, (∀ y0 y1 y2, LeO (laws_markWordS.l0 k y0 y1 y2) (laws_markWordS.l0 (k + 1) y0 y1 y2))
 | 0=>fun _ _ _ r h=>by simp [laws_markWordS.l0] at h
 | k+1=>by
  have ih0:=laws_markWordS.mono_l k
  ·intros
   unfold laws_markWordS.l0
   repeat' first
   | (with_reducible first|apply ih0|apply laws_markBlkLastS.mono|apply laws_markBlkPieceS.mono|exact LeO.refl _|exact LeO.none _|refine LeO.ite ?_ ?_|refine LeO.bind ?_ (fun _=>?_))|exact LeO.none _|refine LeO.ite ?_ ?_|refine LeO.bind ?_ (fun _=>?_)
theorem laws_markWordS.mono : ∀ a0 a1 k, LeO (laws_markWordS.f k a0 a1) (laws_markWordS.f (k + 1) a0 a1) := by
 intro a0 a1 k;have ih0:=laws_markWordS.mono_l k
 unfold laws_markWordS.f
 repeat' first
   | (with_reducible first|apply ih0|apply laws_markBlkLastS.mono|apply laws_markBlkPieceS.mono|exact LeO.refl _|exact LeO.none _|refine LeO.ite ?_ ?_|refine LeO.bind ?_ (fun _=>?_))|exact LeO.none _|refine LeO.ite ?_ ?_|refine LeO.bind ?_ (fun _=>?_)
set_option maxHeartbeats 8000000 in
set_option maxRecDepth 100000 in
theorem laws_markWordS.calls (k : Nat) (P0_ : Nat → Prop) (u9000_ : Value) (l0 : List (S9028)) (a1 r1 : Int) (r2 : List (S9028)) (w0 w : World) (hB : Below w0.heap.size w0 w) (ho0 : Kd.R k9028 28 w w0.heap.size P0_ u9000_ l0) (h : laws_markWordS.f k l0 a1 = some (r1, r2)) :
  Calls Try.prog 40 #[u9000_,.int .i64 a1] w fun e w'=>e=.returned (.int .i64 r1)∧Kd.R k9028 28 w' w0.heap.size (fun k_=>(P0_ k_ ∨ w.heap.size≤k_)) u9000_ r2∧Below w0.heap.size w0 w'∧Kept w w' (fun k_=>P0_ k_):=by
 have HO0:=mA (show Kd.R k9028 28 w w0.heap.size (fun k_=>(P0_ k_ ∨ w.heap.size≤k_)) u9000_ l0 from Kd.R_mono ho0 (fun k_ hk=>(.inl hk)));have HK:=mA (Kept.refl w (fun k_=>P0_ k_));have HW0:=mA hB.size;have HB:=mA hB;clear hB;have H:(laws_markWordS.l0 k l0 a1 0)=some (r1,r2):=h;clear h;have H':=mA H;clear H
 go_enter Try.func40,Try.ntmps40
 go_wp2
 go_loopg [1,5] k (fun kq v1 v5 w'=>∃ (x0_1:List (S9028)) (x1_1:Int) (x5_1:Int),v1=.int .i64 x1_1∧v5=.int .i64 x5_1∧Aside0 (laws_markWordS.l0 kq x0_1 x1_1 x5_1=some (r1,r2))∧Aside0 (kq≤k)∧Aside0 (Kd.R k9028 28 w' w0.heap.size (fun k_=>(P0_ k_ ∨ w.heap.size≤k_)) u9000_ x0_1)∧Aside0 (Kept w w' (fun k_=>P0_ k_))∧Aside0 (Below w0.heap.size w0 w'))
 case atStart=>exact ⟨(l0),(a1),(0),bZ,bZ,H',⟨Nat.le_refl _⟩,⟨pR HO0.out⟩,⟨by repeat (first|(with_reducible first|exact HK.out|apply Kept.alloc|apply Kept.drewN|apply Kept.drew)|exact HK.out)⟩,⟨pB HB.out⟩⟩
 case round =>
  clear H'
  obtain ⟨x0_1,x1_1,x5_1,rfl,rfl,HA,HK1,HO_0,HK,HB⟩:=hrel
  cases gk with
  | zero=>exact absurd HA.out (by simp [laws_markWordS.l0])
  | succ k1 =>
   have H:=HA.out;clear HA;simp only [laws_markWordS.l0] at H
   by_cases c3:x5_1<(x0_1.length:Int)
   ·rw [if_pos c3] at H;have c3b0:decide (x5_1<(x0_1.length:Int))=true:=decide_eq_true c3;clear c3
    by_cases c4:0≤x5_1
    ·rw [if_pos c4] at H;have c4b0:decide (0≤x5_1)=true:=decide_eq_true c4;clear c4;obtain ⟨⟨t266,t267⟩,A29,H⟩:=bI H;(try dsimp only at H);obtain ⟨⟨t269,t270⟩,A30,H⟩:=bI H;(try dsimp only at H);have H':=mA H;clear H;obtain ⟨Ao31,co31,rfl⟩:=Kd.R_slice HO_0.out;have p5:0≤(x5_1:Int):=of_decide_eq_true bA;have q5:(x5_1:Int)<((x0_1.length:Int):Int):=of_decide_eq_true bA
     obtain ⟨go5,co5,eo5,gb5,gl5,cl5,HG5⟩:=Kd.R_form HO_0.out (by omega)
     (first|cases eo5|(injection eo5 with ea_ en_ ec_;(first|subst ea_|(injection ea_ with ea_;subst ea_));subst ec_;clear en_))
     have GB5:=mA gb5;have GG5:=mA HG5;clear gb5 gl5 HG5;have HMgo5:=mA (show (P0_ go5 ∨ w.heap.size≤go5) from (HO_0.out.1 _ rfl));have HO_0:=mA (stE0 (x5_1:Int) z9028 HO_0.out q5 p5);replace p5:=eq_true p5;replace q5:=eq_true q5
     go_wp2_with (first|((with_reducible refine gate_store (t:=3) (p:=16) rfl ?_);refine stEl k9028 z9028 put9028 24 26 put9028_M (fun k_=>P0_ k_) (x5_1:Int) 0 HO_0 HB HK (fun _ h_=>h_) p5 q5 (p:=16) (h:=?_);intro w0_ hO_ hB_ hK_;replace HO_0:=mA hO_;replace HB:=mA hB_;replace HK:=mA hK_;clear hO_ hB_ hK_)|((with_reducible refine gate_store (t:=3) (p:=23) rfl ?_);refine stEl k9028 z9028 put9028 24 26 put9028_M (fun k_=>P0_ k_) (x5_1:Int) 1 HO_0 HB HK (fun _ h_=>h_) p5 q5 (p:=23) (h:=?_);intro w1_ hO_ hB_ hK_;replace HO_0:=mA hO_;replace HB:=mA hB_;replace HK:=mA hK_;clear hO_ hB_ hK_)|((with_reducible refine gate_store (t:=3) (p:=30) rfl ?_);refine stEl k9028 z9028 put9028 24 26 put9028_M (fun k_=>P0_ k_) (x5_1:Int) 2 HO_0 HB HK (fun _ h_=>h_) p5 q5 (p:=30) (h:=?_);intro w2_ hO_ hB_ hK_;replace HO_0:=mA hO_;replace HB:=mA hB_;replace HK:=mA hK_;clear hO_ hB_ hK_)|((with_reducible refine gate_store (t:=3) (p:=37) rfl ?_);refine stEl k9028 z9028 put9028 24 26 put9028_M (fun k_=>P0_ k_) (x5_1:Int) 3 HO_0 HB HK (fun _ h_=>h_) p5 q5 (p:=37) (h:=?_);intro w3_ hO_ hB_ hK_;replace HO_0:=mA hO_;replace HB:=mA hB_;replace HK:=mA hK_;clear hO_ hB_ hK_)|((with_reducible refine gate_store (t:=3) (p:=44) rfl ?_);refine stEl k9028 z9028 put9028 24 26 put9028_M (fun k_=>P0_ k_) (x5_1:Int) 4 HO_0 HB HK (fun _ h_=>h_) p5 q5 (p:=44) (h:=?_);intro w4_ hO_ hB_ hK_;replace HO_0:=mA hO_;replace HB:=mA hB_;replace HK:=mA hK_;clear hO_ hB_ hK_)|((with_reducible refine gate_store (t:=3) (p:=51) rfl ?_);refine stEl k9028 z9028 put9028 24 26 put9028_M (fun k_=>P0_ k_) (x5_1:Int) 5 HO_0 HB HK (fun _ h_=>h_) p5 q5 (p:=51) (h:=?_);intro w5_ hO_ hB_ hK_;replace HO_0:=mA hO_;replace HB:=mA hB_;replace HK:=mA hK_;clear hO_ hB_ hK_)|((with_reducible refine gate_store (t:=3) (p:=59) rfl ?_);refine stEl k9028 z9028 put9028 24 26 put9028_M (fun k_=>P0_ k_) (x5_1:Int) 6 HO_0 HB HK (fun _ h_=>h_) p5 q5 (p:=59) (h:=?_);intro w6_ hO_ hB_ hK_;replace HO_0:=mA hO_;replace HB:=mA hB_;replace HK:=mA hK_;clear hO_ hB_ hK_)|((with_reducible refine gate_store (t:=3) (p:=67) rfl ?_);refine stEl k9028 z9028 put9028 24 26 put9028_M (fun k_=>P0_ k_) (x5_1:Int) 7 HO_0 HB HK (fun _ h_=>h_) p5 q5 (p:=67) (h:=?_);intro w7_ hO_ hB_ hK_;replace HO_0:=mA hO_;replace HB:=mA hB_;replace HK:=mA hK_;clear hO_ hB_ hK_)|((with_reducible refine gate_store (t:=3) (p:=75) rfl ?_);refine stEl k9028 z9028 put9028 24 26 put9028_M (fun k_=>P0_ k_) (x5_1:Int) 8 HO_0 HB HK (fun _ h_=>h_) p5 q5 (p:=75) (h:=?_);intro w8_ hO_ hB_ hK_;replace HO_0:=mA hO_;replace HB:=mA hB_;replace HK:=mA hK_;clear hO_ hB_ hK_)|((with_reducible refine gate_store (t:=3) (p:=83) rfl ?_);refine stEl k9028 z9028 put9028 24 26 put9028_M (fun k_=>P0_ k_) (x5_1:Int) 9 HO_0 HB HK (fun _ h_=>h_) p5 q5 (p:=83) (h:=?_);intro w9_ hO_ hB_ hK_;replace HO_0:=mA hO_;replace HB:=mA hB_;replace HK:=mA hK_;clear hO_ hB_ hK_)|((with_reducible refine gate_store (t:=3) (p:=91) rfl ?_);refine stEl k9028 z9028 put9028 24 26 put9028_M (fun k_=>P0_ k_) (x5_1:Int) 10 HO_0 HB HK (fun _ h_=>h_) p5 q5 (p:=91) (h:=?_);intro w10_ hO_ hB_ hK_;replace HO_0:=mA hO_;replace HB:=mA hB_;replace HK:=mA hK_;clear hO_ hB_ hK_)|((with_reducible refine gate_store (t:=3) (p:=99) rfl ?_);refine stEl k9028 z9028 put9028 24 26 put9028_M (fun k_=>P0_ k_) (x5_1:Int) 11 HO_0 HB HK (fun _ h_=>h_) p5 q5 (p:=99) (h:=?_);intro w11_ hO_ hB_ hK_;replace HO_0:=mA hO_;replace HB:=mA hB_;replace HK:=mA hK_;clear hO_ hB_ hK_)|((with_reducible refine gate_store (t:=3) (p:=107) rfl ?_);refine stEl k9028 z9028 put9028 24 26 put9028_M (fun k_=>P0_ k_) (x5_1:Int) 12 HO_0 HB HK (fun _ h_=>h_) p5 q5 (p:=107) (h:=?_);intro w12_ hO_ hB_ hK_;replace HO_0:=mA hO_;replace HB:=mA hB_;replace HK:=mA hK_;clear hO_ hB_ hK_)|((with_reducible refine gate_store (t:=3) (p:=115) rfl ?_);refine stEl k9028 z9028 put9028 24 26 put9028_M (fun k_=>P0_ k_) (x5_1:Int) 13 HO_0 HB HK (fun _ h_=>h_) p5 q5 (p:=115) (h:=?_);intro w13_ hO_ hB_ hK_;replace HO_0:=mA hO_;replace HB:=mA hB_;replace HK:=mA hK_;clear hO_ hB_ hK_)|((with_reducible refine gate_store (t:=3) (p:=123) rfl ?_);refine stEl k9028 z9028 put9028 24 26 put9028_M (fun k_=>P0_ k_) (x5_1:Int) 14 HO_0 HB HK (fun _ h_=>h_) p5 q5 (p:=123) (h:=?_);intro w14_ hO_ hB_ hK_;replace HO_0:=mA hO_;replace HB:=mA hB_;replace HK:=mA hK_;clear hO_ hB_ hK_)|((with_reducible refine gate_store (t:=3) (p:=131) rfl ?_);refine stEl k9028 z9028 put9028 24 26 put9028_M (fun k_=>P0_ k_) (x5_1:Int) 15 HO_0 HB HK (fun _ h_=>h_) p5 q5 (p:=131) (h:=?_);intro w15_ hO_ hB_ hK_;replace HO_0:=mA hO_;replace HB:=mA hB_;replace HK:=mA hK_;clear hO_ hB_ hK_)|((with_reducible refine gate_store (t:=3) (p:=138) rfl ?_);refine stEl k9028 z9028 put9028 24 26 put9028_M (fun k_=>P0_ k_) (x5_1:Int) 16 HO_0 HB HK (fun _ h_=>h_) p5 q5 (p:=138) (h:=?_);intro w16_ hO_ hB_ hK_;replace HO_0:=mA hO_;replace HB:=mA hB_;replace HK:=mA hK_;clear hO_ hB_ hK_)|((with_reducible refine gate_store (t:=3) (p:=145) rfl ?_);refine stEl k9028 z9028 put9028 24 26 put9028_M (fun k_=>P0_ k_) (x5_1:Int) 17 HO_0 HB HK (fun _ h_=>h_) p5 q5 (p:=145) (h:=?_);intro w17_ hO_ hB_ hK_;replace HO_0:=mA hO_;replace HB:=mA hB_;replace HK:=mA hK_;clear hO_ hB_ hK_)|((with_reducible refine gate_store (t:=3) (p:=152) rfl ?_);refine stEl k9028 z9028 put9028 24 26 put9028_M (fun k_=>P0_ k_) (x5_1:Int) 18 HO_0 HB HK (fun _ h_=>h_) p5 q5 (p:=152) (h:=?_);intro w18_ hO_ hB_ hK_;replace HO_0:=mA hO_;replace HB:=mA hB_;replace HK:=mA hK_;clear hO_ hB_ hK_)|((with_reducible refine gate_store (t:=3) (p:=159) rfl ?_);refine stEl k9028 z9028 put9028 24 26 put9028_M (fun k_=>P0_ k_) (x5_1:Int) 19 HO_0 HB HK (fun _ h_=>h_) p5 q5 (p:=159) (h:=?_);intro w19_ hO_ hB_ hK_;replace HO_0:=mA hO_;replace HB:=mA hB_;replace HK:=mA hK_;clear hO_ hB_ hK_)|((with_reducible refine gate_store (t:=3) (p:=166) rfl ?_);refine stEl k9028 z9028 put9028 24 26 put9028_M (fun k_=>P0_ k_) (x5_1:Int) 20 HO_0 HB HK (fun _ h_=>h_) p5 q5 (p:=166) (h:=?_);intro w20_ hO_ hB_ hK_;replace HO_0:=mA hO_;replace HB:=mA hB_;replace HK:=mA hK_;clear hO_ hB_ hK_)|((with_reducible refine gate_store (t:=3) (p:=173) rfl ?_);refine stEl k9028 z9028 put9028 24 26 put9028_M (fun k_=>P0_ k_) (x5_1:Int) 21 HO_0 HB HK (fun _ h_=>h_) p5 q5 (p:=173) (h:=?_);intro w21_ hO_ hB_ hK_;replace HO_0:=mA hO_;replace HB:=mA hB_;replace HK:=mA hK_;clear hO_ hB_ hK_)|((with_reducible refine gate_store (t:=3) (p:=180) rfl ?_);refine stEl k9028 z9028 put9028 24 26 put9028_M (fun k_=>P0_ k_) (x5_1:Int) 22 HO_0 HB HK (fun _ h_=>h_) p5 q5 (p:=180) (h:=?_);intro w22_ hO_ hB_ hK_;replace HO_0:=mA hO_;replace HB:=mA hB_;replace HK:=mA hK_;clear hO_ hB_ hK_)|((with_reducible refine gate_store (t:=3) (p:=187) rfl ?_);refine stEl k9028 z9028 put9028 24 26 put9028_M (fun k_=>P0_ k_) (x5_1:Int) 23 HO_0 HB HK (fun _ h_=>h_) p5 q5 (p:=187) (h:=?_);intro w23_ hO_ hB_ hK_;replace HO_0:=mA hO_;replace HB:=mA hB_;replace HK:=mA hK_;clear hO_ hB_ hK_;(try clear hn24_);have hn24_:=nil9028_24 (x5_1:Int) HO_0 p5 q5;(try clear hn25_);have hn25_:=nil9028_25 (x5_1:Int) HO_0 p5 q5)|(refine gL (some 196) Try.func83 #[.slice none 0 0,.int .i64 (wrap64 ((wrap64 ((wrap64 ((wrap64 ((wrap64 ((wrap64 ((wrap64 ((wrap64 ((wrap64 ((wrap64 ((wrap64 ((wrap64 ((wrap64 ((wrap64 ((wrap64 ((wrap64 ((wrap64 ((wrap64 ((wrap64 ((wrap64 ((wrap64 ((wrap64 ((wrap64 ((wrap64 (x1_1+1))+1))+1))+1))+1))+1))+1))+1))+1))+1))+1))+1))+1))+1))+1))+1))+1))+1))+1))+1))+1))+1))+1))+1))] ?_;(refine (laws_markBlkPieceS.calls k1 (fun k_=>some k_=(.slice none 0 0:Value).ownBlock) (.slice none 0 0) ([]:List (S138)) (wrap64 ((wrap64 ((wrap64 ((wrap64 ((wrap64 ((wrap64 ((wrap64 ((wrap64 ((wrap64 ((wrap64 ((wrap64 ((wrap64 ((wrap64 ((wrap64 ((wrap64 ((wrap64 ((wrap64 ((wrap64 ((wrap64 ((wrap64 ((wrap64 ((wrap64 ((wrap64 ((wrap64 (x1_1+1))+1))+1))+1))+1))+1))+1))+1))+1))+1))+1))+1))+1))+1))+1))+1))+1))+1))+1))+1))+1))+1))+1))+1)) t266 t267 w0 _ ?s1 ?s2 A29.out).mono ?_);(case s1=>repeat (first|(with_reducible first|exact HB.out|apply below_alloc|apply pw_below_drewN|apply below_drew1)|exact HB.out));(case s2=>exact Kd.R_nil _ _ _ _ _);rintro e w80 ⟨rfl,hy0,hb,hkp⟩;refine ⟨_,rfl,?_⟩;replace HO_0:=mA (Kd.R_mono (ok':=fun k_=>(P0_ k_ ∨ w.heap.size≤k_)) (Kd.R_keptB (HO_0.out) hkp (fun k_ hk_ hs_=>(fun e_=>by simp [Value.ownBlock] at e_) hs_)) (fun k_ hk_=>hk_.1));replace HK:=mA (Kept.then_ (S:=(fun k_=>P0_ k_)) (by repeat (first|(with_reducible first|exact HK.out|apply Kept.alloc|apply Kept.drewN|apply Kept.drew)|exact HK.out)) hkp (fun k_ hs_=>(fun e_=>by simp [Value.ownBlock] at e_) hs_));replace HB:=mA hb;(try clear hb);(try clear hkp);(try clear hy0);(try clear hn24_);have hn24_:=nil9028_24 (x5_1:Int) HO_0 p5 q5;(try clear hn25_);have hn25_:=nil9028_25 (x5_1:Int) HO_0 p5 q5)|(refine gL (some 203) Try.func84 #[.slice none 0 0,.int .i64 t266] ?_;(refine (laws_markBlkLastS.calls k1 (fun k_=>some k_=(.slice none 0 0:Value).ownBlock) (.slice none 0 0) ([]:List (S140)) t266 t269 t270 w0 _ ?s1 ?s2 A30.out).mono ?_);(case s1=>repeat (first|(with_reducible first|exact HB.out|apply below_alloc|apply pw_below_drewN|apply below_drew1)|exact HB.out));(case s2=>exact Kd.R_nil _ _ _ _ _);rintro e w81 ⟨rfl,hy0,hb,hkp⟩;refine ⟨_,rfl,?_⟩;replace HO_0:=mA (Kd.R_mono (ok':=fun k_=>(P0_ k_ ∨ w.heap.size≤k_)) (Kd.R_keptB (HO_0.out) hkp (fun k_ hk_ hs_=>(fun e_=>by simp [Value.ownBlock] at e_) hs_)) (fun k_ hk_=>hk_.1));replace HK:=mA (Kept.then_ (S:=(fun k_=>P0_ k_)) (by repeat (first|(with_reducible first|exact HK.out|apply Kept.alloc|apply Kept.drewN|apply Kept.drew)|exact HK.out)) hkp (fun k_ hs_=>(fun e_=>by simp [Value.ownBlock] at e_) hs_));replace HB:=mA hb;(try clear hb);(try clear hkp);(try clear hy0)))
     replace HO_0:=mA (show Kd.R k9028 28 _ w0.heap.size (fun k_=>(P0_ k_ ∨ w.heap.size≤k_)) _ (x0_1.set (x5_1:Int).toNat (⟨x1_1,(wrap64 (x1_1+1)),(wrap64 ((wrap64 (x1_1+1))+1)),(wrap64 ((wrap64 ((wrap64 (x1_1+1))+1))+1)),(wrap64 ((wrap64 ((wrap64 ((wrap64 (x1_1+1))+1))+1))+1)),(wrap64 ((wrap64 ((wrap64 ((wrap64 ((wrap64 (x1_1+1))+1))+1))+1))+1)),(⟨(wrap64 ((wrap64 ((wrap64 ((wrap64 ((wrap64 ((wrap64 (x1_1+1))+1))+1))+1))+1))+1)),(wrap64 ((wrap64 ((wrap64 ((wrap64 ((wrap64 ((wrap64 ((wrap64 (x1_1+1))+1))+1))+1))+1))+1))+1)),(wrap64 ((wrap64 ((wrap64 ((wrap64 ((wrap64 ((wrap64 ((wrap64 ((wrap64 (x1_1+1))+1))+1))+1))+1))+1))+1))+1)),(wrap64 ((wrap64 ((wrap64 ((wrap64 ((wrap64 ((wrap64 ((wrap64 ((wrap64 ((wrap64 (x1_1+1))+1))+1))+1))+1))+1))+1))+1))+1)),(wrap64 ((wrap64 ((wrap64 ((wrap64 ((wrap64 ((wrap64 ((wrap64 ((wrap64 ((wrap64 ((wrap64 (x1_1+1))+1))+1))+1))+1))+1))+1))+1))+1))+1)),(wrap64 ((wrap64 ((wrap64 ((wrap64 ((wrap64 ((wrap64 ((wrap64 ((wrap64 ((wrap64 ((wrap64 ((wrap64 (x1_1+1))+1))+1))+1))+1))+1))+1))+1))+1))+1))+1)),(wrap64 ((wrap64 ((wrap64 ((wrap64 ((wrap64 ((wrap64 ((wrap64 ((wrap64 ((wrap64 ((wrap64 ((wrap64 ((wrap64 (x1_1+1))+1))+1))+1))+1))+1))+1))+1))+1))+1))+1))+1)),(wrap64 ((wrap64 ((wrap64 ((wrap64 ((wrap64 ((wrap64 ((wrap64 ((wrap64 ((wrap64 ((wrap64 ((wrap64 ((wrap64 ((wrap64 (x1_1+1))+1))+1))+1))+1))+1))+1))+1))+1))+1))+1))+1))+1)),(wrap64 ((wrap64 ((wrap64 ((wrap64 ((wrap64 ((wrap64 ((wrap64 ((wrap64 ((wrap64 ((wrap64 ((wrap64 ((wrap64 ((wrap64 ((wrap64 (x1_1+1))+1))+1))+1))+1))+1))+1))+1))+1))+1))+1))+1))+1))+1)),(wrap64 ((wrap64 ((wrap64 ((wrap64 ((wrap64 ((wrap64 ((wrap64 ((wrap64 ((wrap64 ((wrap64 ((wrap64 ((wrap64 ((wrap64 ((wrap64 ((wrap64 (x1_1+1))+1))+1))+1))+1))+1))+1))+1))+1))+1))+1))+1))+1))+1))+1))⟩:S24),(wrap64 ((wrap64 ((wrap64 ((wrap64 ((wrap64 ((wrap64 ((wrap64 ((wrap64 ((wrap64 ((wrap64 ((wrap64 ((wrap64 ((wrap64 ((wrap64 ((wrap64 ((wrap64 (x1_1+1))+1))+1))+1))+1))+1))+1))+1))+1))+1))+1))+1))+1))+1))+1))+1)),(wrap64 ((wrap64 ((wrap64 ((wrap64 ((wrap64 ((wrap64 ((wrap64 ((wrap64 ((wrap64 ((wrap64 ((wrap64 ((wrap64 ((wrap64 ((wrap64 ((wrap64 ((wrap64 ((wrap64 (x1_1+1))+1))+1))+1))+1))+1))+1))+1))+1))+1))+1))+1))+1))+1))+1))+1))+1)),(wrap64 ((wrap64 ((wrap64 ((wrap64 ((wrap64 ((wrap64 ((wrap64 ((wrap64 ((wrap64 ((wrap64 ((wrap64 ((wrap64 ((wrap64 ((wrap64 ((wrap64 ((wrap64 ((wrap64 ((wrap64 (x1_1+1))+1))+1))+1))+1))+1))+1))+1))+1))+1))+1))+1))+1))+1))+1))+1))+1))+1)),(wrap64 ((wrap64 ((wrap64 ((wrap64 ((wrap64 ((wrap64 ((wrap64 ((wrap64 ((wrap64 ((wrap64 ((wrap64 ((wrap64 ((wrap64 ((wrap64 ((wrap64 ((wrap64 ((wrap64 ((wrap64 ((wrap64 (x1_1+1))+1))+1))+1))+1))+1))+1))+1))+1))+1))+1))+1))+1))+1))+1))+1))+1))+1))+1)),(wrap64 ((wrap64 ((wrap64 ((wrap64 ((wrap64 ((wrap64 ((wrap64 ((wrap64 ((wrap64 ((wrap64 ((wrap64 ((wrap64 ((wrap64 ((wrap64 ((wrap64 ((wrap64 ((wrap64 ((wrap64 ((wrap64 ((wrap64 (x1_1+1))+1))+1))+1))+1))+1))+1))+1))+1))+1))+1))+1))+1))+1))+1))+1))+1))+1))+1))+1)),(wrap64 ((wrap64 ((wrap64 ((wrap64 ((wrap64 ((wrap64 ((wrap64 ((wrap64 ((wrap64 ((wrap64 ((wrap64 ((wrap64 ((wrap64 ((wrap64 ((wrap64 ((wrap64 ((wrap64 ((wrap64 ((wrap64 ((wrap64 ((wrap64 (x1_1+1))+1))+1))+1))+1))+1))+1))+1))+1))+1))+1))+1))+1))+1))+1))+1))+1))+1))+1))+1))+1)),(wrap64 ((wrap64 ((wrap64 ((wrap64 ((wrap64 ((wrap64 ((wrap64 ((wrap64 ((wrap64 ((wrap64 ((wrap64 ((wrap64 ((wrap64 ((wrap64 ((wrap64 ((wrap64 ((wrap64 ((wrap64 ((wrap64 ((wrap64 ((wrap64 ((wrap64 (x1_1+1))+1))+1))+1))+1))+1))+1))+1))+1))+1))+1))+1))+1))+1))+1))+1))+1))+1))+1))+1))+1))+1)),(wrap64 ((wrap64 ((wrap64 ((wrap64 ((wrap64 ((wrap64 ((wrap64 ((wrap64 ((wrap64 ((wrap64 ((wrap64 ((wrap64 ((wrap64 ((wrap64 ((wrap64 ((wrap64 ((wrap64 ((wrap64 ((wrap64 ((wrap64 ((wrap64 ((wrap64 ((wrap64 (x1_1+1))+1))+1))+1))+1))+1))+1))+1))+1))+1))+1))+1))+1))+1))+1))+1))+1))+1))+1))+1))+1))+1))+1)),(),()⟩:S9028)) from HO_0.out)
     go_roundg k1
     case measure=>have:=HK1.out;omega
     case rel=>exact ⟨(x0_1.set (x5_1:Int).toNat (⟨x1_1,(wrap64 (x1_1+1)),(wrap64 ((wrap64 (x1_1+1))+1)),(wrap64 ((wrap64 ((wrap64 (x1_1+1))+1))+1)),(wrap64 ((wrap64 ((wrap64 ((wrap64 (x1_1+1))+1))+1))+1)),(wrap64 ((wrap64 ((wrap64 ((wrap64 ((wrap64 (x1_1+1))+1))+1))+1))+1)),(⟨(wrap64 ((wrap64 ((wrap64 ((wrap64 ((wrap64 ((wrap64 (x1_1+1))+1))+1))+1))+1))+1)),(wrap64 ((wrap64 ((wrap64 ((wrap64 ((wrap64 ((wrap64 ((wrap64 (x1_1+1))+1))+1))+1))+1))+1))+1)),(wrap64 ((wrap64 ((wrap64 ((wrap64 ((wrap64 ((wrap64 ((wrap64 ((wrap64 (x1_1+1))+1))+1))+1))+1))+1))+1))+1)),(wrap64 ((wrap64 ((wrap64 ((wrap64 ((wrap64 ((wrap64 ((wrap64 ((wrap64 ((wrap64 (x1_1+1))+1))+1))+1))+1))+1))+1))+1))+1)),(wrap64 ((wrap64 ((wrap64 ((wrap64 ((wrap64 ((wrap64 ((wrap64 ((wrap64 ((wrap64 ((wrap64 (x1_1+1))+1))+1))+1))+1))+1))+1))+1))+1))+1)),(wrap64 ((wrap64 ((wrap64 ((wrap64 ((wrap64 ((wrap64 ((wrap64 ((wrap64 ((wrap64 ((wrap64 ((wrap64 (x1_1+1))+1))+1))+1))+1))+1))+1))+1))+1))+1))+1)),(wrap64 ((wrap64 ((wrap64 ((wrap64 ((wrap64 ((wrap64 ((wrap64 ((wrap64 ((wrap64 ((wrap64 ((wrap64 ((wrap64 (x1_1+1))+1))+1))+1))+1))+1))+1))+1))+1))+1))+1))+1)),(wrap64 ((wrap64 ((wrap64 ((wrap64 ((wrap64 ((wrap64 ((wrap64 ((wrap64 ((wrap64 ((wrap64 ((wrap64 ((wrap64 ((wrap64 (x1_1+1))+1))+1))+1))+1))+1))+1))+1))+1))+1))+1))+1))+1)),(wrap64 ((wrap64 ((wrap64 ((wrap64 ((wrap64 ((wrap64 ((wrap64 ((wrap64 ((wrap64 ((wrap64 ((wrap64 ((wrap64 ((wrap64 ((wrap64 (x1_1+1))+1))+1))+1))+1))+1))+1))+1))+1))+1))+1))+1))+1))+1)),(wrap64 ((wrap64 ((wrap64 ((wrap64 ((wrap64 ((wrap64 ((wrap64 ((wrap64 ((wrap64 ((wrap64 ((wrap64 ((wrap64 ((wrap64 ((wrap64 ((wrap64 (x1_1+1))+1))+1))+1))+1))+1))+1))+1))+1))+1))+1))+1))+1))+1))+1))⟩:S24),(wrap64 ((wrap64 ((wrap64 ((wrap64 ((wrap64 ((wrap64 ((wrap64 ((wrap64 ((wrap64 ((wrap64 ((wrap64 ((wrap64 ((wrap64 ((wrap64 ((wrap64 ((wrap64 (x1_1+1))+1))+1))+1))+1))+1))+1))+1))+1))+1))+1))+1))+1))+1))+1))+1)),(wrap64 ((wrap64 ((wrap64 ((wrap64 ((wrap64 ((wrap64 ((wrap64 ((wrap64 ((wrap64 ((wrap64 ((wrap64 ((wrap64 ((wrap64 ((wrap64 ((wrap64 ((wrap64 ((wrap64 (x1_1+1))+1))+1))+1))+1))+1))+1))+1))+1))+1))+1))+1))+1))+1))+1))+1))+1)),(wrap64 ((wrap64 ((wrap64 ((wrap64 ((wrap64 ((wrap64 ((wrap64 ((wrap64 ((wrap64 ((wrap64 ((wrap64 ((wrap64 ((wrap64 ((wrap64 ((wrap64 ((wrap64 ((wrap64 ((wrap64 (x1_1+1))+1))+1))+1))+1))+1))+1))+1))+1))+1))+1))+1))+1))+1))+1))+1))+1))+1)),(wrap64 ((wrap64 ((wrap64 ((wrap64 ((wrap64 ((wrap64 ((wrap64 ((wrap64 ((wrap64 ((wrap64 ((wrap64 ((wrap64 ((wrap64 ((wrap64 ((wrap64 ((wrap64 ((wrap64 ((wrap64 ((wrap64 (x1_1+1))+1))+1))+1))+1))+1))+1))+1))+1))+1))+1))+1))+1))+1))+1))+1))+1))+1))+1)),(wrap64 ((wrap64 ((wrap64 ((wrap64 ((wrap64 ((wrap64 ((wrap64 ((wrap64 ((wrap64 ((wrap64 ((wrap64 ((wrap64 ((wrap64 ((wrap64 ((wrap64 ((wrap64 ((wrap64 ((wrap64 ((wrap64 ((wrap64 (x1_1+1))+1))+1))+1))+1))+1))+1))+1))+1))+1))+1))+1))+1))+1))+1))+1))+1))+1))+1))+1)),(wrap64 ((wrap64 ((wrap64 ((wrap64 ((wrap64 ((wrap64 ((wrap64 ((wrap64 ((wrap64 ((wrap64 ((wrap64 ((wrap64 ((wrap64 ((wrap64 ((wrap64 ((wrap64 ((wrap64 ((wrap64 ((wrap64 ((wrap64 ((wrap64 (x1_1+1))+1))+1))+1))+1))+1))+1))+1))+1))+1))+1))+1))+1))+1))+1))+1))+1))+1))+1))+1))+1)),(wrap64 ((wrap64 ((wrap64 ((wrap64 ((wrap64 ((wrap64 ((wrap64 ((wrap64 ((wrap64 ((wrap64 ((wrap64 ((wrap64 ((wrap64 ((wrap64 ((wrap64 ((wrap64 ((wrap64 ((wrap64 ((wrap64 ((wrap64 ((wrap64 ((wrap64 (x1_1+1))+1))+1))+1))+1))+1))+1))+1))+1))+1))+1))+1))+1))+1))+1))+1))+1))+1))+1))+1))+1))+1)),(wrap64 ((wrap64 ((wrap64 ((wrap64 ((wrap64 ((wrap64 ((wrap64 ((wrap64 ((wrap64 ((wrap64 ((wrap64 ((wrap64 ((wrap64 ((wrap64 ((wrap64 ((wrap64 ((wrap64 ((wrap64 ((wrap64 ((wrap64 ((wrap64 ((wrap64 ((wrap64 (x1_1+1))+1))+1))+1))+1))+1))+1))+1))+1))+1))+1))+1))+1))+1))+1))+1))+1))+1))+1))+1))+1))+1))+1)),(),()⟩:S9028)),(t269),(wrap64 (x5_1+1)),bZ,bZ,H',⟨by have:=HK1.out;omega⟩,⟨pR HO_0.out⟩,⟨by repeat (first|(with_reducible first|exact HK.out|apply Kept.alloc|apply Kept.drewN|apply Kept.drew)|exact HK.out)⟩,⟨pB HB.out⟩⟩
    ·rw [if_neg c4] at H
     exact absurd H (by simp)
   ·rw [if_neg c3] at H;have c3b0:decide (x5_1<(x0_1.length:Int))=false:=decide_eq_false c3;clear c3;simp only [Option.some.injEq,Prod.mk.injEq] at H;obtain ⟨rfl,rfl⟩:=H;obtain ⟨Ao82,co82,rfl⟩:=Kd.R_slice HO_0.out
    go_wp2
    go_ret
    exact ⟨by first|rfl|(simp [errW_none,errW_some]<;>rfl)|(simp [*,errW_none,errW_some]<;>rfl),pR HO_0.out,pB HB.out,by repeat (first|(with_reducible first|exact HK.out|apply Kept.alloc|apply Kept.drewN|apply Kept.drew)|exact HK.out)⟩
/-! ### laws_heldIntS: function 101 -/
def laws_heldIntS.l0 : Nat → List Int → Int → Int → Option (Int)
 | 0,_,_,_=>none
 | k+1,x0,x1,x5=>if x5<(x0.length:Int) then (if 0≤x5 then (if (rd x0 x5)=x1 then (laws_heldIntS.l0 k x0 (wrap64 (x1+1)) (wrap64 (x5+1))) else (some (-1))) else (none)) else (some x1)
def laws_heldIntS.f (k : Nat) (l0 : List Int) (a1 : Int) : Option (Int) := laws_heldIntS.l0 k l0 a1 0
set_option maxHeartbeats 8000000 in
set_option maxRecDepth 100000 in
theorem laws_heldIntS.calls {k : Nat} {A0 : Option Addr} {c0 : Nat} {l0 : List Int} {a1 r : Int} {w : World} (hr0 : Kd.C (Kd.int .i64) w A0 l0.length l0) (hc0 : l0.length ≤ c0) (h : laws_heldIntS.f k l0 a1 = some r) :
  Calls Try.prog 101 #[.slice A0 l0.length c0,.int .i64 a1] w fun e w'=>e=.returned (.int .i64 r)∧Drawn0 w w':=by
 have HR0:=mA hr0;have HC0:=mA hc0;clear hr0 hc0;have H:(laws_heldIntS.l0 k l0 a1 0)=some r:=h;clear h;have H':=mA H;clear H
 go_enter Try.func101,Try.ntmps101
 go_wp2
 go_loopg [1,5] k (fun kq v1 v5 w'=>∃ (x1_1:Int) (x5_1:Int),v1=.int .i64 x1_1∧v5=.int .i64 x5_1∧Aside0 (laws_heldIntS.l0 kq l0 x1_1 x5_1=some r)∧Aside0 (kq≤k)∧Drawn0 w w')
 case atStart=>exact ⟨(a1),(0),bZ,bZ,H',⟨Nat.le_refl _⟩,by repeat (first|exact Drawn0.refl _|apply Drawn0.step)⟩
 case round =>
  clear H'
  obtain ⟨x1_1,x5_1,rfl,rfl,HA,HK1,⟨m1,rfl⟩⟩:=hrel
  cases gk with
  | zero=>exact absurd HA.out (by simp [laws_heldIntS.l0])
  | succ k1 =>
   have H:=HA.out;clear HA;simp only [laws_heldIntS.l0] at H
   by_cases c3:x5_1<(l0.length:Int)
   ·rw [if_pos c3] at H;have c3b0:decide (x5_1<(l0.length:Int))=true:=decide_eq_true c3;clear c3
    by_cases c4:0≤x5_1
    ·rw [if_pos c4] at H;have c4b0:decide (0≤x5_1)=true:=decide_eq_true c4;clear c4
     by_cases c5:(rd l0 x5_1)=x1_1
     ·rw [if_pos c5] at H;obtain ⟨c5b0,c5b1⟩:=eqB c5;clear c5;have H':=mA H;clear H;have p271:0≤(x5_1:Int):=of_decide_eq_true bA;have q271:x5_1<(l0.length:Int):=of_decide_eq_true bA;obtain ⟨ad271,e271,hx271_0⟩:=Kd.at_int HR0.out x5_1 p271 q271;cases e271;replace p271:=eq_true p271;replace q271:=eq_true q271
      go_wp2
      go_roundg k1
      case measure=>have:=HK1.out;omega
      case rel=>exact ⟨(wrap64 (x1_1+1)),(wrap64 (x5_1+1)),bZ,bZ,H',⟨by have:=HK1.out;omega⟩,by repeat (first|exact Drawn0.refl _|apply Drawn0.step)⟩
     ·rw [if_neg c5] at H;obtain ⟨c5b0,c5b1⟩:=neB c5;clear c5;obtain rfl:=Option.some.inj H;have p271:0≤(x5_1:Int):=of_decide_eq_true bA;have q271:x5_1<(l0.length:Int):=of_decide_eq_true bA;obtain ⟨ad271,e271,hx271_0⟩:=Kd.at_int HR0.out x5_1 p271 q271;cases e271;replace p271:=eq_true p271;replace q271:=eq_true q271
      go_wp2
      go_ret
      exact ⟨by first|rfl|(simp;done)|(simp [*];done),by repeat (first|exact Drawn0.refl _|apply Drawn0.step)⟩
    ·rw [if_neg c4] at H
     exact absurd H (by simp)
   ·rw [if_neg c3] at H;have c3b0:decide (x5_1<(l0.length:Int))=false:=decide_eq_false c3;clear c3;obtain rfl:=Option.some.inj H
    go_wp2
    go_ret
    exact ⟨by first|rfl|(simp;done)|(simp [*];done),by repeat (first|exact Drawn0.refl _|apply Drawn0.step)⟩
/-! ### laws_heldSynSeeker: function 41 -/
def laws_heldSynSeeker.f (k : Nat) (a0_0 a0_1 a0_2 a0_3 a0_4 a0_5 a0_6 a0_7 a0_8 a0_9 a0_10 a0_11 a0_12 a0_13 a0_14 a0_15 a0_16 a0_17 a0_18 a0_19 a0_20 a0_21 a0_22 a0_23 a0_24 : Int) (l0_25 : List Int) (a1 : Int) : Option (Int) := (laws_heldIntS.f k l0_25 a1).bind fun t273 => (if t273 < 0 then (some (-1)) else (some t273))
set_option maxHeartbeats 8000000 in
set_option maxRecDepth 100000 in
theorem laws_heldSynSeeker.calls {k : Nat} {a0_0 a0_1 a0_2 a0_3 a0_4 a0_5 a0_6 a0_7 a0_8 a0_9 a0_10 a0_11 a0_12 a0_13 a0_14 a0_15 a0_16 a0_17 a0_18 a0_19 a0_20 a0_21 a0_22 a0_23 a0_24 : Int} {A0_25 : Option Addr} {c0_25 : Nat} {l0_25 : List Int} {a1 r : Int} {w : World} (hr0_25 : Kd.C (Kd.int .i64) w A0_25 l0_25.length l0_25) (hc0_25 : l0_25.length ≤ c0_25) (h : laws_heldSynSeeker.f k a0_0 a0_1 a0_2 a0_3 a0_4 a0_5 a0_6 a0_7 a0_8 a0_9 a0_10 a0_11 a0_12 a0_13 a0_14 a0_15 a0_16 a0_17 a0_18 a0_19 a0_20 a0_21 a0_22 a0_23 a0_24 l0_25 a1 = some r) :
  Calls Try.prog 41 #[.agg #[.int .i64 a0_0,.int .i64 a0_1,.int .i64 a0_2,.int .i64 a0_3,.int .i64 a0_4,.int .i64 a0_5,.int .i64 a0_6,.int .i64 a0_7,.int .i64 a0_8,.int .i64 a0_9,.int .i64 a0_10,.int .i64 a0_11,.int .i64 a0_12,.int .i64 a0_13,.int .i64 a0_14,.int .i64 a0_15,.int .i64 a0_16,.int .i64 a0_17,.int .i64 a0_18,.int .i64 a0_19,.int .i64 a0_20,.int .i64 a0_21,.int .i64 a0_22,.int .i64 a0_23,.int .i64 a0_24,.slice A0_25 l0_25.length c0_25],.int .i64 a1] w fun e w'=>e=.returned (.int .i64 r)∧Below w.heap.size w w':=by
 have hu66:=Try.underlying66;have HR0_25:=mA hr0_25;have HC0_25:=mA hc0_25;clear hr0_25 hc0_25;have HB:=mA (Below.refl w.heap.size w);have H:((laws_heldIntS.f k l0_25 a1).bind fun t273=>(if t273<0 then (some (-1)) else (some t273)))=some r:=h;clear h;obtain ⟨t273,A3,H⟩:=bI H;(try dsimp only at H)
 by_cases c4:t273<0
 ·rw [if_pos c4] at H;have c4b0:decide (t273<0)=true:=decide_eq_true c4;clear c4;obtain rfl:=Option.some.inj H
  go_enter Try.func41,Try.ntmps41
  go_wp2_with (first|((with_reducible refine gLg rfl (by assumption) ?_);refine ldV ?_)|((with_reducible refine gSt rfl (by assumption) ?_);refine stV ?_)|((with_reducible refine gT 2 rfl ?_);refine bX 2 ?_;intro gb272 hg w5 hbox hb;have BK272:=mA hbox;have GW272:=gbpB HB hg;have GE272:=gbpB HB hg;replace HB:=spB HB hb;clear hb hbox hg;have hcz6_0:=fun i_=>blk_cell BK272.out i_;have hfz6_0:=fun i_=>blk_frozen BK272.out i_)|((with_reducible refine gT 8 rfl ?_);refine gC (some 8) Try.func101 (laws_heldIntS.calls (cB HR0_25 HB) HC0_25.out A3.out) ?_;rintro e w' ⟨rfl,⟨nd,rfl⟩⟩;refine ⟨_,rfl,?_⟩))
  go_ret
  exact rZ (pS HB.out)
 ·rw [if_neg c4] at H;have c4b0:decide (t273<0)=false:=decide_eq_false c4;clear c4;obtain rfl:=Option.some.inj H
  go_enter Try.func41,Try.ntmps41
  go_wp2_with (first|((with_reducible refine gLg rfl (by assumption) ?_);refine ldV ?_)|((with_reducible refine gSt rfl (by assumption) ?_);refine stV ?_)|((with_reducible refine gT 2 rfl ?_);refine bX 2 ?_;intro gb272 hg w7 hbox hb;have BK272:=mA hbox;have GW272:=gbpB HB hg;have GE272:=gbpB HB hg;replace HB:=spB HB hb;clear hb hbox hg;have hcz8_0:=fun i_=>blk_cell BK272.out i_;have hfz8_0:=fun i_=>blk_frozen BK272.out i_)|((with_reducible refine gT 8 rfl ?_);refine gC (some 8) Try.func101 (laws_heldIntS.calls (cB HR0_25 HB) HC0_25.out A3.out) ?_;rintro e w' ⟨rfl,⟨nd,rfl⟩⟩;refine ⟨_,rfl,?_⟩))
  go_ret
  exact rZ (pS HB.out)
/-! ### laws_heldBlkPieceS: function 102 -/
def laws_heldBlkPieceS.l0 : Nat → List (S138) → Int → Int → Option (Int)
 | 0,_,_,_=>none
 | k+1,x0,x1,x5=>if x5<(x0.length:Int) then (if 0≤x5 then (if ((rd_T138 x0 x5).f0)=x1 then (if ((rd_T138 x0 x5).f1)=(wrap64 (x1+1)) then (if ((rd_T138 x0 x5).f2)=(wrap64 ((wrap64 (x1+1))+1)) then (if ((rd_T138 x0 x5).f3)=(wrap64 ((wrap64 ((wrap64 (x1+1))+1))+1)) then (laws_heldBlkPieceS.l0 k x0 (wrap64 ((wrap64 ((wrap64 ((wrap64 (x1+1))+1))+1))+1)) (wrap64 (x5+1))) else (some (-1))) else (some (-1))) else (some (-1))) else (some (-1))) else (none)) else (some x1)
def laws_heldBlkPieceS.f (k : Nat) (l0 : List (S138)) (a1 : Int) : Option (Int) := laws_heldBlkPieceS.l0 k l0 a1 0
theorem laws_heldBlkPieceS.mono_l : ∀ k, (∀ y0 y1 y2, LeO (laws_heldBlkPieceS.l0 k y0 y1 y2) (laws_heldBlkPieceS.l0 (k + 1) y0 y1 y2))
 | 0=>fun _ _ _ r h=>by simp [laws_heldBlkPieceS.l0] at h
 | k+1=>by
  have ih0:=laws_heldBlkPieceS.mono_l k
  ·intros
   unfold laws_heldBlkPieceS.l0
   repeat' first
   | (with_reducible first|apply ih0|exact LeO.refl _|exact LeO.none _|refine LeO.ite ?_ ?_|refine LeO.bind ?_ (fun _=>?_))|exact LeO.none _|refine LeO.ite ?_ ?_|refine LeO.bind ?_ (fun _=>?_)
theorem laws_heldBlkPieceS.mono : ∀ a0 a1 k, LeO (laws_heldBlkPieceS.f k a0 a1) (laws_heldBlkPieceS.f (k + 1) a0 a1) := by
 intro a0 a1 k;have ih0:=laws_heldBlkPieceS.mono_l k
 unfold laws_heldBlkPieceS.f
 repeat' first
   | (with_reducible first|apply ih0|exact LeO.refl _|exact LeO.none _|refine LeO.ite ?_ ?_|refine LeO.bind ?_ (fun _=>?_))|exact LeO.none _|refine LeO.ite ?_ ?_|refine LeO.bind ?_ (fun _=>?_)
set_option maxHeartbeats 8000000 in
set_option maxRecDepth 100000 in
theorem laws_heldBlkPieceS.calls {k : Nat} {A0 : Option Addr} {c0 : Nat} {l0 : List (S138)} {a1 r : Int} {w : World} (hr0 : Kd.C k138 w A0 l0.length l0) (hc0 : l0.length ≤ c0) (h : laws_heldBlkPieceS.f k l0 a1 = some r) :
  Calls Try.prog 102 #[.slice A0 l0.length c0,.int .i64 a1] w fun e w'=>e=.returned (.int .i64 r)∧Drawn0 w w':=by
 have HR0:=mA hr0;have HC0:=mA hc0;clear hr0 hc0;have H:(laws_heldBlkPieceS.l0 k l0 a1 0)=some r:=h;clear h;have H':=mA H;clear H
 go_enter Try.func102,Try.ntmps102
 go_wp2
 go_loopg [1,5] k (fun kq v1 v5 w'=>∃ (x1_1:Int) (x5_1:Int),v1=.int .i64 x1_1∧v5=.int .i64 x5_1∧Aside0 (laws_heldBlkPieceS.l0 kq l0 x1_1 x5_1=some r)∧Aside0 (kq≤k)∧Drawn0 w w')
 case atStart=>exact ⟨(a1),(0),bZ,bZ,H',⟨Nat.le_refl _⟩,by repeat (first|exact Drawn0.refl _|apply Drawn0.step)⟩
 case round =>
  clear H'
  obtain ⟨x1_1,x5_1,rfl,rfl,HA,HK1,⟨m1,rfl⟩⟩:=hrel
  cases gk with
  | zero=>exact absurd HA.out (by simp [laws_heldBlkPieceS.l0])
  | succ k1 =>
   have H:=HA.out;clear HA;simp only [laws_heldBlkPieceS.l0] at H
   by_cases c3:x5_1<(l0.length:Int)
   ·rw [if_pos c3] at H;have c3b0:decide (x5_1<(l0.length:Int))=true:=decide_eq_true c3;clear c3
    by_cases c4:0≤x5_1
    ·rw [if_pos c4] at H;have c4b0:decide (0≤x5_1)=true:=decide_eq_true c4;clear c4
     by_cases c5:((rd_T138 l0 x5_1).f0)=x1_1
     ·rw [if_pos c5] at H;obtain ⟨c5b0,c5b1⟩:=eqB c5;clear c5
      by_cases c6:((rd_T138 l0 x5_1).f1)=(wrap64 (x1_1+1))
      ·rw [if_pos c6] at H;obtain ⟨c6b0,c6b1⟩:=eqB c6;clear c6
       by_cases c7:((rd_T138 l0 x5_1).f2)=(wrap64 ((wrap64 (x1_1+1))+1))
       ·rw [if_pos c7] at H;obtain ⟨c7b0,c7b1⟩:=eqB c7;clear c7
        by_cases c8:((rd_T138 l0 x5_1).f3)=(wrap64 ((wrap64 ((wrap64 (x1_1+1))+1))+1))
        ·rw [if_pos c8] at H;obtain ⟨c8b0,c8b1⟩:=eqB c8;clear c8;have H':=mA H;clear H;have p274:0≤(x5_1:Int):=of_decide_eq_true bA;have q274:x5_1<(l0.length:Int):=of_decide_eq_true bA;obtain ⟨ad274,e274,hx274_0,hx274_1,hx274_2,hx274_3⟩:=at_T138 HR0.out x5_1 p274 q274;cases e274;replace p274:=eq_true p274;replace q274:=eq_true q274;go_wp2
         go_roundg k1
         case measure=>have:=HK1.out;omega
         case rel=>exact ⟨(wrap64 ((wrap64 ((wrap64 ((wrap64 (x1_1+1))+1))+1))+1)),(wrap64 (x5_1+1)),bZ,bZ,H',⟨by have:=HK1.out;omega⟩,by repeat (first|exact Drawn0.refl _|apply Drawn0.step)⟩
        ·rw [if_neg c8] at H;obtain ⟨c8b0,c8b1⟩:=neB c8;clear c8;obtain rfl:=Option.some.inj H;have p274:0≤(x5_1:Int):=of_decide_eq_true bA;have q274:x5_1<(l0.length:Int):=of_decide_eq_true bA;obtain ⟨ad274,e274,hx274_0,hx274_1,hx274_2,hx274_3⟩:=at_T138 HR0.out x5_1 p274 q274;cases e274;replace p274:=eq_true p274;replace q274:=eq_true q274;go_wp2
         go_ret
         exact ⟨by first|rfl|(simp;done)|(simp [*];done),by repeat (first|exact Drawn0.refl _|apply Drawn0.step)⟩
       ·rw [if_neg c7] at H;obtain ⟨c7b0,c7b1⟩:=neB c7;clear c7;obtain rfl:=Option.some.inj H;have p274:0≤(x5_1:Int):=of_decide_eq_true bA;have q274:x5_1<(l0.length:Int):=of_decide_eq_true bA;obtain ⟨ad274,e274,hx274_0,hx274_1,hx274_2,hx274_3⟩:=at_T138 HR0.out x5_1 p274 q274;cases e274;replace p274:=eq_true p274;replace q274:=eq_true q274;go_wp2
        go_ret
        exact ⟨by first|rfl|(simp;done)|(simp [*];done),by repeat (first|exact Drawn0.refl _|apply Drawn0.step)⟩
      ·rw [if_neg c6] at H;obtain ⟨c6b0,c6b1⟩:=neB c6;clear c6;obtain rfl:=Option.some.inj H;have p274:0≤(x5_1:Int):=of_decide_eq_true bA;have q274:x5_1<(l0.length:Int):=of_decide_eq_true bA;obtain ⟨ad274,e274,hx274_0,hx274_1,hx274_2,hx274_3⟩:=at_T138 HR0.out x5_1 p274 q274;cases e274;replace p274:=eq_true p274;replace q274:=eq_true q274;go_wp2
       go_ret
       exact ⟨by first|rfl|(simp;done)|(simp [*];done),by repeat (first|exact Drawn0.refl _|apply Drawn0.step)⟩
     ·rw [if_neg c5] at H;obtain ⟨c5b0,c5b1⟩:=neB c5;clear c5;obtain rfl:=Option.some.inj H;have p274:0≤(x5_1:Int):=of_decide_eq_true bA;have q274:x5_1<(l0.length:Int):=of_decide_eq_true bA;obtain ⟨ad274,e274,hx274_0,hx274_1,hx274_2,hx274_3⟩:=at_T138 HR0.out x5_1 p274 q274;cases e274;replace p274:=eq_true p274;replace q274:=eq_true q274
      go_wp2
      go_ret
      exact ⟨by first|rfl|(simp;done)|(simp [*];done),by repeat (first|exact Drawn0.refl _|apply Drawn0.step)⟩
    ·rw [if_neg c4] at H
     exact absurd H (by simp)
   ·rw [if_neg c3] at H;have c3b0:decide (x5_1<(l0.length:Int))=false:=decide_eq_false c3;clear c3;obtain rfl:=Option.some.inj H
    go_wp2
    go_ret
    exact ⟨by first|rfl|(simp;done)|(simp [*];done),by repeat (first|exact Drawn0.refl _|apply Drawn0.step)⟩
/-! ### laws_heldBlkLastS: function 103 -/
def laws_heldBlkLastS.l0 : Nat → List (S140) → Int → Int → Option (Int)
 | 0,_,_,_=>none
 | k+1,x0,x1,x5=>if x5<(x0.length:Int) then (if 0≤x5 then (if ((rd_T140 x0 x5).f0)=x1 then (if ((rd_T140 x0 x5).f1)=(wrap64 (x1+1)) then (laws_heldBlkLastS.l0 k x0 (wrap64 ((wrap64 (x1+1))+1)) (wrap64 (x5+1))) else (some (-1))) else (some (-1))) else (none)) else (some x1)
def laws_heldBlkLastS.f (k : Nat) (l0 : List (S140)) (a1 : Int) : Option (Int) := laws_heldBlkLastS.l0 k l0 a1 0
theorem laws_heldBlkLastS.mono_l : ∀ k, (∀ y0 y1 y2, LeO (laws_heldBlkLastS.l0 k y0 y1 y2) (laws_heldBlkLastS.l0 (k + 1) y0 y1 y2))
 | 0=>fun _ _ _ r h=>by simp [laws_heldBlkLastS.l0] at h
 | k+1=>by
  have ih0:=laws_heldBlkLastS.mono_l k
  ·intros
   unfold laws_heldBlkLastS.l0
   repeat' first
   | (with_reducible first|apply ih0|exact LeO.refl _|exact LeO.none _|refine LeO.ite ?_ ?_|refine LeO.bind ?_ (fun _=>?_))|exact LeO.none _|refine LeO.ite ?_ ?_|refine LeO.bind ?_ (fun _=>?_)
theorem laws_heldBlkLastS.mono : ∀ a0 a1 k, LeO (laws_heldBlkLastS.f k a0 a1) (laws_heldBlkLastS.f (k + 1) a0 a1) := by
 intro a0 a1 k;have ih0:=laws_heldBlkLastS.mono_l k
 unfold laws_heldBlkLastS.f
 repeat' first
   | (with_reducible first|apply ih0|exact LeO.refl _|exact LeO.none _|refine LeO.ite ?_ ?_|refine LeO.bind ?_ (fun _=>?_))|exact LeO.none _|refine LeO.ite ?_ ?_|refine LeO.bind ?_ (fun _=>?_)
set_option maxHeartbeats 8000000 in
set_option maxRecDepth 100000 in
theorem laws_heldBlkLastS.calls {k : Nat} {A0 : Option Addr} {c0 : Nat} {l0 : List (S140)} {a1 r : Int} {w : World} (hr0 : Kd.C k140 w A0 l0.length l0) (hc0 : l0.length ≤ c0) (h : laws_heldBlkLastS.f k l0 a1 = some r) :
  Calls Try.prog 103 #[.slice A0 l0.length c0,.int .i64 a1] w fun e w'=>e=.returned (.int .i64 r)∧Drawn0 w w':=by
 have HR0:=mA hr0;have HC0:=mA hc0;clear hr0 hc0;have H:(laws_heldBlkLastS.l0 k l0 a1 0)=some r:=h;clear h;have H':=mA H;clear H
 go_enter Try.func103,Try.ntmps103
 go_wp2
 go_loopg [1,5] k (fun kq v1 v5 w'=>∃ (x1_1:Int) (x5_1:Int),v1=.int .i64 x1_1∧v5=.int .i64 x5_1∧Aside0 (laws_heldBlkLastS.l0 kq l0 x1_1 x5_1=some r)∧Aside0 (kq≤k)∧Drawn0 w w')
 case atStart=>exact ⟨(a1),(0),bZ,bZ,H',⟨Nat.le_refl _⟩,by repeat (first|exact Drawn0.refl _|apply Drawn0.step)⟩
 case round =>
  clear H'
  obtain ⟨x1_1,x5_1,rfl,rfl,HA,HK1,⟨m1,rfl⟩⟩:=hrel
  cases gk with
  | zero=>exact absurd HA.out (by simp [laws_heldBlkLastS.l0])
  | succ k1 =>
   have H:=HA.out;clear HA;simp only [laws_heldBlkLastS.l0] at H
   by_cases c3:x5_1<(l0.length:Int)
   ·rw [if_pos c3] at H;have c3b0:decide (x5_1<(l0.length:Int))=true:=decide_eq_true c3;clear c3
    by_cases c4:0≤x5_1
    ·rw [if_pos c4] at H;have c4b0:decide (0≤x5_1)=true:=decide_eq_true c4;clear c4
     by_cases c5:((rd_T140 l0 x5_1).f0)=x1_1
     ·rw [if_pos c5] at H;obtain ⟨c5b0,c5b1⟩:=eqB c5;clear c5
      by_cases c6:((rd_T140 l0 x5_1).f1)=(wrap64 (x1_1+1))
      ·rw [if_pos c6] at H;obtain ⟨c6b0,c6b1⟩:=eqB c6;clear c6;have H':=mA H;clear H;have p278:0≤(x5_1:Int):=of_decide_eq_true bA;have q278:x5_1<(l0.length:Int):=of_decide_eq_true bA;obtain ⟨ad278,e278,hx278_0,hx278_1⟩:=at_T140 HR0.out x5_1 p278 q278;cases e278;replace p278:=eq_true p278;replace q278:=eq_true q278;go_wp2
       go_roundg k1
       case measure=>have:=HK1.out;omega
       case rel=>exact ⟨(wrap64 ((wrap64 (x1_1+1))+1)),(wrap64 (x5_1+1)),bZ,bZ,H',⟨by have:=HK1.out;omega⟩,by repeat (first|exact Drawn0.refl _|apply Drawn0.step)⟩
      ·rw [if_neg c6] at H;obtain ⟨c6b0,c6b1⟩:=neB c6;clear c6;obtain rfl:=Option.some.inj H;have p278:0≤(x5_1:Int):=of_decide_eq_true bA;have q278:x5_1<(l0.length:Int):=of_decide_eq_true bA;obtain ⟨ad278,e278,hx278_0,hx278_1⟩:=at_T140 HR0.out x5_1 p278 q278;cases e278;replace p278:=eq_true p278;replace q278:=eq_true q278;go_wp2
       go_ret
       exact ⟨by first|rfl|(simp;done)|(simp [*];done),by repeat (first|exact Drawn0.refl _|apply Drawn0.step)⟩
     ·rw [if_neg c5] at H;obtain ⟨c5b0,c5b1⟩:=neB c5;clear c5;obtain rfl:=Option.some.inj H;have p278:0≤(x5_1:Int):=of_decide_eq_true bA;have q278:x5_1<(l0.length:Int):=of_decide_eq_true bA;obtain ⟨ad278,e278,hx278_0,hx278_1⟩:=at_T140 HR0.out x5_1 p278 q278;cases e278;replace p278:=eq_true p278;replace q278:=eq_true q278
      go_wp2
      go_ret
      exact ⟨by first|rfl|(simp;done)|(simp [*];done),by repeat (first|exact Drawn0.refl _|apply Drawn0.step)⟩
    ·rw [if_neg c4] at H
     exact absurd H (by simp)
   ·rw [if_neg c3] at H;have c3b0:decide (x5_1<(l0.length:Int))=false:=decide_eq_false c3;clear c3;obtain rfl:=Option.some.inj H
    go_wp2
    go_ret
    exact ⟨by first|rfl|(simp;done)|(simp [*];done),by repeat (first|exact Drawn0.refl _|apply Drawn0.step)⟩
end Go.Proofs.Ytoieojmfkkidnaa.P
