-- printed by pprint.py (this session's program over the kit's printer) out of the translation. Lean checks it.
import Derived.Test.YtoieojmfkkidnaaPx0
namespace Go.Proofs.Ytoieojmfkkidnaa.P
open Go.RowKit Go.Proofs.YtoieojmfkkidnaaX Go.Proofs.YtoieojmfkkidnaaW.PrintWords Go.Proofs.YtoieojmfkkidnaaW.PrintLast Go.Proofs.YtoieojmfkkidnaaW.PrintMore
attribute [local go_sem] max2_int min2_int max_two min_two max_three min_three max_four min_four   -- for this text's walks alone
set_option linter.unusedVariables false
set_option linter.unusedSimpArgs false

/-! ### laws_markIntS: function 100 -/
def laws_markIntS.l0 : Nat → List Int → Int → Int → Option (Int × List Int)
 | 0,_,_,_=>none
 | k+1,x0,x1,x5=>if x5<(x0.length:Int) then (if 0≤x5 then (laws_markIntS.l0 k (x0.set (x5:Int).toNat x1) (wrap64 (x1+1)) (wrap64 (x5+1))) else (none)) else (some (x1,x0))
def laws_markIntS.f (k : Nat) (l0 : List Int) (a1 : Int) : Option (Int × List Int) := laws_markIntS.l0 k l0 a1 0
theorem laws_markIntS.mono_l : ∀ k, (∀ y0 y1 y2, LeO (laws_markIntS.l0 k y0 y1 y2) (laws_markIntS.l0 (k + 1) y0 y1 y2))
 | 0=>fun _ _ _ r h=>by simp [laws_markIntS.l0] at h
 | k+1=>by
  have ih0:=laws_markIntS.mono_l k
  ·intros
   unfold laws_markIntS.l0
   repeat' first
   | (with_reducible first|apply ih0|exact LeO.refl _|exact LeO.none _|refine LeO.ite ?_ ?_|refine LeO.bind ?_ (fun _=>?_))|exact LeO.none _|refine LeO.ite ?_ ?_|refine LeO.bind ?_ (fun _=>?_)
theorem laws_markIntS.mono : ∀ a0 a1 k, LeO (laws_markIntS.f k a0 a1) (laws_markIntS.f (k + 1) a0 a1) := by
 intro a0 a1 k;have ih0:=laws_markIntS.mono_l k
 unfold laws_markIntS.f
 repeat' first
   | (with_reducible first|apply ih0|exact LeO.refl _|exact LeO.none _|refine LeO.ite ?_ ?_|refine LeO.bind ?_ (fun _=>?_))|exact LeO.none _|refine LeO.ite ?_ ?_|refine LeO.bind ?_ (fun _=>?_)
set_option maxHeartbeats 8000000 in
set_option maxRecDepth 100000 in
theorem laws_markIntS.calls (k : Nat) (P0_ : Nat → Prop) (u9000_ : Value) (l0 : List Int) (a1 r1 : Int) (r2 : List Int) (w0 w : World) (hB : Below w0.heap.size w0 w) (ho0 : Kd.R (Kd.int .i64) 3 w w0.heap.size P0_ u9000_ l0) (h : laws_markIntS.f k l0 a1 = some (r1, r2)) :
  Calls Try.prog 100 #[u9000_,.int .i64 a1] w fun e w'=>e=.returned (.int .i64 r1)∧Kd.R (Kd.int .i64) 3 w' w0.heap.size (fun k_=>(P0_ k_ ∨ w.heap.size≤k_)) u9000_ r2∧Below w0.heap.size w0 w'∧Kept w w' (fun k_=>P0_ k_):=by
 have HO0:=mA (show Kd.R (Kd.int .i64) 3 w w0.heap.size (fun k_=>(P0_ k_ ∨ w.heap.size≤k_)) u9000_ l0 from Kd.R_mono ho0 (fun k_ hk=>(.inl hk)));have HK:=mA (Kept.refl w (fun k_=>P0_ k_));have HW0:=mA hB.size;have HB:=mA hB;clear hB;have H:(laws_markIntS.l0 k l0 a1 0)=some (r1,r2):=h;clear h;have H':=mA H;clear H
 go_enter Try.func100,Try.ntmps100
 go_wp2
 go_loopg [1,5] k (fun kq v1 v5 w'=>∃ (x0_1:List Int) (x1_1:Int) (x5_1:Int),v1=.int .i64 x1_1∧v5=.int .i64 x5_1∧Aside0 (laws_markIntS.l0 kq x0_1 x1_1 x5_1=some (r1,r2))∧Aside0 (kq≤k)∧Aside0 (Kd.R (Kd.int .i64) 3 w' w0.heap.size (fun k_=>(P0_ k_ ∨ w.heap.size≤k_)) u9000_ x0_1)∧Aside0 (Kept w w' (fun k_=>P0_ k_))∧Aside0 (Below w0.heap.size w0 w'))
 case atStart=>exact ⟨(l0),(a1),(0),bZ,bZ,H',⟨Nat.le_refl _⟩,⟨pR HO0.out⟩,⟨by repeat (first|(with_reducible first|exact HK.out|apply Kept.alloc|apply Kept.drewN|apply Kept.drew)|exact HK.out)⟩,⟨pB HB.out⟩⟩
 case round =>
  clear H'
  obtain ⟨x0_1,x1_1,x5_1,rfl,rfl,HA,HK1,HO_0,HK,HB⟩:=hrel
  cases gk with
  | zero=>exact absurd HA.out (by simp [laws_markIntS.l0])
  | succ k1 =>
   have H:=HA.out;clear HA;simp only [laws_markIntS.l0] at H
   by_cases c3:x5_1<(x0_1.length:Int)
   ·rw [if_pos c3] at H;have c3b0:decide (x5_1<(x0_1.length:Int))=true:=decide_eq_true c3;clear c3
    by_cases c4:0≤x5_1
    ·rw [if_pos c4] at H;have c4b0:decide (0≤x5_1)=true:=decide_eq_true c4;clear c4;obtain ⟨y203,hy203⟩:∃ y_:List Int,y_=(x0_1.set (x5_1:Int).toNat x1_1):=⟨_,rfl⟩
     replace H:(laws_markIntS.l0 k1 y203 (wrap64 (x1_1+1)) (wrap64 (x5_1+1)))=some (r1,r2):=qH hy203 H
     have Ny203:=mA hy203;clear hy203;have H':=mA H;clear H;obtain ⟨Ao6,co6,rfl⟩:=Kd.R_slice HO_0.out;have p5:0≤(x5_1:Int):=of_decide_eq_true bA;have q5:(x5_1:Int)<((x0_1.length:Int):Int):=of_decide_eq_true bA
     obtain ⟨go5,co5,eo5,gb5,gl5,cl5,HG5⟩:=Kd.R_form HO_0.out (by omega)
     (first|cases eo5|(injection eo5 with ea_ en_ ec_;(first|subst ea_|(injection ea_ with ea_;subst ea_));subst ec_;clear en_))
     have GB5:=mA gb5;have GG5:=mA HG5;clear gb5 gl5 HG5;have HMgo5:=mA (show (P0_ go5 ∨ w.heap.size≤go5) from (HO_0.out.1 _ rfl));obtain ⟨hx5_0,hf5_0⟩:=Kd.R_celln 0 HO_0.out (x5_1:Int) p5 q5;replace p5:=eq_true p5;replace q5:=eq_true q5;have HP7:=Kd.R_putg HO_0.out (x5_1:Int) x1_1
     go_wp2_with (first|((with_reducible refine gate_store (t:=3) (p:=15) rfl ?_);refine store_event (t:=3) (p:=15) (v:=?vo_w8) (w1:=(wr.setCell ⟨go5,(x5_1:Int).toNat,none⟩ (.int .i64 x1_1))) ?hg ?ho ?hn ?hr ?_;(case ho=>rfl);(case hg=>rfl);(case hn=>rfl);(case hr=>first|(go_simp;done)|(go_simp;rfl));intro w8 hw;have hg:wr.grownBy w8 (some go5):=(by rw [hw];exact HP7.2);have hp_:Kd.R (Kd.int .i64) 3 w8 w0.heap.size (fun k_=>(P0_ k_ ∨ w.heap.size≤k_)) (.slice (some ⟨go5,0,none⟩) x0_1.length co6) y203:=(by rw [hw,Ny203.out];exact HP7.1);clear HP7;replace HB:=mA (by rw [hw];exact below_set (HB.out) GB5.out:Below w0.heap.size w0 w8);replace HK:=mA (Kept.of_grown (S:=(fun k_=>P0_ k_)) hg (by repeat (first|(with_reducible first|exact HK.out|apply Kept.alloc|apply Kept.drewN|apply Kept.drew)|exact HK.out)) (fun k_ e_=>(HO_0.out.1 k_ e_)));replace HO_0:=mA hp_;clear hg hw hp_))
     go_roundg k1
     case measure=>have:=HK1.out;omega
     case rel=>exact ⟨(y203),(wrap64 (x1_1+1)),(wrap64 (x5_1+1)),bZ,bZ,H',⟨by have:=HK1.out;omega⟩,⟨pR HO_0.out⟩,⟨by repeat (first|(with_reducible first|exact HK.out|apply Kept.alloc|apply Kept.drewN|apply Kept.drew)|exact HK.out)⟩,⟨pB HB.out⟩⟩
    ·rw [if_neg c4] at H
     exact absurd H (by simp)
   ·rw [if_neg c3] at H;have c3b0:decide (x5_1<(x0_1.length:Int))=false:=decide_eq_false c3;clear c3;simp only [Option.some.injEq,Prod.mk.injEq] at H;obtain ⟨rfl,rfl⟩:=H;obtain ⟨Ao9,co9,rfl⟩:=Kd.R_slice HO_0.out
    go_wp2
    go_ret
    exact ⟨by first|rfl|(simp [errW_none,errW_some]<;>rfl)|(simp [*,errW_none,errW_some]<;>rfl),pR HO_0.out,pB HB.out,by repeat (first|(with_reducible first|exact HK.out|apply Kept.alloc|apply Kept.drewN|apply Kept.drew)|exact HK.out)⟩

/-! ### laws_markSynSeeker: function 39 -/
def laws_markSynSeeker.f (k : Nat) (a0_0 a0_1 a0_2 a0_3 a0_4 a0_5 a0_6 a0_7 a0_8 a0_9 a0_10 a0_11 a0_12 a0_13 a0_14 a0_15 a0_16 a0_17 a0_18 a0_19 a0_20 a0_21 a0_22 a0_23 a0_24 : Int) (l0_25 : List Int) (a1 : Int) : Option (Int × List Int) := (laws_markIntS.f k l0_25 a1).bind fun bt205 => (some (bt205.1, bt205.2))
theorem laws_markSynSeeker.mono : ∀ a0 a1 a2 a3 a4 a5 a6 a7 a8 a9 a10 a11 a12 a13 a14 a15 a16 a17 a18 a19 a20 a21 a22 a23 a24 a25 a26 k, LeO (laws_markSynSeeker.f k a0 a1 a2 a3 a4 a5 a6 a7 a8 a9 a10 a11 a12 a13 a14 a15 a16 a17 a18 a19 a20 a21 a22 a23 a24 a25 a26) (laws_markSynSeeker.f (k + 1) a0 a1 a2 a3 a4 a5 a6 a7 a8 a9 a10 a11 a12 a13 a14 a15 a16 a17 a18 a19 a20 a21 a22 a23 a24 a25 a26) := by
 intro a0 a1 a2 a3 a4 a5 a6 a7 a8 a9 a10 a11 a12 a13 a14 a15 a16 a17 a18 a19 a20 a21 a22 a23 a24 a25 a26 k
 unfold laws_markSynSeeker.f
 repeat' first
   | (with_reducible first|apply laws_markIntS.mono|exact LeO.refl _|exact LeO.none _|refine LeO.ite ?_ ?_|refine LeO.bind ?_ (fun _=>?_))|exact LeO.none _|refine LeO.ite ?_ ?_|refine LeO.bind ?_ (fun _=>?_)
set_option maxHeartbeats 8000000 in
set_option maxRecDepth 100000 in
theorem laws_markSynSeeker.calls (k : Nat) (a0_0 a0_1 a0_2 a0_3 a0_4 a0_5 a0_6 a0_7 a0_8 a0_9 a0_10 a0_11 a0_12 a0_13 a0_14 a0_15 a0_16 a0_17 a0_18 a0_19 a0_20 a0_21 a0_22 a0_23 a0_24 : Int) (P0_25_ : Nat → Prop) (u9000_ : Value) (l0_25 : List Int) (a1 r1 : Int) (r2 : List Int) (w0 w : World) (hB : Below w0.heap.size w0 w) (ho0_25 : Kd.R (Kd.int .i64) 3 w w0.heap.size P0_25_ u9000_ l0_25) (h : laws_markSynSeeker.f k a0_0 a0_1 a0_2 a0_3 a0_4 a0_5 a0_6 a0_7 a0_8 a0_9 a0_10 a0_11 a0_12 a0_13 a0_14 a0_15 a0_16 a0_17 a0_18 a0_19 a0_20 a0_21 a0_22 a0_23 a0_24 l0_25 a1 = some (r1, r2)) :
  Calls Try.prog 39 #[.agg #[.int .i64 a0_0,.int .i64 a0_1,.int .i64 a0_2,.int .i64 a0_3,.int .i64 a0_4,.int .i64 a0_5,.int .i64 a0_6,.int .i64 a0_7,.int .i64 a0_8,.int .i64 a0_9,.int .i64 a0_10,.int .i64 a0_11,.int .i64 a0_12,.int .i64 a0_13,.int .i64 a0_14,.int .i64 a0_15,.int .i64 a0_16,.int .i64 a0_17,.int .i64 a0_18,.int .i64 a0_19,.int .i64 a0_20,.int .i64 a0_21,.int .i64 a0_22,.int .i64 a0_23,.int .i64 a0_24,u9000_],.int .i64 a1] w fun e w'=>e=.returned (.int .i64 r1)∧Kd.R (Kd.int .i64) 3 w' w0.heap.size (fun k_=>(P0_25_ k_ ∨ w.heap.size≤k_)) u9000_ r2∧Below w0.heap.size w0 w'∧Kept w w' (fun k_=>P0_25_ k_):=by
 have hu66:=Try.underlying66;have HO0_25:=mA (show Kd.R (Kd.int .i64) 3 w w0.heap.size (fun k_=>(P0_25_ k_ ∨ w.heap.size≤k_)) u9000_ l0_25 from Kd.R_mono ho0_25 (fun k_ hk=>(.inl hk)));have HK:=mA (Kept.refl w (fun k_=>P0_25_ k_));have HW0:=mA hB.size;have HB:=mA hB;clear hB;have H:((laws_markIntS.f k l0_25 a1).bind fun bt205=>(some (bt205.1,bt205.2)))=some (r1,r2):=h;clear h;obtain ⟨⟨t205,t206⟩,A3,H⟩:=bI H;(try dsimp only at H);simp only [Option.some.injEq,Prod.mk.injEq] at H;obtain ⟨rfl,rfl⟩:=H;obtain ⟨Ao4,co4,rfl⟩:=Kd.R_slice HO0_25.out
 go_enter Try.func39,Try.ntmps39
 go_wp2_with (first|((with_reducible refine gLg rfl (by assumption) ?_);refine ldV ?_)|((with_reducible refine gSt rfl (by assumption) ?_);refine stV ?_)|((with_reducible refine gT 2 rfl ?_);refine bX 2 ?_;intro gb204 hg w5 hbox hb;replace HO0_25:=rB HO0_25 hb;have BK204:=mA hbox;have GW204:=mA (by rw [hg];exact (by first|exact HK.out.1|exact (show Kept w _ (fun k_=>P0_25_ k_) from by repeat (first|(with_reducible first|exact HK.out|apply Kept.alloc|apply Kept.drewN|apply Kept.drew)|exact HK.out)).1):w.heap.size≤gb204);replace HK:=mA (Kept.below (S:=(fun k_=>P0_25_ k_)) (by repeat (first|(with_reducible first|exact HK.out|apply Kept.alloc|apply Kept.drewN|apply Kept.drew)|exact HK.out)) hb);have GE204:=gbpB HB hg;replace HB:=spB HB hb;clear hb hbox hg;have hcz6_0:=fun i_=>blk_cell BK204.out i_;have hfz6_0:=fun i_=>blk_frozen BK204.out i_)|((with_reducible refine gT 8 rfl ?_);refine gC (some 8) Try.func100 (laws_markIntS.calls k (fun k_=>some k_=(.slice Ao4 l0_25.length co4:Value).ownBlock) (.slice Ao4 l0_25.length co4) l0_25 a1 t205 t206 w0 _ ?s1 (Kd.R_tight rfl HO0_25.out) A3.out) ?_;(case s1=>repeat (first|(with_reducible first|exact HB.out|apply below_alloc|apply pw_below_drewN|apply below_drew1|refine below_set ?_ GE204.out)|exact HB.out));rintro e w7 ⟨rfl,hy0,hb,hkp⟩;refine ⟨_,rfl,?_⟩;replace BK204:=mA (blk_kept (pK BK204.out) hkp (fun hs_=>(fun e_=>(Kd.R_ne HO0_25.out BK204.out aD) e_) hs_));replace HK:=mA (Kept.then_ (S:=(fun k_=>P0_25_ k_)) (by repeat (first|(with_reducible first|exact HK.out|apply Kept.alloc|apply Kept.drewN|apply Kept.drew|refine Kept.setCell ?_ (.inr GW204.out) _)|exact HK.out)) hkp (fun k_ hs_=>(fun e_=>(HO0_25.out.1 k_ e_.symm)) hs_));replace HO0_25:=mA (Kd.R_reok rfl hy0 (fun k_ e_=>HO0_25.out.1 k_ e_));replace HB:=mA hb;(try clear hb);(try clear hkp);(try clear hy0)))
 go_ret
 exact ⟨by first|rfl|(simp [errW_none,errW_some]<;>rfl)|(simp [*,errW_none,errW_some]<;>rfl),pR HO0_25.out,pS HB.out,by repeat (first|(with_reducible first|exact HK.out|apply Kept.alloc|apply Kept.drewN|apply Kept.drew|refine Kept.setCell ?_ (.inr GW204.out) _)|exact HK.out)⟩

/-! ### laws_markBlkPieceS: function 83 -/
def laws_markBlkPieceS.l0 : Nat → List (S138) → Int → Int → Option (Int × (List (S138)))
 | 0,_,_,_=>none
 | k+1,x0,x1,x5=>if x5<(x0.length:Int) then (if 0≤x5 then (laws_markBlkPieceS.l0 k (x0.set (x5:Int).toNat (⟨x1,(wrap64 (x1+1)),(wrap64 ((wrap64 (x1+1))+1)),(wrap64 ((wrap64 ((wrap64 (x1+1))+1))+1))⟩:S138)) (wrap64 ((wrap64 ((wrap64 ((wrap64 (x1+1))+1))+1))+1)) (wrap64 (x5+1))) else (none)) else (some (x1,x0))
def laws_markBlkPieceS.f (k : Nat) (l0 : List (S138)) (a1 : Int) : Option (Int × (List (S138))) := laws_markBlkPieceS.l0 k l0 a1 0
theorem laws_markBlkPieceS.mono_l : ∀ k, (∀ y0 y1 y2, LeO (laws_markBlkPieceS.l0 k y0 y1 y2) (laws_markBlkPieceS.l0 (k + 1) y0 y1 y2))
 | 0=>fun _ _ _ r h=>by simp [laws_markBlkPieceS.l0] at h
 | k+1=>by
  have ih0:=laws_markBlkPieceS.mono_l k
  ·intros
   unfold laws_markBlkPieceS.l0
   repeat' first
   | (with_reducible first|apply ih0|exact LeO.refl _|exact LeO.none _|refine LeO.ite ?_ ?_|refine LeO.bind ?_ (fun _=>?_))|exact LeO.none _|refine LeO.ite ?_ ?_|refine LeO.bind ?_ (fun _=>?_)
theorem laws_markBlkPieceS.mono : ∀ a0 a1 k, LeO (laws_markBlkPieceS.f k a0 a1) (laws_markBlkPieceS.f (k + 1) a0 a1) := by
 intro a0 a1 k;have ih0:=laws_markBlkPieceS.mono_l k
 unfold laws_markBlkPieceS.f
 repeat' first
   | (with_reducible first|apply ih0|exact LeO.refl _|exact LeO.none _|refine LeO.ite ?_ ?_|refine LeO.bind ?_ (fun _=>?_))|exact LeO.none _|refine LeO.ite ?_ ?_|refine LeO.bind ?_ (fun _=>?_)
set_option maxHeartbeats 8000000 in
set_option maxRecDepth 100000 in
theorem laws_markBlkPieceS.calls (k : Nat) (P0_ : Nat → Prop) (u9000_ : Value) (l0 : List (S138)) (a1 r1 : Int) (r2 : List (S138)) (w0 w : World) (hB : Below w0.heap.size w0 w) (ho0 : Kd.R k138 138 w w0.heap.size P0_ u9000_ l0) (h : laws_markBlkPieceS.f k l0 a1 = some (r1, r2)) :
  Calls Try.prog 83 #[u9000_,.int .i64 a1] w fun e w'=>e=.returned (.int .i64 r1)∧Kd.R k138 138 w' w0.heap.size (fun k_=>(P0_ k_ ∨ w.heap.size≤k_)) u9000_ r2∧Below w0.heap.size w0 w'∧Kept w w' (fun k_=>P0_ k_):=by
 have HO0:=mA (show Kd.R k138 138 w w0.heap.size (fun k_=>(P0_ k_ ∨ w.heap.size≤k_)) u9000_ l0 from Kd.R_mono ho0 (fun k_ hk=>(.inl hk)));have HK:=mA (Kept.refl w (fun k_=>P0_ k_));have HW0:=mA hB.size;have HB:=mA hB;clear hB;have H:(laws_markBlkPieceS.l0 k l0 a1 0)=some (r1,r2):=h;clear h;have H':=mA H;clear H
 go_enter Try.func83,Try.ntmps83
 go_wp2
 go_loopg [1,5] k (fun kq v1 v5 w'=>∃ (x0_1:List (S138)) (x1_1:Int) (x5_1:Int),v1=.int .i64 x1_1∧v5=.int .i64 x5_1∧Aside0 (laws_markBlkPieceS.l0 kq x0_1 x1_1 x5_1=some (r1,r2))∧Aside0 (kq≤k)∧Aside0 (Kd.R k138 138 w' w0.heap.size (fun k_=>(P0_ k_ ∨ w.heap.size≤k_)) u9000_ x0_1)∧Aside0 (Kept w w' (fun k_=>P0_ k_))∧Aside0 (Below w0.heap.size w0 w'))
 case atStart=>exact ⟨(l0),(a1),(0),bZ,bZ,H',⟨Nat.le_refl _⟩,⟨pR HO0.out⟩,⟨by repeat (first|(with_reducible first|exact HK.out|apply Kept.alloc|apply Kept.drewN|apply Kept.drew)|exact HK.out)⟩,⟨pB HB.out⟩⟩
 case round =>
  clear H'
  obtain ⟨x0_1,x1_1,x5_1,rfl,rfl,HA,HK1,HO_0,HK,HB⟩:=hrel
  cases gk with
  | zero=>exact absurd HA.out (by simp [laws_markBlkPieceS.l0])
  | succ k1 =>
   have H:=HA.out;clear HA;simp only [laws_markBlkPieceS.l0] at H
   by_cases c3:x5_1<(x0_1.length:Int)
   ·rw [if_pos c3] at H;have c3b0:decide (x5_1<(x0_1.length:Int))=true:=decide_eq_true c3;clear c3
    by_cases c4:0≤x5_1
    ·rw [if_pos c4] at H;have c4b0:decide (0≤x5_1)=true:=decide_eq_true c4;clear c4;have H':=mA H;clear H;obtain ⟨Ao9,co9,rfl⟩:=Kd.R_slice HO_0.out;have p5:0≤(x5_1:Int):=of_decide_eq_true bA;have q5:(x5_1:Int)<((x0_1.length:Int):Int):=of_decide_eq_true bA
     obtain ⟨go5,co5,eo5,gb5,gl5,cl5,HG5⟩:=Kd.R_form HO_0.out (by omega)
     (first|cases eo5|(injection eo5 with ea_ en_ ec_;(first|subst ea_|(injection ea_ with ea_;subst ea_));subst ec_;clear en_))
     have GB5:=mA gb5;have GG5:=mA HG5;clear gb5 gl5 HG5;have HMgo5:=mA (show (P0_ go5 ∨ w.heap.size≤go5) from (HO_0.out.1 _ rfl));have HO_0:=mA (stE0 (x5_1:Int) z138 HO_0.out q5 p5);replace p5:=eq_true p5;replace q5:=eq_true q5
     go_wp2_with (first|((with_reducible refine gate_store (t:=3) (p:=16) rfl ?_);refine stEl k138 z138 put138 4 4 put138_M (fun k_=>P0_ k_) (x5_1:Int) 0 HO_0 HB HK (fun _ h_=>h_) p5 q5 (p:=16) (h:=?_);intro w0_ hO_ hB_ hK_;replace HO_0:=mA hO_;replace HB:=mA hB_;replace HK:=mA hK_;clear hO_ hB_ hK_)|((with_reducible refine gate_store (t:=3) (p:=23) rfl ?_);refine stEl k138 z138 put138 4 4 put138_M (fun k_=>P0_ k_) (x5_1:Int) 1 HO_0 HB HK (fun _ h_=>h_) p5 q5 (p:=23) (h:=?_);intro w1_ hO_ hB_ hK_;replace HO_0:=mA hO_;replace HB:=mA hB_;replace HK:=mA hK_;clear hO_ hB_ hK_)|((with_reducible refine gate_store (t:=3) (p:=30) rfl ?_);refine stEl k138 z138 put138 4 4 put138_M (fun k_=>P0_ k_) (x5_1:Int) 2 HO_0 HB HK (fun _ h_=>h_) p5 q5 (p:=30) (h:=?_);intro w2_ hO_ hB_ hK_;replace HO_0:=mA hO_;replace HB:=mA hB_;replace HK:=mA hK_;clear hO_ hB_ hK_)|((with_reducible refine gate_store (t:=3) (p:=37) rfl ?_);refine stEl k138 z138 put138 4 4 put138_M (fun k_=>P0_ k_) (x5_1:Int) 3 HO_0 HB HK (fun _ h_=>h_) p5 q5 (p:=37) (h:=?_);intro w3_ hO_ hB_ hK_;replace HO_0:=mA hO_;replace HB:=mA hB_;replace HK:=mA hK_;clear hO_ hB_ hK_))
     replace HO_0:=mA (show Kd.R k138 138 _ w0.heap.size (fun k_=>(P0_ k_ ∨ w.heap.size≤k_)) _ (x0_1.set (x5_1:Int).toNat (⟨x1_1,(wrap64 (x1_1+1)),(wrap64 ((wrap64 (x1_1+1))+1)),(wrap64 ((wrap64 ((wrap64 (x1_1+1))+1))+1))⟩:S138)) from HO_0.out)
     go_roundg k1
     case measure=>have:=HK1.out;omega
     case rel=>exact ⟨(x0_1.set (x5_1:Int).toNat (⟨x1_1,(wrap64 (x1_1+1)),(wrap64 ((wrap64 (x1_1+1))+1)),(wrap64 ((wrap64 ((wrap64 (x1_1+1))+1))+1))⟩:S138)),(wrap64 ((wrap64 ((wrap64 ((wrap64 (x1_1+1))+1))+1))+1)),(wrap64 (x5_1+1)),bZ,bZ,H',⟨by have:=HK1.out;omega⟩,⟨pR HO_0.out⟩,⟨by repeat (first|(with_reducible first|exact HK.out|apply Kept.alloc|apply Kept.drewN|apply Kept.drew)|exact HK.out)⟩,⟨pB HB.out⟩⟩
    ·rw [if_neg c4] at H
     exact absurd H (by simp)
   ·rw [if_neg c3] at H;have c3b0:decide (x5_1<(x0_1.length:Int))=false:=decide_eq_false c3;clear c3;simp only [Option.some.injEq,Prod.mk.injEq] at H;obtain ⟨rfl,rfl⟩:=H;obtain ⟨Ao18,co18,rfl⟩:=Kd.R_slice HO_0.out
    go_wp2
    go_ret
    exact ⟨by first|rfl|(simp [errW_none,errW_some]<;>rfl)|(simp [*,errW_none,errW_some]<;>rfl),pR HO_0.out,pB HB.out,by repeat (first|(with_reducible first|exact HK.out|apply Kept.alloc|apply Kept.drewN|apply Kept.drew)|exact HK.out)⟩

/-! ### laws_markBlkLastS: function 84 -/
def laws_markBlkLastS.l0 : Nat → List (S140) → Int → Int → Option (Int × (List (S140)))
 | 0,_,_,_=>none
 | k+1,x0,x1,x5=>if x5<(x0.length:Int) then (if 0≤x5 then ((some (x0.set (x5:Int).toNat (⟨x1,(rd_T140 x0 x5).f1⟩:S140):List (S140))).bind fun y211=>(laws_markBlkLastS.l0 k (y211.set (x5:Int).toNat (⟨(rd_T140 y211 x5).f0,wrap64 (x1+1)⟩:S140)) (wrap64 ((wrap64 (x1+1))+1)) (wrap64 (x5+1)))) else (none)) else (some (x1,x0))
def laws_markBlkLastS.f (k : Nat) (l0 : List (S140)) (a1 : Int) : Option (Int × (List (S140))) := laws_markBlkLastS.l0 k l0 a1 0
theorem laws_markBlkLastS.mono_l : ∀ k, (∀ y0 y1 y2, LeO (laws_markBlkLastS.l0 k y0 y1 y2) (laws_markBlkLastS.l0 (k + 1) y0 y1 y2))
 | 0=>fun _ _ _ r h=>by simp [laws_markBlkLastS.l0] at h
 | k+1=>by
  have ih0:=laws_markBlkLastS.mono_l k
  ·intros
   unfold laws_markBlkLastS.l0
   repeat' first
   | (with_reducible first|apply ih0|exact LeO.refl _|exact LeO.none _|refine LeO.ite ?_ ?_|refine LeO.bind ?_ (fun _=>?_))|exact LeO.none _|refine LeO.ite ?_ ?_|refine LeO.bind ?_ (fun _=>?_)
theorem laws_markBlkLastS.mono : ∀ a0 a1 k, LeO (laws_markBlkLastS.f k a0 a1) (laws_markBlkLastS.f (k + 1) a0 a1) := by
 intro a0 a1 k;have ih0:=laws_markBlkLastS.mono_l k
 unfold laws_markBlkLastS.f
 repeat' first
   | (with_reducible first|apply ih0|exact LeO.refl _|exact LeO.none _|refine LeO.ite ?_ ?_|refine LeO.bind ?_ (fun _=>?_))|exact LeO.none _|refine LeO.ite ?_ ?_|refine LeO.bind ?_ (fun _=>?_)
set_option maxHeartbeats 8000000 in
set_option maxRecDepth 100000 in
theorem laws_markBlkLastS.calls (k : Nat) (P0_ : Nat → Prop) (u9000_ : Value) (l0 : List (S140)) (a1 r1 : Int) (r2 : List (S140)) (w0 w : World) (hB : Below w0.heap.size w0 w) (ho0 : Kd.R k140 140 w w0.heap.size P0_ u9000_ l0) (h : laws_markBlkLastS.f k l0 a1 = some (r1, r2)) :
  Calls Try.prog 84 #[u9000_,.int .i64 a1] w fun e w'=>e=.returned (.int .i64 r1)∧Kd.R k140 140 w' w0.heap.size (fun k_=>(P0_ k_ ∨ w.heap.size≤k_)) u9000_ r2∧Below w0.heap.size w0 w'∧Kept w w' (fun k_=>P0_ k_):=by
 have HO0:=mA (show Kd.R k140 140 w w0.heap.size (fun k_=>(P0_ k_ ∨ w.heap.size≤k_)) u9000_ l0 from Kd.R_mono ho0 (fun k_ hk=>(.inl hk)));have HK:=mA (Kept.refl w (fun k_=>P0_ k_));have HW0:=mA hB.size;have HB:=mA hB;clear hB;have H:(laws_markBlkLastS.l0 k l0 a1 0)=some (r1,r2):=h;clear h;have H':=mA H;clear H
 go_enter Try.func84,Try.ntmps84
 go_wp2
 go_loopg [1,5] k (fun kq v1 v5 w'=>∃ (x0_1:List (S140)) (x1_1:Int) (x5_1:Int),v1=.int .i64 x1_1∧v5=.int .i64 x5_1∧Aside0 (laws_markBlkLastS.l0 kq x0_1 x1_1 x5_1=some (r1,r2))∧Aside0 (kq≤k)∧Aside0 (Kd.R k140 140 w' w0.heap.size (fun k_=>(P0_ k_ ∨ w.heap.size≤k_)) u9000_ x0_1)∧Aside0 (Kept w w' (fun k_=>P0_ k_))∧Aside0 (Below w0.heap.size w0 w'))
 case atStart=>exact ⟨(l0),(a1),(0),bZ,bZ,H',⟨Nat.le_refl _⟩,⟨pR HO0.out⟩,⟨by repeat (first|(with_reducible first|exact HK.out|apply Kept.alloc|apply Kept.drewN|apply Kept.drew)|exact HK.out)⟩,⟨pB HB.out⟩⟩
 case round =>
  clear H'
  obtain ⟨x0_1,x1_1,x5_1,rfl,rfl,HA,HK1,HO_0,HK,HB⟩:=hrel
  cases gk with
  | zero=>exact absurd HA.out (by simp [laws_markBlkLastS.l0])
  | succ k1 =>
   have H:=HA.out;clear HA;simp only [laws_markBlkLastS.l0] at H
   by_cases c3:x5_1<(x0_1.length:Int)
   ·rw [if_pos c3] at H;have c3b0:decide (x5_1<(x0_1.length:Int))=true:=decide_eq_true c3;clear c3
    by_cases c4:0≤x5_1
    ·rw [if_pos c4] at H;have c4b0:decide (0≤x5_1)=true:=decide_eq_true c4;clear c4;obtain ⟨y211,hy211⟩:∃ y_:List (S140),y_=(x0_1.set (x5_1:Int).toNat (⟨x1_1,(rd_T140 x0_1 x5_1).f1⟩:S140)):=⟨_,rfl⟩
     replace H:(laws_markBlkLastS.l0 k1 (y211.set (x5_1:Int).toNat (⟨(rd_T140 y211 x5_1).f0,wrap64 (x1_1+1)⟩:S140)) (wrap64 ((wrap64 (x1_1+1))+1)) (wrap64 (x5_1+1)))=some (r1,r2):=qH hy211 H
     have Ny211:=mA hy211;clear hy211;obtain ⟨y212,hy212⟩:∃ y_:List (S140),y_=(y211.set (x5_1:Int).toNat (⟨(rd_T140 y211 x5_1).f0,wrap64 (x1_1+1)⟩:S140)):=⟨_,rfl⟩
     replace H:(laws_markBlkLastS.l0 k1 y212 (wrap64 ((wrap64 (x1_1+1))+1)) (wrap64 (x5_1+1)))=some (r1,r2):=qH hy212 H
     have Ny212:=mA hy212;clear hy212;have H':=mA H;clear H;obtain ⟨Ao7,co7,rfl⟩:=Kd.R_slice HO_0.out;have p5:0≤(x5_1:Int):=of_decide_eq_true bA;have q5:(x5_1:Int)<((x0_1.length:Int):Int):=of_decide_eq_true bA
     obtain ⟨go5,co5,eo5,gb5,gl5,cl5,HG5⟩:=Kd.R_form HO_0.out (by omega)
     (first|cases eo5|(injection eo5 with ea_ en_ ec_;(first|subst ea_|(injection ea_ with ea_;subst ea_));subst ec_;clear en_))
     have GB5:=mA gb5;have GG5:=mA HG5;clear gb5 gl5 HG5;have HMgo5:=mA (show (P0_ go5 ∨ w.heap.size≤go5) from (HO_0.out.1 _ rfl));obtain ⟨ce5,hcl5,hM5,hcc5,hfr5⟩:=Kd.R_elem HO_0.out z140 (x5_1:Int) p5 q5;obtain rfl:=k140_openM hM5;have hx5_0:wr.cell? ⟨go5,(x5_1:Int).toNat * 2,none⟩=some (.int .i64 ((rd_T140 x0_1 x5_1).f0)):=hcc5 0 _ rfl;have hx5_1:wr.cell? ⟨go5,(x5_1:Int).toNat * 2+1,none⟩=some (.int .i64 ((rd_T140 x0_1 x5_1).f1)):=hcc5 1 _ rfl;have hf5_0:wr.frozen? ⟨go5,(x5_1:Int).toNat * 2,none⟩=false:=hfr5 0;have hf5_1:wr.frozen? ⟨go5,(x5_1:Int).toNat * 2+1,none⟩=false:=hfr5 1;clear hcl5 hcc5 hfr5 hM5;replace p5:=eq_true p5;replace q5:=eq_true q5;have HX8:=mA (show Kd.R k140 140 wr w0.heap.size (fun k_=>(P0_ k_ ∨ w.heap.size≤k_)) (.slice (some ⟨go5,0,none⟩) x0_1.length co7) x0_1 from (pR HO_0.out))
     obtain ⟨ce8,hcl8,hM8,hcc8,hfr8⟩:=Kd.R_elem HX8.out z140 (x5_1:Int) (of_decide_eq_true bA) (by have h_:(x5_1:Int)<((x0_1.length:Int):Int):=of_decide_eq_true bA;first|exact h_|(have e_:=(Kd.R_reads' HO_0.out).1;omega)|simpa using h_)
     obtain rfl:=k140_openM hM8
     have HP8:=Kd.R_seg HX8.out (x5_1:Int) (of_decide_eq_true bA) (by have h_:(x5_1:Int)<((x0_1.length:Int):Int):=of_decide_eq_true bA;first|exact h_|(have e_:=(Kd.R_reads' HO_0.out).1;omega)|simpa using h_) (seg:=[.int .i64 x1_1]) (j:=0) hcl8 hcc8 (show 1≤2 from by decide) (x':=(⟨x1_1,(rd_T140 x0_1 x5_1).f1⟩:S140)) (k140_mkM _ _ _ (⟨x1_1,(rd_T140 x0_1 x5_1).f1⟩:S140) ) (fun _ hk=>hk)
     have hx8_0:=hcc8 0 _ rfl
     (try simp only [show (k140).sz=2 from rfl,Nat.mul_one,Nat.add_zero] at hx8_0)
     have hf8_0:=hfr8 0
     (try simp only [show (k140).sz=2 from rfl,Nat.mul_one,Nat.add_zero] at hf8_0)
     clear hcl8 hcc8 hfr8 hM8
     go_wp2_with (first|((with_reducible refine gate_store (t:=3) (p:=16) rfl ?_);refine store_event (t:=3) (p:=16) (v:=?vo_w9) (w1:=(wr.setCell ⟨go5,(x5_1:Int).toNat * 2,none⟩ (.int .i64 x1_1))) ?hg ?ho ?hn ?hr ?_;(case ho=>rfl);(case hg=>rfl);(case hn=>rfl);(case hr=>first|(go_simp;done)|(go_simp;rfl));intro w9 hw;have hg:wr.grownBy w9 (some go5):=(by rw [hw];exact HP8.2);have hp_:Kd.R k140 140 w9 w0.heap.size (fun k_=>(P0_ k_ ∨ w.heap.size≤k_)) (.slice (some ⟨go5,0,none⟩) x0_1.length co7) y211:=(by rw [hw,Ny211.out];exact HP8.1);clear HP8;replace HB:=mA (by rw [hw];exact below_set (HB.out) GB5.out:Below w0.heap.size w0 w9);replace HK:=mA (Kept.of_grown (S:=(fun k_=>P0_ k_)) hg (by repeat (first|(with_reducible first|exact HK.out|apply Kept.alloc|apply Kept.drewN|apply Kept.drew)|exact HK.out)) (fun k_ e_=>(HO_0.out.1 k_ e_)));replace HO_0:=mA hp_;clear hg hw hp_;have p6:0≤(x5_1:Int):=of_decide_eq_true bA;have q6:(x5_1:Int)<((x0_1.length:Int):Int):=of_decide_eq_true bA;obtain ⟨ce6,hcl6,hM6,hcc6,hfr6⟩:=Kd.R_elem HO_0.out z140 (x5_1:Int) p6 q6;obtain rfl:=k140_openM hM6;have hx6_0:w9.cell? ⟨go5,(x5_1:Int).toNat * 2,none⟩=some (.int .i64 ((rd_T140 y211 x5_1).f0)):=hcc6 0 _ rfl;have hx6_1:w9.cell? ⟨go5,(x5_1:Int).toNat * 2+1,none⟩=some (.int .i64 ((rd_T140 y211 x5_1).f1)):=hcc6 1 _ rfl;have hf6_0:w9.frozen? ⟨go5,(x5_1:Int).toNat * 2,none⟩=false:=hfr6 0;have hf6_1:w9.frozen? ⟨go5,(x5_1:Int).toNat * 2+1,none⟩=false:=hfr6 1;clear hcl6 hcc6 hfr6 hM6;replace p6:=eq_true p6;replace q6:=eq_true q6;have HX10:=mA (show Kd.R k140 140 w9 w0.heap.size (fun k_=>(P0_ k_ ∨ w.heap.size≤k_)) (.slice (some ⟨go5,0,none⟩) x0_1.length co7) y211 from (pR HO_0.out));obtain ⟨ce10,hcl10,hM10,hcc10,hfr10⟩:=Kd.R_elem HX10.out z140 (x5_1:Int) (of_decide_eq_true bA) (by have h_:(x5_1:Int)<((x0_1.length:Int):Int):=of_decide_eq_true bA;first|exact h_|(have e_:=(Kd.R_reads' HO_0.out).1;omega)|simpa using h_);obtain rfl:=k140_openM hM10;have HP10:=Kd.R_seg HX10.out (x5_1:Int) (of_decide_eq_true bA) (by have h_:(x5_1:Int)<((x0_1.length:Int):Int):=of_decide_eq_true bA;first|exact h_|(have e_:=(Kd.R_reads' HO_0.out).1;omega)|simpa using h_) (seg:=[.int .i64 (wrap64 (x1_1+1))]) (j:=1) hcl10 hcc10 (show 2≤2 from by decide) (x':=(⟨(rd_T140 y211 x5_1).f0,wrap64 (x1_1+1)⟩:S140)) (k140_mkM _ _ _ (⟨(rd_T140 y211 x5_1).f0,wrap64 (x1_1+1)⟩:S140) ) (fun _ hk=>hk);have hx10_1:=hcc10 1 _ rfl;(try simp only [show (k140).sz=2 from rfl,Nat.mul_one,Nat.add_zero] at hx10_1);have hf10_1:=hfr10 1;(try simp only [show (k140).sz=2 from rfl,Nat.mul_one,Nat.add_zero] at hf10_1);clear hcl10 hcc10 hfr10 hM10)|((with_reducible refine gate_store (t:=3) (p:=23) rfl ?_);refine store_event (t:=3) (p:=23) (v:=?vo_w11) (w1:=(w9.setCell ⟨go5,(x5_1:Int).toNat * 2+1,none⟩ (.int .i64 (wrap64 (x1_1+1))))) ?hg ?ho ?hn ?hr ?_;(case ho=>rfl);(case hg=>rfl);(case hn=>rfl);(case hr=>first|(go_simp;done)|(go_simp;rfl));intro w11 hw;have hg:w9.grownBy w11 (some go5):=(by rw [hw];exact HP10.2);have hp_:Kd.R k140 140 w11 w0.heap.size (fun k_=>(P0_ k_ ∨ w.heap.size≤k_)) (.slice (some ⟨go5,0,none⟩) x0_1.length co7) y212:=(by rw [hw,Ny212.out];exact HP10.1);clear HP10;replace HB:=mA (by rw [hw];exact below_set (HB.out) GB5.out:Below w0.heap.size w0 w11);replace HK:=mA (Kept.of_grown (S:=(fun k_=>P0_ k_)) hg (by repeat (first|(with_reducible first|exact HK.out|apply Kept.alloc|apply Kept.drewN|apply Kept.drew)|exact HK.out)) (fun k_ e_=>(HO_0.out.1 k_ e_)));replace HO_0:=mA hp_;clear hg hw hp_))
     go_roundg k1
     case measure=>have:=HK1.out;omega
     case rel=>exact ⟨(y212),(wrap64 ((wrap64 (x1_1+1))+1)),(wrap64 (x5_1+1)),bZ,bZ,H',⟨by have:=HK1.out;omega⟩,⟨pR HO_0.out⟩,⟨by repeat (first|(with_reducible first|exact HK.out|apply Kept.alloc|apply Kept.drewN|apply Kept.drew)|exact HK.out)⟩,⟨pB HB.out⟩⟩
    ·rw [if_neg c4] at H
     exact absurd H (by simp)
   ·rw [if_neg c3] at H;have c3b0:decide (x5_1<(x0_1.length:Int))=false:=decide_eq_false c3;clear c3;simp only [Option.some.injEq,Prod.mk.injEq] at H;obtain ⟨rfl,rfl⟩:=H;obtain ⟨Ao12,co12,rfl⟩:=Kd.R_slice HO_0.out
    go_wp2
    go_ret
    exact ⟨by first|rfl|(simp [errW_none,errW_some]<;>rfl)|(simp [*,errW_none,errW_some]<;>rfl),pR HO_0.out,pB HB.out,by repeat (first|(with_reducible first|exact HK.out|apply Kept.alloc|apply Kept.drewN|apply Kept.drew)|exact HK.out)⟩

end Go.Proofs.Ytoieojmfkkidnaa.P
