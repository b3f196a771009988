-- printed by pprint.py (this session's program over the kit's printer) out of the translation. Lean checks it.
import Derived.Test.YtoieojmfkkidnaaPx0
import Derived.Test.YtoieojmfkkidnaaPx1
import Derived.Test.YtoieojmfkkidnaaPx2
import Derived.Test.YtoieojmfkkidnaaPx5
import Derived.Test.YtoieojmfkkidnaaPx8
namespace Go.Proofs.Ytoieojmfkkidnaa.P
open Go.RowKit Go.Proofs.YtoieojmfkkidnaaX Go.Proofs.YtoieojmfkkidnaaW.PrintWords Go.Proofs.YtoieojmfkkidnaaW.PrintLast Go.Proofs.YtoieojmfkkidnaaW.PrintMore
attribute [local go_sem] max2_int min2_int max_two min_two max_three min_three max_four min_four   -- for this text's walks alone
set_option linter.unusedVariables false
set_option linter.unusedSimpArgs false
/-! ### laws_markSynPaperS: function 109 -/
def laws_markSynPaperS.l0 : Nat → List (S64) → Int → Int → Option (Int × (List (S64)))
 | 0,_,_,_=>none
 | k+1,x0,x1,x5=>if x5<(x0.length:Int) then (if 0≤x5 then (laws_markSynPaperS.l0 k (x0.set (x5:Int).toNat (⟨x1,(wrap64 (x1+1)),(⟨(wrap64 ((wrap64 (x1+1))+1)),(wrap64 ((wrap64 ((wrap64 (x1+1))+1))+1)),(wrap64 ((wrap64 ((wrap64 ((wrap64 (x1+1))+1))+1))+1)),(wrap64 ((wrap64 ((wrap64 ((wrap64 ((wrap64 (x1+1))+1))+1))+1))+1)),(wrap64 ((wrap64 ((wrap64 ((wrap64 ((wrap64 ((wrap64 (x1+1))+1))+1))+1))+1))+1)),(wrap64 ((wrap64 ((wrap64 ((wrap64 ((wrap64 ((wrap64 ((wrap64 (x1+1))+1))+1))+1))+1))+1))+1)),(wrap64 ((wrap64 ((wrap64 ((wrap64 ((wrap64 ((wrap64 ((wrap64 ((wrap64 (x1+1))+1))+1))+1))+1))+1))+1))+1)),(wrap64 ((wrap64 ((wrap64 ((wrap64 ((wrap64 ((wrap64 ((wrap64 ((wrap64 ((wrap64 (x1+1))+1))+1))+1))+1))+1))+1))+1))+1)),(wrap64 ((wrap64 ((wrap64 ((wrap64 ((wrap64 ((wrap64 ((wrap64 ((wrap64 ((wrap64 ((wrap64 (x1+1))+1))+1))+1))+1))+1))+1))+1))+1))+1)),(wrap64 ((wrap64 ((wrap64 ((wrap64 ((wrap64 ((wrap64 ((wrap64 ((wrap64 ((wrap64 ((wrap64 ((wrap64 (x1+1))+1))+1))+1))+1))+1))+1))+1))+1))+1))+1))⟩:S24)⟩:S64)) (wrap64 ((wrap64 ((wrap64 ((wrap64 ((wrap64 ((wrap64 ((wrap64 ((wrap64 ((wrap64 ((wrap64 ((wrap64 ((wrap64 (x1+1))+1))+1))+1))+1))+1))+1))+1))+1))+1))+1))+1)) (wrap64 (x5+1))) else (none)) else (some (x1,x0))
def laws_markSynPaperS.f (k : Nat) (l0 : List (S64)) (a1 : Int) : Option (Int × (List (S64))) := laws_markSynPaperS.l0 k l0 a1 0
set_option maxHeartbeats 8000000 in
set_option maxRecDepth 100000 in
theorem laws_markSynPaperS.calls (k : Nat) (P0_ : Nat → Prop) (u9000_ : Value) (l0 : List (S64)) (a1 r1 : Int) (r2 : List (S64)) (w0 w : World) (hB : Below w0.heap.size w0 w) (ho0 : Kd.R k64 64 w w0.heap.size P0_ u9000_ l0) (h : laws_markSynPaperS.f k l0 a1 = some (r1, r2)) :
  Calls Try.prog 109 #[u9000_,.int .i64 a1] w fun e w'=>e=.returned (.int .i64 r1)∧Kd.R k64 64 w' w0.heap.size (fun k_=>(P0_ k_ ∨ w.heap.size≤k_)) u9000_ r2∧Below w0.heap.size w0 w'∧Kept w w' (fun k_=>P0_ k_):=by
 have HO0:=mA (show Kd.R k64 64 w w0.heap.size (fun k_=>(P0_ k_ ∨ w.heap.size≤k_)) u9000_ l0 from Kd.R_mono ho0 (fun k_ hk=>(.inl hk)));have HK:=mA (Kept.refl w (fun k_=>P0_ k_));have HW0:=mA hB.size;have HB:=mA hB;clear hB;have H:(laws_markSynPaperS.l0 k l0 a1 0)=some (r1,r2):=h;clear h;have H':=mA H;clear H
 go_enter Try.func109,Try.ntmps109
 go_wp2
 go_loopg [1,5] k (fun kq v1 v5 w'=>∃ (x0_1:List (S64)) (x1_1:Int) (x5_1:Int),v1=.int .i64 x1_1∧v5=.int .i64 x5_1∧Aside0 (laws_markSynPaperS.l0 kq x0_1 x1_1 x5_1=some (r1,r2))∧Aside0 (kq≤k)∧Aside0 (Kd.R k64 64 w' w0.heap.size (fun k_=>(P0_ k_ ∨ w.heap.size≤k_)) u9000_ x0_1)∧Aside0 (Kept w w' (fun k_=>P0_ k_))∧Aside0 (Below w0.heap.size w0 w'))
 case atStart=>exact ⟨(l0),(a1),(0),bZ,bZ,H',⟨Nat.le_refl _⟩,⟨pR HO0.out⟩,⟨by repeat (first|(with_reducible first|exact HK.out|apply Kept.alloc|apply Kept.drewN|apply Kept.drew)|exact HK.out)⟩,⟨pB HB.out⟩⟩
 case round =>
  clear H'
  obtain ⟨x0_1,x1_1,x5_1,rfl,rfl,HA,HK1,HO_0,HK,HB⟩:=hrel
  cases gk with
  | zero=>exact absurd HA.out (by simp [laws_markSynPaperS.l0])
  | succ k1 =>
   have H:=HA.out;clear HA;simp only [laws_markSynPaperS.l0] at H
   by_cases c3:x5_1<(x0_1.length:Int)
   ·rw [if_pos c3] at H;have c3b0:decide (x5_1<(x0_1.length:Int))=true:=decide_eq_true c3;clear c3
    by_cases c4:0≤x5_1
    ·rw [if_pos c4] at H;have c4b0:decide (0≤x5_1)=true:=decide_eq_true c4;clear c4;have H':=mA H;clear H;obtain ⟨Ao17,co17,rfl⟩:=Kd.R_slice HO_0.out;have p5:0≤(x5_1:Int):=of_decide_eq_true bA;have q5:(x5_1:Int)<((x0_1.length:Int):Int):=of_decide_eq_true bA
     obtain ⟨go5,co5,eo5,gb5,gl5,cl5,HG5⟩:=Kd.R_form HO_0.out (by omega)
     (first|cases eo5|(injection eo5 with ea_ en_ ec_;(first|subst ea_|(injection ea_ with ea_;subst ea_));subst ec_;clear en_))
     have GB5:=mA gb5;have GG5:=mA HG5;clear gb5 gl5 HG5;have HMgo5:=mA (show (P0_ go5 ∨ w.heap.size≤go5) from (HO_0.out.1 _ rfl));have HO_0:=mA (stE0 (x5_1:Int) z64 HO_0.out q5 p5);replace p5:=eq_true p5;replace q5:=eq_true q5
     go_wp2_with (first|((with_reducible refine gate_store (t:=3) (p:=16) rfl ?_);refine stEl k64 z64 put64 12 12 put64_M (fun k_=>P0_ k_) (x5_1:Int) 0 HO_0 HB HK (fun _ h_=>h_) p5 q5 (p:=16) (h:=?_);intro w0_ hO_ hB_ hK_;replace HO_0:=mA hO_;replace HB:=mA hB_;replace HK:=mA hK_;clear hO_ hB_ hK_)|((with_reducible refine gate_store (t:=3) (p:=23) rfl ?_);refine stEl k64 z64 put64 12 12 put64_M (fun k_=>P0_ k_) (x5_1:Int) 1 HO_0 HB HK (fun _ h_=>h_) p5 q5 (p:=23) (h:=?_);intro w1_ hO_ hB_ hK_;replace HO_0:=mA hO_;replace HB:=mA hB_;replace HK:=mA hK_;clear hO_ hB_ hK_)|((with_reducible refine gate_store (t:=3) (p:=31) rfl ?_);refine stEl k64 z64 put64 12 12 put64_M (fun k_=>P0_ k_) (x5_1:Int) 2 HO_0 HB HK (fun _ h_=>h_) p5 q5 (p:=31) (h:=?_);intro w2_ hO_ hB_ hK_;replace HO_0:=mA hO_;replace HB:=mA hB_;replace HK:=mA hK_;clear hO_ hB_ hK_)|((with_reducible refine gate_store (t:=3) (p:=39) rfl ?_);refine stEl k64 z64 put64 12 12 put64_M (fun k_=>P0_ k_) (x5_1:Int) 3 HO_0 HB HK (fun _ h_=>h_) p5 q5 (p:=39) (h:=?_);intro w3_ hO_ hB_ hK_;replace HO_0:=mA hO_;replace HB:=mA hB_;replace HK:=mA hK_;clear hO_ hB_ hK_)|((with_reducible refine gate_store (t:=3) (p:=47) rfl ?_);refine stEl k64 z64 put64 12 12 put64_M (fun k_=>P0_ k_) (x5_1:Int) 4 HO_0 HB HK (fun _ h_=>h_) p5 q5 (p:=47) (h:=?_);intro w4_ hO_ hB_ hK_;replace HO_0:=mA hO_;replace HB:=mA hB_;replace HK:=mA hK_;clear hO_ hB_ hK_)|((with_reducible refine gate_store (t:=3) (p:=55) rfl ?_);refine stEl k64 z64 put64 12 12 put64_M (fun k_=>P0_ k_) (x5_1:Int) 5 HO_0 HB HK (fun _ h_=>h_) p5 q5 (p:=55) (h:=?_);intro w5_ hO_ hB_ hK_;replace HO_0:=mA hO_;replace HB:=mA hB_;replace HK:=mA hK_;clear hO_ hB_ hK_)|((with_reducible refine gate_store (t:=3) (p:=63) rfl ?_);refine stEl k64 z64 put64 12 12 put64_M (fun k_=>P0_ k_) (x5_1:Int) 6 HO_0 HB HK (fun _ h_=>h_) p5 q5 (p:=63) (h:=?_);intro w6_ hO_ hB_ hK_;replace HO_0:=mA hO_;replace HB:=mA hB_;replace HK:=mA hK_;clear hO_ hB_ hK_)|((with_reducible refine gate_store (t:=3) (p:=71) rfl ?_);refine stEl k64 z64 put64 12 12 put64_M (fun k_=>P0_ k_) (x5_1:Int) 7 HO_0 HB HK (fun _ h_=>h_) p5 q5 (p:=71) (h:=?_);intro w7_ hO_ hB_ hK_;replace HO_0:=mA hO_;replace HB:=mA hB_;replace HK:=mA hK_;clear hO_ hB_ hK_)|((with_reducible refine gate_store (t:=3) (p:=79) rfl ?_);refine stEl k64 z64 put64 12 12 put64_M (fun k_=>P0_ k_) (x5_1:Int) 8 HO_0 HB HK (fun _ h_=>h_) p5 q5 (p:=79) (h:=?_);intro w8_ hO_ hB_ hK_;replace HO_0:=mA hO_;replace HB:=mA hB_;replace HK:=mA hK_;clear hO_ hB_ hK_)|((with_reducible refine gate_store (t:=3) (p:=87) rfl ?_);refine stEl k64 z64 put64 12 12 put64_M (fun k_=>P0_ k_) (x5_1:Int) 9 HO_0 HB HK (fun _ h_=>h_) p5 q5 (p:=87) (h:=?_);intro w9_ hO_ hB_ hK_;replace HO_0:=mA hO_;replace HB:=mA hB_;replace HK:=mA hK_;clear hO_ hB_ hK_)|((with_reducible refine gate_store (t:=3) (p:=95) rfl ?_);refine stEl k64 z64 put64 12 12 put64_M (fun k_=>P0_ k_) (x5_1:Int) 10 HO_0 HB HK (fun _ h_=>h_) p5 q5 (p:=95) (h:=?_);intro w10_ hO_ hB_ hK_;replace HO_0:=mA hO_;replace HB:=mA hB_;replace HK:=mA hK_;clear hO_ hB_ hK_)|((with_reducible refine gate_store (t:=3) (p:=103) rfl ?_);refine stEl k64 z64 put64 12 12 put64_M (fun k_=>P0_ k_) (x5_1:Int) 11 HO_0 HB HK (fun _ h_=>h_) p5 q5 (p:=103) (h:=?_);intro w11_ hO_ hB_ hK_;replace HO_0:=mA hO_;replace HB:=mA hB_;replace HK:=mA hK_;clear hO_ hB_ hK_))
     replace HO_0:=mA (show Kd.R k64 64 _ w0.heap.size (fun k_=>(P0_ k_ ∨ w.heap.size≤k_)) _ (x0_1.set (x5_1:Int).toNat (⟨x1_1,(wrap64 (x1_1+1)),(⟨(wrap64 ((wrap64 (x1_1+1))+1)),(wrap64 ((wrap64 ((wrap64 (x1_1+1))+1))+1)),(wrap64 ((wrap64 ((wrap64 ((wrap64 (x1_1+1))+1))+1))+1)),(wrap64 ((wrap64 ((wrap64 ((wrap64 ((wrap64 (x1_1+1))+1))+1))+1))+1)),(wrap64 ((wrap64 ((wrap64 ((wrap64 ((wrap64 ((wrap64 (x1_1+1))+1))+1))+1))+1))+1)),(wrap64 ((wrap64 ((wrap64 ((wrap64 ((wrap64 ((wrap64 ((wrap64 (x1_1+1))+1))+1))+1))+1))+1))+1)),(wrap64 ((wrap64 ((wrap64 ((wrap64 ((wrap64 ((wrap64 ((wrap64 ((wrap64 (x1_1+1))+1))+1))+1))+1))+1))+1))+1)),(wrap64 ((wrap64 ((wrap64 ((wrap64 ((wrap64 ((wrap64 ((wrap64 ((wrap64 ((wrap64 (x1_1+1))+1))+1))+1))+1))+1))+1))+1))+1)),(wrap64 ((wrap64 ((wrap64 ((wrap64 ((wrap64 ((wrap64 ((wrap64 ((wrap64 ((wrap64 ((wrap64 (x1_1+1))+1))+1))+1))+1))+1))+1))+1))+1))+1)),(wrap64 ((wrap64 ((wrap64 ((wrap64 ((wrap64 ((wrap64 ((wrap64 ((wrap64 ((wrap64 ((wrap64 ((wrap64 (x1_1+1))+1))+1))+1))+1))+1))+1))+1))+1))+1))+1))⟩:S24)⟩:S64)) from HO_0.out)
     go_roundg k1
     case measure=>have:=HK1.out;omega
     case rel=>exact ⟨(x0_1.set (x5_1:Int).toNat (⟨x1_1,(wrap64 (x1_1+1)),(⟨(wrap64 ((wrap64 (x1_1+1))+1)),(wrap64 ((wrap64 ((wrap64 (x1_1+1))+1))+1)),(wrap64 ((wrap64 ((wrap64 ((wrap64 (x1_1+1))+1))+1))+1)),(wrap64 ((wrap64 ((wrap64 ((wrap64 ((wrap64 (x1_1+1))+1))+1))+1))+1)),(wrap64 ((wrap64 ((wrap64 ((wrap64 ((wrap64 ((wrap64 (x1_1+1))+1))+1))+1))+1))+1)),(wrap64 ((wrap64 ((wrap64 ((wrap64 ((wrap64 ((wrap64 ((wrap64 (x1_1+1))+1))+1))+1))+1))+1))+1)),(wrap64 ((wrap64 ((wrap64 ((wrap64 ((wrap64 ((wrap64 ((wrap64 ((wrap64 (x1_1+1))+1))+1))+1))+1))+1))+1))+1)),(wrap64 ((wrap64 ((wrap64 ((wrap64 ((wrap64 ((wrap64 ((wrap64 ((wrap64 ((wrap64 (x1_1+1))+1))+1))+1))+1))+1))+1))+1))+1)),(wrap64 ((wrap64 ((wrap64 ((wrap64 ((wrap64 ((wrap64 ((wrap64 ((wrap64 ((wrap64 ((wrap64 (x1_1+1))+1))+1))+1))+1))+1))+1))+1))+1))+1)),(wrap64 ((wrap64 ((wrap64 ((wrap64 ((wrap64 ((wrap64 ((wrap64 ((wrap64 ((wrap64 ((wrap64 ((wrap64 (x1_1+1))+1))+1))+1))+1))+1))+1))+1))+1))+1))+1))⟩:S24)⟩:S64)),(wrap64 ((wrap64 ((wrap64 ((wrap64 ((wrap64 ((wrap64 ((wrap64 ((wrap64 ((wrap64 ((wrap64 ((wrap64 ((wrap64 (x1_1+1))+1))+1))+1))+1))+1))+1))+1))+1))+1))+1))+1)),(wrap64 (x5_1+1)),bZ,bZ,H',⟨by have:=HK1.out;omega⟩,⟨pR HO_0.out⟩,⟨by repeat (first|(with_reducible first|exact HK.out|apply Kept.alloc|apply Kept.drewN|apply Kept.drew)|exact HK.out)⟩,⟨pB HB.out⟩⟩
    ·rw [if_neg c4] at H
     exact absurd H (by simp)
   ·rw [if_neg c3] at H;have c3b0:decide (x5_1<(x0_1.length:Int))=false:=decide_eq_false c3;clear c3;simp only [Option.some.injEq,Prod.mk.injEq] at H;obtain ⟨rfl,rfl⟩:=H;obtain ⟨Ao42,co42,rfl⟩:=Kd.R_slice HO_0.out
    go_wp2
    go_ret
    exact ⟨by first|rfl|(simp [errW_none,errW_some]<;>rfl)|(simp [*,errW_none,errW_some]<;>rfl),pR HO_0.out,pB HB.out,by repeat (first|(with_reducible first|exact HK.out|apply Kept.alloc|apply Kept.drewN|apply Kept.drew)|exact HK.out)⟩
/-! ### laws_markSynVoter: function 45 -/
def laws_markSynVoter.f (k : Nat) (a0_0 : Int) (l0_1 : List (S64)) (a1 : Int) : Option (Int × (List (S64))) := (laws_markSynPaperS.f k l0_1 a1).bind fun bt490 => (some (bt490.1, bt490.2))
set_option maxHeartbeats 8000000 in
set_option maxRecDepth 100000 in
theorem laws_markSynVoter.calls (k : Nat) (a0_0 : Int) (P0_1_ : Nat → Prop) (u9000_ : Value) (l0_1 : List (S64)) (a1 r1 : Int) (r2 : List (S64)) (w0 w : World) (hB : Below w0.heap.size w0 w) (ho0_1 : Kd.R k64 64 w w0.heap.size P0_1_ u9000_ l0_1) (h : laws_markSynVoter.f k a0_0 l0_1 a1 = some (r1, r2)) :
  Calls Try.prog 45 #[.agg #[.int .i64 a0_0,u9000_],.int .i64 a1] w fun e w'=>e=.returned (.int .i64 r1)∧Kd.R k64 64 w' w0.heap.size (fun k_=>(P0_1_ k_ ∨ w.heap.size≤k_)) u9000_ r2∧Below w0.heap.size w0 w'∧Kept w w' (fun k_=>P0_1_ k_):=by
 have hu52:=Try.underlying52;have HO0_1:=mA (show Kd.R k64 64 w w0.heap.size (fun k_=>(P0_1_ k_ ∨ w.heap.size≤k_)) u9000_ l0_1 from Kd.R_mono ho0_1 (fun k_ hk=>(.inl hk)));have HK:=mA (Kept.refl w (fun k_=>P0_1_ k_));have HW0:=mA hB.size;have HB:=mA hB;clear hB;have H:((laws_markSynPaperS.f k l0_1 a1).bind fun bt490=>(some (bt490.1,bt490.2)))=some (r1,r2):=h;clear h;obtain ⟨⟨t490,t491⟩,A3,H⟩:=bI H;(try dsimp only at H);simp only [Option.some.injEq,Prod.mk.injEq] at H;obtain ⟨rfl,rfl⟩:=H;obtain ⟨Ao4,co4,rfl⟩:=Kd.R_slice HO0_1.out
 go_enter Try.func45,Try.ntmps45
 go_wp2_with (first|((with_reducible refine gT 2 rfl ?_);refine bE 2 #[.int .i64 a0_0,.slice Ao4 l0_1.length co4] 52 ?_;intro gb489 hg w5 hbox hb;replace HO0_1:=rB HO0_1 hb;have BK489:=mA hbox;have GW489:=mA (by rw [hg];exact (by first|exact HK.out.1|exact (show Kept w _ (fun k_=>P0_1_ k_) from by repeat (first|(with_reducible first|exact HK.out|apply Kept.alloc|apply Kept.drewN|apply Kept.drew)|exact HK.out)).1):w.heap.size≤gb489);replace HK:=mA (Kept.below (S:=(fun k_=>P0_1_ k_)) (by repeat (first|(with_reducible first|exact HK.out|apply Kept.alloc|apply Kept.drewN|apply Kept.drew)|exact HK.out)) hb);have GE489:=gbpB HB hg;replace HB:=spB HB hb;clear hb hbox hg;obtain ⟨hcz6_0,hcz6_1,hfz6_0,hfz6_1⟩:=box2 BK489.out)|((with_reducible refine gT 8 rfl ?_);refine gC (some 8) Try.func109 (laws_markSynPaperS.calls k (fun k_=>some k_=(.slice Ao4 l0_1.length co4:Value).ownBlock) (.slice Ao4 l0_1.length co4) l0_1 a1 t490 t491 w0 _ ?s1 (Kd.R_tight rfl HO0_1.out) A3.out) ?_;(case s1=>repeat (first|(with_reducible first|exact HB.out|apply below_alloc|apply pw_below_drewN|apply below_drew1|refine below_set ?_ GE489.out)|exact HB.out));rintro e w7 ⟨rfl,hy0,hb,hkp⟩;refine ⟨_,rfl,?_⟩;replace BK489:=mA (blk_kept (pK BK489.out) hkp (fun hs_=>(fun e_=>(Kd.R_ne HO0_1.out BK489.out aD) e_) hs_));replace HK:=mA (Kept.then_ (S:=(fun k_=>P0_1_ k_)) (by repeat (first|(with_reducible first|exact HK.out|apply Kept.alloc|apply Kept.drewN|apply Kept.drew|refine Kept.setCell ?_ (.inr GW489.out) _)|exact HK.out)) hkp (fun k_ hs_=>(fun e_=>(HO0_1.out.1 k_ e_.symm)) hs_));replace HO0_1:=mA (Kd.R_reok rfl hy0 (fun k_ e_=>HO0_1.out.1 k_ e_));replace HB:=mA hb;(try clear hb);(try clear hkp);(try clear hy0)))
 go_ret
 exact ⟨by first|rfl|(simp [errW_none,errW_some]<;>rfl)|(simp [*,errW_none,errW_some]<;>rfl),pR HO0_1.out,pS HB.out,by repeat (first|(with_reducible first|exact HK.out|apply Kept.alloc|apply Kept.drewN|apply Kept.drew|refine Kept.setCell ?_ (.inr GW489.out) _)|exact HK.out)⟩
/-! ### laws_heldSynPaperS: function 110 -/
def laws_heldSynPaperS.l0 : Nat → List (S64) → Int → Int → Option (Int)
 | 0,_,_,_=>none
 | k+1,x0,x1,x5=>if x5<(x0.length:Int) then (if 0≤x5 then (if ((rd_T64 x0 x5).f0)=x1 then (if ((rd_T64 x0 x5).f1)=(wrap64 (x1+1)) then (if ((rd_T64 x0 x5).f2.f0)=(wrap64 ((wrap64 (x1+1))+1)) then (if ((rd_T64 x0 x5).f2.f1)=(wrap64 ((wrap64 ((wrap64 (x1+1))+1))+1)) then (if ((rd_T64 x0 x5).f2.f2)=(wrap64 ((wrap64 ((wrap64 ((wrap64 (x1+1))+1))+1))+1)) then (if ((rd_T64 x0 x5).f2.f3)=(wrap64 ((wrap64 ((wrap64 ((wrap64 ((wrap64 (x1+1))+1))+1))+1))+1)) then (if ((rd_T64 x0 x5).f2.f4)=(wrap64 ((wrap64 ((wrap64 ((wrap64 ((wrap64 ((wrap64 (x1+1))+1))+1))+1))+1))+1)) then (if ((rd_T64 x0 x5).f2.f5)=(wrap64 ((wrap64 ((wrap64 ((wrap64 ((wrap64 ((wrap64 ((wrap64 (x1+1))+1))+1))+1))+1))+1))+1)) then (if ((rd_T64 x0 x5).f2.f6)=(wrap64 ((wrap64 ((wrap64 ((wrap64 ((wrap64 ((wrap64 ((wrap64 ((wrap64 (x1+1))+1))+1))+1))+1))+1))+1))+1)) then (if ((rd_T64 x0 x5).f2.f7)=(wrap64 ((wrap64 ((wrap64 ((wrap64 ((wrap64 ((wrap64 ((wrap64 ((wrap64 ((wrap64 (x1+1))+1))+1))+1))+1))+1))+1))+1))+1)) then (if ((rd_T64 x0 x5).f2.f8)=(wrap64 ((wrap64 ((wrap64 ((wrap64 ((wrap64 ((wrap64 ((wrap64 ((wrap64 ((wrap64 ((wrap64 (x1+1))+1))+1))+1))+1))+1))+1))+1))+1))+1)) then (if ((rd_T64 x0 x5).f2.f9)=(wrap64 ((wrap64 ((wrap64 ((wrap64 ((wrap64 ((wrap64 ((wrap64 ((wrap64 ((wrap64 ((wrap64 ((wrap64 (x1+1))+1))+1))+1))+1))+1))+1))+1))+1))+1))+1)) then (laws_heldSynPaperS.l0 k x0 (wrap64 ((wrap64 ((wrap64 ((wrap64 ((wrap64 ((wrap64 ((wrap64 ((wrap64 ((wrap64 ((wrap64 ((wrap64 ((wrap64 (x1+1))+1))+1))+1))+1))+1))+1))+1))+1))+1))+1))+1)) (wrap64 (x5+1))) else (some (-1))) else (some (-1))) else (some (-1))) else (some (-1))) else (some (-1))) else (some (-1))) else (some (-1))) else (some (-1))) else (some (-1))) else (some (-1))) else (some (-1))) else (some (-1))) else (none)) else (some x1)
def laws_heldSynPaperS.f (k : Nat) (l0 : List (S64)) (a1 : Int) : Option (Int) := laws_heldSynPaperS.l0 k l0 a1 0
set_option maxHeartbeats 8000000 in
set_option maxRecDepth 100000 in
theorem laws_heldSynPaperS.calls {k : Nat} {A0 : Option Addr} {c0 : Nat} {l0 : List (S64)} {a1 r : Int} {w : World} (hr0 : Kd.C k64 w A0 l0.length l0) (hc0 : l0.length ≤ c0) (h : laws_heldSynPaperS.f k l0 a1 = some r) :
  Calls Try.prog 110 #[.slice A0 l0.length c0,.int .i64 a1] w fun e w'=>e=.returned (.int .i64 r)∧Drawn0 w w':=by
 have HR0:=mA hr0;have HC0:=mA hc0;clear hr0 hc0;have H:(laws_heldSynPaperS.l0 k l0 a1 0)=some r:=h;clear h;have H':=mA H;clear H
 go_enter Try.func110,Try.ntmps110
 go_wp2
 go_loopg [1,5] k (fun kq v1 v5 w'=>∃ (x1_1:Int) (x5_1:Int),v1=.int .i64 x1_1∧v5=.int .i64 x5_1∧Aside0 (laws_heldSynPaperS.l0 kq l0 x1_1 x5_1=some r)∧Aside0 (kq≤k)∧Drawn0 w w')
 case atStart=>exact ⟨(a1),(0),bZ,bZ,H',⟨Nat.le_refl _⟩,by repeat (first|exact Drawn0.refl _|apply Drawn0.step)⟩
 case round =>
  clear H'
  obtain ⟨x1_1,x5_1,rfl,rfl,HA,HK1,⟨m1,rfl⟩⟩:=hrel
  cases gk with
  | zero=>exact absurd HA.out (by simp [laws_heldSynPaperS.l0])
  | succ k1 =>
   have H:=HA.out;clear HA;simp only [laws_heldSynPaperS.l0] at H
   by_cases c3:x5_1<(l0.length:Int)
   ·rw [if_pos c3] at H;have c3b0:decide (x5_1<(l0.length:Int))=true:=decide_eq_true c3;clear c3
    by_cases c4:0≤x5_1
    ·rw [if_pos c4] at H;have c4b0:decide (0≤x5_1)=true:=decide_eq_true c4;clear c4
     have p492:0≤(x5_1:Int):=of_decide_eq_true bA;have q492:x5_1<(l0.length:Int):=of_decide_eq_true bA;obtain ⟨ad492,e492,hs492⟩:=at_R64 HR0.out x5_1 p492 q492;cases e492;replace p492:=eq_true p492;replace q492:=eq_true q492;have H0_:=mA H;clear H
     repeat (first|go_values|go_skip|go_guarded|go_step|go_upon|go_back)
     have H:=H0_.out;clear H0_
     have hx_:=RS.hd hs492 rfl
     by_cases c5:((rd_T64 l0 x5_1).f0)=x1_1
     ·rw [if_pos c5] at H;obtain ⟨c5b0,c5b1⟩:=eqB c5;clear c5
      have H0_:=mA H;clear H
      go_simp;repeat (first|go_values|go_skip|go_guarded|go_step|go_upon|go_back)
      clear hx_;have H:=H0_.out;clear H0_
      have hx_:=RS.nth hs492 1 rfl
      by_cases c6:((rd_T64 l0 x5_1).f1)=(wrap64 (x1_1+1))
      ·rw [if_pos c6] at H;obtain ⟨c6b0,c6b1⟩:=eqB c6;clear c6
       have H0_:=mA H;clear H
       go_simp;repeat (first|go_values|go_skip|go_guarded|go_step|go_upon|go_back)
       clear hx_;have H:=H0_.out;clear H0_
       have hx_:=RS.nth hs492 2 rfl
       by_cases c7:((rd_T64 l0 x5_1).f2.f0)=(wrap64 ((wrap64 (x1_1+1))+1))
       ·rw [if_pos c7] at H;obtain ⟨c7b0,c7b1⟩:=eqB c7;clear c7
        have H0_:=mA H;clear H
        go_simp;repeat (first|go_values|go_skip|go_guarded|go_step|go_upon|go_back)
        clear hx_;have H:=H0_.out;clear H0_
        have hx_:=RS.nth hs492 3 rfl
        by_cases c8:((rd_T64 l0 x5_1).f2.f1)=(wrap64 ((wrap64 ((wrap64 (x1_1+1))+1))+1))
        ·rw [if_pos c8] at H;obtain ⟨c8b0,c8b1⟩:=eqB c8;clear c8
         have H0_:=mA H;clear H
         go_simp;repeat (first|go_values|go_skip|go_guarded|go_step|go_upon|go_back)
         clear hx_;have H:=H0_.out;clear H0_
         have hx_:=RS.nth hs492 4 rfl
         by_cases c9:((rd_T64 l0 x5_1).f2.f2)=(wrap64 ((wrap64 ((wrap64 ((wrap64 (x1_1+1))+1))+1))+1))
         ·rw [if_pos c9] at H;obtain ⟨c9b0,c9b1⟩:=eqB c9;clear c9
          have H0_:=mA H;clear H
          go_simp;repeat (first|go_values|go_skip|go_guarded|go_step|go_upon|go_back)
          clear hx_;have H:=H0_.out;clear H0_
          have hx_:=RS.nth hs492 5 rfl
          by_cases c10:((rd_T64 l0 x5_1).f2.f3)=(wrap64 ((wrap64 ((wrap64 ((wrap64 ((wrap64 (x1_1+1))+1))+1))+1))+1))
          ·rw [if_pos c10] at H;obtain ⟨c10b0,c10b1⟩:=eqB c10;clear c10
           have H0_:=mA H;clear H
           go_simp;repeat (first|go_values|go_skip|go_guarded|go_step|go_upon|go_back)
           clear hx_;have H:=H0_.out;clear H0_
           have hx_:=RS.nth hs492 6 rfl
           by_cases c11:((rd_T64 l0 x5_1).f2.f4)=(wrap64 ((wrap64 ((wrap64 ((wrap64 ((wrap64 ((wrap64 (x1_1+1))+1))+1))+1))+1))+1))
           ·rw [if_pos c11] at H;obtain ⟨c11b0,c11b1⟩:=eqB c11;clear c11
            have H0_:=mA H;clear H
            go_simp;repeat (first|go_values|go_skip|go_guarded|go_step|go_upon|go_back)
            clear hx_;have H:=H0_.out;clear H0_
            have hx_:=RS.nth hs492 7 rfl
            by_cases c12:((rd_T64 l0 x5_1).f2.f5)=(wrap64 ((wrap64 ((wrap64 ((wrap64 ((wrap64 ((wrap64 ((wrap64 (x1_1+1))+1))+1))+1))+1))+1))+1))
            ·rw [if_pos c12] at H;obtain ⟨c12b0,c12b1⟩:=eqB c12;clear c12
             have H0_:=mA H;clear H
             go_simp;repeat (first|go_values|go_skip|go_guarded|go_step|go_upon|go_back)
             clear hx_;have H:=H0_.out;clear H0_
             have hx_:=RS.nth hs492 8 rfl
             by_cases c13:((rd_T64 l0 x5_1).f2.f6)=(wrap64 ((wrap64 ((wrap64 ((wrap64 ((wrap64 ((wrap64 ((wrap64 ((wrap64 (x1_1+1))+1))+1))+1))+1))+1))+1))+1))
             ·rw [if_pos c13] at H;obtain ⟨c13b0,c13b1⟩:=eqB c13;clear c13
              have H0_:=mA H;clear H
              go_simp;repeat (first|go_values|go_skip|go_guarded|go_step|go_upon|go_back)
              clear hx_;have H:=H0_.out;clear H0_
              have hx_:=RS.nth hs492 9 rfl
              by_cases c14:((rd_T64 l0 x5_1).f2.f7)=(wrap64 ((wrap64 ((wrap64 ((wrap64 ((wrap64 ((wrap64 ((wrap64 ((wrap64 ((wrap64 (x1_1+1))+1))+1))+1))+1))+1))+1))+1))+1))
              ·rw [if_pos c14] at H;obtain ⟨c14b0,c14b1⟩:=eqB c14;clear c14
               have H0_:=mA H;clear H
               go_simp;repeat (first|go_values|go_skip|go_guarded|go_step|go_upon|go_back)
               clear hx_;have H:=H0_.out;clear H0_
               have hx_:=RS.nth hs492 10 rfl
               by_cases c15:((rd_T64 l0 x5_1).f2.f8)=(wrap64 ((wrap64 ((wrap64 ((wrap64 ((wrap64 ((wrap64 ((wrap64 ((wrap64 ((wrap64 ((wrap64 (x1_1+1))+1))+1))+1))+1))+1))+1))+1))+1))+1))
               ·rw [if_pos c15] at H;obtain ⟨c15b0,c15b1⟩:=eqB c15;clear c15
                have H0_:=mA H;clear H
                go_simp;repeat (first|go_values|go_skip|go_guarded|go_step|go_upon|go_back)
                clear hx_;have H:=H0_.out;clear H0_
                have hx_:=RS.nth hs492 11 rfl
                by_cases c16:((rd_T64 l0 x5_1).f2.f9)=(wrap64 ((wrap64 ((wrap64 ((wrap64 ((wrap64 ((wrap64 ((wrap64 ((wrap64 ((wrap64 ((wrap64 ((wrap64 (x1_1+1))+1))+1))+1))+1))+1))+1))+1))+1))+1))+1))
                ·rw [if_pos c16] at H;obtain ⟨c16b0,c16b1⟩:=eqB c16;clear c16
                 have H0_:=mA H;clear H
                 go_simp
                 have H:=H0_.out;clear H0_
                 have H':=mA H;clear H;go_wp2
                 go_roundg k1
                 case measure=>have:=HK1.out;omega
                 case rel=>exact ⟨(wrap64 ((wrap64 ((wrap64 ((wrap64 ((wrap64 ((wrap64 ((wrap64 ((wrap64 ((wrap64 ((wrap64 ((wrap64 ((wrap64 (x1_1+1))+1))+1))+1))+1))+1))+1))+1))+1))+1))+1))+1)),(wrap64 (x5_1+1)),bZ,bZ,H',⟨by have:=HK1.out;omega⟩,by repeat (first|exact Drawn0.refl _|apply Drawn0.step)⟩
                ·rw [if_neg c16] at H;obtain ⟨c16b0,c16b1⟩:=neB c16;clear c16;obtain rfl:=Option.some.inj H;go_wp2
                 go_ret
                 exact ⟨by first|rfl|(simp;done)|(simp [*];done),by repeat (first|exact Drawn0.refl _|apply Drawn0.step)⟩
               ·rw [if_neg c15] at H;obtain ⟨c15b0,c15b1⟩:=neB c15;clear c15;obtain rfl:=Option.some.inj H;go_wp2
                go_ret
                exact ⟨by first|rfl|(simp;done)|(simp [*];done),by repeat (first|exact Drawn0.refl _|apply Drawn0.step)⟩
              ·rw [if_neg c14] at H;obtain ⟨c14b0,c14b1⟩:=neB c14;clear c14;obtain rfl:=Option.some.inj H;go_wp2
               go_ret
               exact ⟨by first|rfl|(simp;done)|(simp [*];done),by repeat (first|exact Drawn0.refl _|apply Drawn0.step)⟩
             ·rw [if_neg c13] at H;obtain ⟨c13b0,c13b1⟩:=neB c13;clear c13;obtain rfl:=Option.some.inj H;go_wp2
              go_ret
              exact ⟨by first|rfl|(simp;done)|(simp [*];done),by repeat (first|exact Drawn0.refl _|apply Drawn0.step)⟩
            ·rw [if_neg c12] at H;obtain ⟨c12b0,c12b1⟩:=neB c12;clear c12;obtain rfl:=Option.some.inj H;go_wp2
             go_ret
             exact ⟨by first|rfl|(simp;done)|(simp [*];done),by repeat (first|exact Drawn0.refl _|apply Drawn0.step)⟩
           ·rw [if_neg c11] at H;obtain ⟨c11b0,c11b1⟩:=neB c11;clear c11;obtain rfl:=Option.some.inj H;go_wp2
            go_ret
            exact ⟨by first|rfl|(simp;done)|(simp [*];done),by repeat (first|exact Drawn0.refl _|apply Drawn0.step)⟩
          ·rw [if_neg c10] at H;obtain ⟨c10b0,c10b1⟩:=neB c10;clear c10;obtain rfl:=Option.some.inj H;go_wp2
           go_ret
           exact ⟨by first|rfl|(simp;done)|(simp [*];done),by repeat (first|exact Drawn0.refl _|apply Drawn0.step)⟩
         ·rw [if_neg c9] at H;obtain ⟨c9b0,c9b1⟩:=neB c9;clear c9;obtain rfl:=Option.some.inj H;go_wp2
          go_ret
          exact ⟨by first|rfl|(simp;done)|(simp [*];done),by repeat (first|exact Drawn0.refl _|apply Drawn0.step)⟩
        ·rw [if_neg c8] at H;obtain ⟨c8b0,c8b1⟩:=neB c8;clear c8;obtain rfl:=Option.some.inj H;go_wp2
         go_ret
         exact ⟨by first|rfl|(simp;done)|(simp [*];done),by repeat (first|exact Drawn0.refl _|apply Drawn0.step)⟩
       ·rw [if_neg c7] at H;obtain ⟨c7b0,c7b1⟩:=neB c7;clear c7;obtain rfl:=Option.some.inj H;go_wp2
        go_ret
        exact ⟨by first|rfl|(simp;done)|(simp [*];done),by repeat (first|exact Drawn0.refl _|apply Drawn0.step)⟩
      ·rw [if_neg c6] at H;obtain ⟨c6b0,c6b1⟩:=neB c6;clear c6;obtain rfl:=Option.some.inj H;go_wp2
       go_ret
       exact ⟨by first|rfl|(simp;done)|(simp [*];done),by repeat (first|exact Drawn0.refl _|apply Drawn0.step)⟩
     ·rw [if_neg c5] at H;obtain ⟨c5b0,c5b1⟩:=neB c5;clear c5;obtain rfl:=Option.some.inj H
      go_wp2
      go_ret
      exact ⟨by first|rfl|(simp;done)|(simp [*];done),by repeat (first|exact Drawn0.refl _|apply Drawn0.step)⟩
    ·rw [if_neg c4] at H
     exact absurd H (by simp)
   ·rw [if_neg c3] at H;have c3b0:decide (x5_1<(l0.length:Int))=false:=decide_eq_false c3;clear c3;obtain rfl:=Option.some.inj H
    go_wp2
    go_ret
    exact ⟨by first|rfl|(simp;done)|(simp [*];done),by repeat (first|exact Drawn0.refl _|apply Drawn0.step)⟩
/-! ### laws_heldSynVoter: function 46 -/
def laws_heldSynVoter.f (k : Nat) (a0_0 : Int) (l0_1 : List (S64)) (a1 : Int) : Option (Int) := (laws_heldSynPaperS.f k l0_1 a1).bind fun t505 => (if t505 < 0 then (some (-1)) else (some t505))
set_option maxHeartbeats 8000000 in
set_option maxRecDepth 100000 in
theorem laws_heldSynVoter.calls {k : Nat} {a0_0 : Int} {A0_1 : Option Addr} {c0_1 : Nat} {l0_1 : List (S64)} {a1 r : Int} {w : World} (hr0_1 : Kd.C k64 w A0_1 l0_1.length l0_1) (hc0_1 : l0_1.length ≤ c0_1) (h : laws_heldSynVoter.f k a0_0 l0_1 a1 = some r) :
  Calls Try.prog 46 #[.agg #[.int .i64 a0_0,.slice A0_1 l0_1.length c0_1],.int .i64 a1] w fun e w'=>e=.returned (.int .i64 r)∧Below w.heap.size w w':=by
 have hu52:=Try.underlying52;have HR0_1:=mA hr0_1;have HC0_1:=mA hc0_1;clear hr0_1 hc0_1;have HB:=mA (Below.refl w.heap.size w);have H:((laws_heldSynPaperS.f k l0_1 a1).bind fun t505=>(if t505<0 then (some (-1)) else (some t505)))=some r:=h;clear h;obtain ⟨t505,A3,H⟩:=bI H;(try dsimp only at H)
 by_cases c4:t505<0
 ·rw [if_pos c4] at H;have c4b0:decide (t505<0)=true:=decide_eq_true c4;clear c4;obtain rfl:=Option.some.inj H
  go_enter Try.func46,Try.ntmps46
  go_wp2_with (first|((with_reducible refine gT 2 rfl ?_);refine bE 2 #[.int .i64 a0_0,.slice A0_1 l0_1.length c0_1] 52 ?_;intro gb504 hg w5 hbox hb;have BK504:=mA hbox;have GW504:=gbpB HB hg;have GE504:=gbpB HB hg;replace HB:=spB HB hb;clear hb hbox hg;obtain ⟨hcz6_0,hcz6_1,hfz6_0,hfz6_1⟩:=box2 BK504.out)|((with_reducible refine gT 8 rfl ?_);refine gC (some 8) Try.func110 (laws_heldSynPaperS.calls (cB HR0_1 HB) HC0_1.out A3.out) ?_;rintro e w' ⟨rfl,⟨nd,rfl⟩⟩;refine ⟨_,rfl,?_⟩))
  go_ret
  exact rZ (pS HB.out)
 ·rw [if_neg c4] at H;have c4b0:decide (t505<0)=false:=decide_eq_false c4;clear c4;obtain rfl:=Option.some.inj H
  go_enter Try.func46,Try.ntmps46
  go_wp2_with (first|((with_reducible refine gT 2 rfl ?_);refine bE 2 #[.int .i64 a0_0,.slice A0_1 l0_1.length c0_1] 52 ?_;intro gb504 hg w7 hbox hb;have BK504:=mA hbox;have GW504:=gbpB HB hg;have GE504:=gbpB HB hg;replace HB:=spB HB hb;clear hb hbox hg;obtain ⟨hcz8_0,hcz8_1,hfz8_0,hfz8_1⟩:=box2 BK504.out)|((with_reducible refine gT 8 rfl ?_);refine gC (some 8) Try.func110 (laws_heldSynPaperS.calls (cB HR0_1 HB) HC0_1.out A3.out) ?_;rintro e w' ⟨rfl,⟨nd,rfl⟩⟩;refine ⟨_,rfl,?_⟩))
  go_ret
  exact rZ (pS HB.out)
/-! ### laws_heldBlkPieceS: function 102 -/
def laws_heldBlkPieceS.l0 : Nat → List (S138) → Int → Int → Option (Int)
 | 0,_,_,_=>none
 | k+1,x0,x1,x5=>if x5<(x0.length:Int) then (if 0≤x5 then (if ((rd_T138 x0 x5).f0)=x1 then (if ((rd_T138 x0 x5).f1)=(wrap64 (x1+1)) then (if ((rd_T138 x0 x5).f2)=(wrap64 ((wrap64 (x1+1))+1)) then (if ((rd_T138 x0 x5).f3)=(wrap64 ((wrap64 ((wrap64 (x1+1))+1))+1)) then (laws_heldBlkPieceS.l0 k x0 (wrap64 ((wrap64 ((wrap64 ((wrap64 (x1+1))+1))+1))+1)) (wrap64 (x5+1))) else (some (-1))) else (some (-1))) else (some (-1))) else (some (-1))) else (none)) else (some x1)
def laws_heldBlkPieceS.f (k : Nat) (l0 : List (S138)) (a1 : Int) : Option (Int) := laws_heldBlkPieceS.l0 k l0 a1 0
set_option maxHeartbeats 8000000 in
set_option maxRecDepth 100000 in
theorem laws_heldBlkPieceS.calls {k : Nat} {A0 : Option Addr} {c0 : Nat} {l0 : List (S138)} {a1 r : Int} {w : World} (hr0 : Kd.C k138 w A0 l0.length l0) (hc0 : l0.length ≤ c0) (h : laws_heldBlkPieceS.f k l0 a1 = some r) :
  Calls Try.prog 102 #[.slice A0 l0.length c0,.int .i64 a1] w fun e w'=>e=.returned (.int .i64 r)∧Drawn0 w w':=by
 have HR0:=mA hr0;have HC0:=mA hc0;clear hr0 hc0;have H:(laws_heldBlkPieceS.l0 k l0 a1 0)=some r:=h;clear h;have H':=mA H;clear H
 go_enter Try.func102,Try.ntmps102
 go_wp2
 go_loopg [1,5] k (fun kq v1 v5 w'=>∃ (x1_1:Int) (x5_1:Int),v1=.int .i64 x1_1∧v5=.int .i64 x5_1∧Aside0 (laws_heldBlkPieceS.l0 kq l0 x1_1 x5_1=some r)∧Aside0 (kq≤k)∧Drawn0 w w')
 case atStart=>exact ⟨(a1),(0),bZ,bZ,H',⟨Nat.le_refl _⟩,by repeat (first|exact Drawn0.refl _|apply Drawn0.step)⟩
 case round =>
  clear H'
  obtain ⟨x1_1,x5_1,rfl,rfl,HA,HK1,⟨m1,rfl⟩⟩:=hrel
  cases gk with
  | zero=>exact absurd HA.out (by simp [laws_heldBlkPieceS.l0])
  | succ k1 =>
   have H:=HA.out;clear HA;simp only [laws_heldBlkPieceS.l0] at H
   by_cases c3:x5_1<(l0.length:Int)
   ·rw [if_pos c3] at H;have c3b0:decide (x5_1<(l0.length:Int))=true:=decide_eq_true c3;clear c3
    by_cases c4:0≤x5_1
    ·rw [if_pos c4] at H;have c4b0:decide (0≤x5_1)=true:=decide_eq_true c4;clear c4
     by_cases c5:((rd_T138 l0 x5_1).f0)=x1_1
     ·rw [if_pos c5] at H;obtain ⟨c5b0,c5b1⟩:=eqB c5;clear c5
      by_cases c6:((rd_T138 l0 x5_1).f1)=(wrap64 (x1_1+1))
      ·rw [if_pos c6] at H;obtain ⟨c6b0,c6b1⟩:=eqB c6;clear c6
       by_cases c7:((rd_T138 l0 x5_1).f2)=(wrap64 ((wrap64 (x1_1+1))+1))
       ·rw [if_pos c7] at H;obtain ⟨c7b0,c7b1⟩:=eqB c7;clear c7
        by_cases c8:((rd_T138 l0 x5_1).f3)=(wrap64 ((wrap64 ((wrap64 (x1_1+1))+1))+1))
        ·rw [if_pos c8] at H;obtain ⟨c8b0,c8b1⟩:=eqB c8;clear c8;have H':=mA H;clear H;have p506:0≤(x5_1:Int):=of_decide_eq_true bA;have q506:x5_1<(l0.length:Int):=of_decide_eq_true bA;obtain ⟨ad506,e506,hx506_0,hx506_1,hx506_2,hx506_3⟩:=at_T138 HR0.out x5_1 p506 q506;cases e506;replace p506:=eq_true p506;replace q506:=eq_true q506;go_wp2
         go_roundg k1
         case measure=>have:=HK1.out;omega
         case rel=>exact ⟨(wrap64 ((wrap64 ((wrap64 ((wrap64 (x1_1+1))+1))+1))+1)),(wrap64 (x5_1+1)),bZ,bZ,H',⟨by have:=HK1.out;omega⟩,by repeat (first|exact Drawn0.refl _|apply Drawn0.step)⟩
        ·rw [if_neg c8] at H;obtain ⟨c8b0,c8b1⟩:=neB c8;clear c8;obtain rfl:=Option.some.inj H;have p506:0≤(x5_1:Int):=of_decide_eq_true bA;have q506:x5_1<(l0.length:Int):=of_decide_eq_true bA;obtain ⟨ad506,e506,hx506_0,hx506_1,hx506_2,hx506_3⟩:=at_T138 HR0.out x5_1 p506 q506;cases e506;replace p506:=eq_true p506;replace q506:=eq_true q506;go_wp2
         go_ret
         exact ⟨by first|rfl|(simp;done)|(simp [*];done),by repeat (first|exact Drawn0.refl _|apply Drawn0.step)⟩
       ·rw [if_neg c7] at H;obtain ⟨c7b0,c7b1⟩:=neB c7;clear c7;obtain rfl:=Option.some.inj H;have p506:0≤(x5_1:Int):=of_decide_eq_true bA;have q506:x5_1<(l0.length:Int):=of_decide_eq_true bA;obtain ⟨ad506,e506,hx506_0,hx506_1,hx506_2,hx506_3⟩:=at_T138 HR0.out x5_1 p506 q506;cases e506;replace p506:=eq_true p506;replace q506:=eq_true q506;go_wp2
        go_ret
        exact ⟨by first|rfl|(simp;done)|(simp [*];done),by repeat (first|exact Drawn0.refl _|apply Drawn0.step)⟩
      ·rw [if_neg c6] at H;obtain ⟨c6b0,c6b1⟩:=neB c6;clear c6;obtain rfl:=Option.some.inj H;have p506:0≤(x5_1:Int):=of_decide_eq_true bA;have q506:x5_1<(l0.length:Int):=of_decide_eq_true bA;obtain ⟨ad506,e506,hx506_0,hx506_1,hx506_2,hx506_3⟩:=at_T138 HR0.out x5_1 p506 q506;cases e506;replace p506:=eq_true p506;replace q506:=eq_true q506;go_wp2
       go_ret
       exact ⟨by first|rfl|(simp;done)|(simp [*];done),by repeat (first|exact Drawn0.refl _|apply Drawn0.step)⟩
     ·rw [if_neg c5] at H;obtain ⟨c5b0,c5b1⟩:=neB c5;clear c5;obtain rfl:=Option.some.inj H;have p506:0≤(x5_1:Int):=of_decide_eq_true bA;have q506:x5_1<(l0.length:Int):=of_decide_eq_true bA;obtain ⟨ad506,e506,hx506_0,hx506_1,hx506_2,hx506_3⟩:=at_T138 HR0.out x5_1 p506 q506;cases e506;replace p506:=eq_true p506;replace q506:=eq_true q506
      go_wp2
      go_ret
      exact ⟨by first|rfl|(simp;done)|(simp [*];done),by repeat (first|exact Drawn0.refl _|apply Drawn0.step)⟩
    ·rw [if_neg c4] at H
     exact absurd H (by simp)
   ·rw [if_neg c3] at H;have c3b0:decide (x5_1<(l0.length:Int))=false:=decide_eq_false c3;clear c3;obtain rfl:=Option.some.inj H
    go_wp2
    go_ret
    exact ⟨by first|rfl|(simp;done)|(simp [*];done),by repeat (first|exact Drawn0.refl _|apply Drawn0.step)⟩
/-! ### laws_heldBlkLastS: function 103 -/
def laws_heldBlkLastS.l0 : Nat → List (S140) → Int → Int → Option (Int)
 | 0,_,_,_=>none
 | k+1,x0,x1,x5=>if x5<(x0.length:Int) then (if 0≤x5 then (if ((rd_T140 x0 x5).f0)=x1 then (if ((rd_T140 x0 x5).f1)=(wrap64 (x1+1)) then (laws_heldBlkLastS.l0 k x0 (wrap64 ((wrap64 (x1+1))+1)) (wrap64 (x5+1))) else (some (-1))) else (some (-1))) else (none)) else (some x1)
def laws_heldBlkLastS.f (k : Nat) (l0 : List (S140)) (a1 : Int) : Option (Int) := laws_heldBlkLastS.l0 k l0 a1 0
set_option maxHeartbeats 8000000 in
set_option maxRecDepth 100000 in
theorem laws_heldBlkLastS.calls {k : Nat} {A0 : Option Addr} {c0 : Nat} {l0 : List (S140)} {a1 r : Int} {w : World} (hr0 : Kd.C k140 w A0 l0.length l0) (hc0 : l0.length ≤ c0) (h : laws_heldBlkLastS.f k l0 a1 = some r) :
  Calls Try.prog 103 #[.slice A0 l0.length c0,.int .i64 a1] w fun e w'=>e=.returned (.int .i64 r)∧Drawn0 w w':=by
 have HR0:=mA hr0;have HC0:=mA hc0;clear hr0 hc0;have H:(laws_heldBlkLastS.l0 k l0 a1 0)=some r:=h;clear h;have H':=mA H;clear H
 go_enter Try.func103,Try.ntmps103
 go_wp2
 go_loopg [1,5] k (fun kq v1 v5 w'=>∃ (x1_1:Int) (x5_1:Int),v1=.int .i64 x1_1∧v5=.int .i64 x5_1∧Aside0 (laws_heldBlkLastS.l0 kq l0 x1_1 x5_1=some r)∧Aside0 (kq≤k)∧Drawn0 w w')
 case atStart=>exact ⟨(a1),(0),bZ,bZ,H',⟨Nat.le_refl _⟩,by repeat (first|exact Drawn0.refl _|apply Drawn0.step)⟩
 case round =>
  clear H'
  obtain ⟨x1_1,x5_1,rfl,rfl,HA,HK1,⟨m1,rfl⟩⟩:=hrel
  cases gk with
  | zero=>exact absurd HA.out (by simp [laws_heldBlkLastS.l0])
  | succ k1 =>
   have H:=HA.out;clear HA;simp only [laws_heldBlkLastS.l0] at H
   by_cases c3:x5_1<(l0.length:Int)
   ·rw [if_pos c3] at H;have c3b0:decide (x5_1<(l0.length:Int))=true:=decide_eq_true c3;clear c3
    by_cases c4:0≤x5_1
    ·rw [if_pos c4] at H;have c4b0:decide (0≤x5_1)=true:=decide_eq_true c4;clear c4
     by_cases c5:((rd_T140 l0 x5_1).f0)=x1_1
     ·rw [if_pos c5] at H;obtain ⟨c5b0,c5b1⟩:=eqB c5;clear c5
      by_cases c6:((rd_T140 l0 x5_1).f1)=(wrap64 (x1_1+1))
      ·rw [if_pos c6] at H;obtain ⟨c6b0,c6b1⟩:=eqB c6;clear c6;have H':=mA H;clear H;have p510:0≤(x5_1:Int):=of_decide_eq_true bA;have q510:x5_1<(l0.length:Int):=of_decide_eq_true bA;obtain ⟨ad510,e510,hx510_0,hx510_1⟩:=at_T140 HR0.out x5_1 p510 q510;cases e510;replace p510:=eq_true p510;replace q510:=eq_true q510;go_wp2
       go_roundg k1
       case measure=>have:=HK1.out;omega
       case rel=>exact ⟨(wrap64 ((wrap64 (x1_1+1))+1)),(wrap64 (x5_1+1)),bZ,bZ,H',⟨by have:=HK1.out;omega⟩,by repeat (first|exact Drawn0.refl _|apply Drawn0.step)⟩
      ·rw [if_neg c6] at H;obtain ⟨c6b0,c6b1⟩:=neB c6;clear c6;obtain rfl:=Option.some.inj H;have p510:0≤(x5_1:Int):=of_decide_eq_true bA;have q510:x5_1<(l0.length:Int):=of_decide_eq_true bA;obtain ⟨ad510,e510,hx510_0,hx510_1⟩:=at_T140 HR0.out x5_1 p510 q510;cases e510;replace p510:=eq_true p510;replace q510:=eq_true q510;go_wp2
       go_ret
       exact ⟨by first|rfl|(simp;done)|(simp [*];done),by repeat (first|exact Drawn0.refl _|apply Drawn0.step)⟩
     ·rw [if_neg c5] at H;obtain ⟨c5b0,c5b1⟩:=neB c5;clear c5;obtain rfl:=Option.some.inj H;have p510:0≤(x5_1:Int):=of_decide_eq_true bA;have q510:x5_1<(l0.length:Int):=of_decide_eq_true bA;obtain ⟨ad510,e510,hx510_0,hx510_1⟩:=at_T140 HR0.out x5_1 p510 q510;cases e510;replace p510:=eq_true p510;replace q510:=eq_true q510
      go_wp2
      go_ret
      exact ⟨by first|rfl|(simp;done)|(simp [*];done),by repeat (first|exact Drawn0.refl _|apply Drawn0.step)⟩
    ·rw [if_neg c4] at H
     exact absurd H (by simp)
   ·rw [if_neg c3] at H;have c3b0:decide (x5_1<(l0.length:Int))=false:=decide_eq_false c3;clear c3;obtain rfl:=Option.some.inj H
    go_wp2
    go_ret
    exact ⟨by first|rfl|(simp;done)|(simp [*];done),by repeat (first|exact Drawn0.refl _|apply Drawn0.step)⟩
/-! ### laws_heldWord: function 47 -/
def laws_heldWord.f (k : Nat) (a0_0 a0_1 a0_2 a0_3 a0_4 a0_5 a0_6 a0_7 a0_8 a0_9 a0_10 a0_11 a0_12 a0_13 a0_14 a0_15 a0_16 a0_17 a0_18 a0_19 a0_20 a0_21 a0_22 a0_23 : Int) (l0_24 : List (S138)) (l0_25 : List (S140)) (a1 : Int) : Option (Int) := (laws_heldBlkPieceS.f k l0_24 a1).bind fun t513 => (if t513 < 0 then (some (-1)) else ((laws_heldBlkLastS.f k l0_25 t513).bind fun t514 => (if t514 < 0 then (some (-1)) else (some t514))))
set_option maxHeartbeats 8000000 in
set_option maxRecDepth 100000 in
theorem laws_heldWord.calls {k : Nat} {a0_0 a0_1 a0_2 a0_3 a0_4 a0_5 a0_6 a0_7 a0_8 a0_9 a0_10 a0_11 a0_12 a0_13 a0_14 a0_15 a0_16 a0_17 a0_18 a0_19 a0_20 a0_21 a0_22 a0_23 : Int} {A0_24 : Option Addr} {c0_24 : Nat} {l0_24 : List (S138)} {A0_25 : Option Addr} {c0_25 : Nat} {l0_25 : List (S140)} {a1 r : Int} {w : World} (hr0_24 : Kd.C k138 w A0_24 l0_24.length l0_24) (hc0_24 : l0_24.length ≤ c0_24) (hr0_25 : Kd.C k140 w A0_25 l0_25.length l0_25) (hc0_25 : l0_25.length ≤ c0_25) (h : laws_heldWord.f k a0_0 a0_1 a0_2 a0_3 a0_4 a0_5 a0_6 a0_7 a0_8 a0_9 a0_10 a0_11 a0_12 a0_13 a0_14 a0_15 a0_16 a0_17 a0_18 a0_19 a0_20 a0_21 a0_22 a0_23 l0_24 l0_25 a1 = some r) :
  Calls Try.prog 47 #[.agg #[.int .i64 a0_0,.int .i64 a0_1,.int .i64 a0_2,.int .i64 a0_3,.int .i64 a0_4,.int .i64 a0_5,.int .i64 a0_6,.int .i64 a0_7,.int .i64 a0_8,.int .i64 a0_9,.int .i64 a0_10,.int .i64 a0_11,.int .i64 a0_12,.int .i64 a0_13,.int .i64 a0_14,.int .i64 a0_15,.int .i64 a0_16,.int .i64 a0_17,.int .i64 a0_18,.int .i64 a0_19,.int .i64 a0_20,.int .i64 a0_21,.int .i64 a0_22,.int .i64 a0_23,.slice A0_24 l0_24.length c0_24,.slice A0_25 l0_25.length c0_25],.int .i64 a1] w fun e w'=>e=.returned (.int .i64 r)∧Below w.heap.size w w':=by
 have hu28:=Try.underlying28;have HR0_24:=mA hr0_24;have HC0_24:=mA hc0_24;clear hr0_24 hc0_24;have HR0_25:=mA hr0_25;have HC0_25:=mA hc0_25;clear hr0_25 hc0_25;have HB:=mA (Below.refl w.heap.size w);have H:((laws_heldBlkPieceS.f k l0_24 a1).bind fun t513=>(if t513<0 then (some (-1)) else ((laws_heldBlkLastS.f k l0_25 t513).bind fun t514=>(if t514<0 then (some (-1)) else (some t514)))))=some r:=h;clear h;obtain ⟨t513,A3,H⟩:=bI H;(try dsimp only at H)
 by_cases c4:t513<0
 ·rw [if_pos c4] at H;have c4b0:decide (t513<0)=true:=decide_eq_true c4;clear c4;obtain rfl:=Option.some.inj H
  go_enter Try.func47,Try.ntmps47
  go_wp2_with (first|((with_reducible refine gLg rfl (by assumption) ?_);refine ldV ?_)|((with_reducible refine gSt rfl (by assumption) ?_);refine stV ?_)|((with_reducible refine gT 2 rfl ?_);refine bX 2 ?_;intro gb512 hg w5 hbox hb;have BK512:=mA hbox;have GW512:=gbpB HB hg;have GE512:=gbpB HB hg;replace HB:=spB HB hb;clear hb hbox hg;have hcz6_0:=fun i_=>blk_cell BK512.out i_;have hfz6_0:=fun i_=>blk_frozen BK512.out i_)|((with_reducible refine gT 8 rfl ?_);refine gC (some 8) Try.func102 (laws_heldBlkPieceS.calls (cB HR0_24 HB) HC0_24.out A3.out) ?_;rintro e w' ⟨rfl,⟨nd,rfl⟩⟩;refine ⟨_,rfl,?_⟩))
  go_ret
  exact rZ (pS HB.out)
 ·rw [if_neg c4] at H;have c4b0:decide (t513<0)=false:=decide_eq_false c4;clear c4;obtain ⟨t514,A7,H⟩:=bI H;(try dsimp only at H)
  by_cases c8:t514<0
  ·rw [if_pos c8] at H;have c8b0:decide (t514<0)=true:=decide_eq_true c8;clear c8;obtain rfl:=Option.some.inj H
   go_enter Try.func47,Try.ntmps47
   go_wp2_with (first|((with_reducible refine gLg rfl (by assumption) ?_);refine ldV ?_)|((with_reducible refine gSt rfl (by assumption) ?_);refine stV ?_)|((with_reducible refine gT 2 rfl ?_);refine bX 2 ?_;intro gb512 hg w9 hbox hb;have BK512:=mA hbox;have GW512:=gbpB HB hg;have GE512:=gbpB HB hg;replace HB:=spB HB hb;clear hb hbox hg;have hcz10_0:=fun i_=>blk_cell BK512.out i_;have hfz10_0:=fun i_=>blk_frozen BK512.out i_)|((with_reducible refine gT 8 rfl ?_);refine gC (some 8) Try.func102 (laws_heldBlkPieceS.calls (cB HR0_24 HB) HC0_24.out A3.out) ?_;rintro e w' ⟨rfl,⟨nd,rfl⟩⟩;refine ⟨_,rfl,?_⟩)|((with_reducible refine gT 14 rfl ?_);refine gC (some 14) Try.func103 (laws_heldBlkLastS.calls (pC (Kd.C_below HR0_25.out (pS HB.out))) HC0_25.out A7.out) ?_;rintro e w' ⟨rfl,⟨nd,rfl⟩⟩;refine ⟨_,rfl,?_⟩))
   go_ret
   exact rZ (pS HB.out)
  ·rw [if_neg c8] at H;have c8b0:decide (t514<0)=false:=decide_eq_false c8;clear c8;obtain rfl:=Option.some.inj H
   go_enter Try.func47,Try.ntmps47
   go_wp2_with (first|((with_reducible refine gLg rfl (by assumption) ?_);refine ldV ?_)|((with_reducible refine gSt rfl (by assumption) ?_);refine stV ?_)|((with_reducible refine gT 2 rfl ?_);refine bX 2 ?_;intro gb512 hg w11 hbox hb;have BK512:=mA hbox;have GW512:=gbpB HB hg;have GE512:=gbpB HB hg;replace HB:=spB HB hb;clear hb hbox hg;have hcz12_0:=fun i_=>blk_cell BK512.out i_;have hfz12_0:=fun i_=>blk_frozen BK512.out i_)|((with_reducible refine gT 8 rfl ?_);refine gC (some 8) Try.func102 (laws_heldBlkPieceS.calls (cB HR0_24 HB) HC0_24.out A3.out) ?_;rintro e w' ⟨rfl,⟨nd,rfl⟩⟩;refine ⟨_,rfl,?_⟩)|((with_reducible refine gT 14 rfl ?_);refine gC (some 14) Try.func103 (laws_heldBlkLastS.calls (pC (Kd.C_below HR0_25.out (pS HB.out))) HC0_25.out A7.out) ?_;rintro e w' ⟨rfl,⟨nd,rfl⟩⟩;refine ⟨_,rfl,?_⟩))
   go_ret
   exact rZ (pS HB.out)
/-! ### laws_FnExactSynVote: function 9 -/
def laws_FnExactSynVote.f (k : Nat) (a0_0 : Int) (l0_1 : List (S57)) (a1 a2_0 a2_1 a2_2 a2_3 a2_4 a2_5 a2_6 a2_7 a2_8 a2_9 a2_10 a2_11 a2_12 a2_13 a2_14 a2_15 a2_16 a2_17 a2_18 a2_19 a2_20 a2_21 a2_22 a2_23 : Int) (l2_24 : List (S146)) (l2_25 : List (S148)) : Option (Bool) := (laws_szSynVoter.f a0_0 l0_1 1048576).bind fun t517 => (if t517 < 0 then (some true) else ((laws_szWord.f a2_0 a2_1 a2_2 a2_3 a2_4 a2_5 a2_6 a2_7 a2_8 a2_9 a2_10 a2_11 a2_12 a2_13 a2_14 a2_15 a2_16 a2_17 a2_18 a2_19 a2_20 a2_21 a2_22 a2_23 l2_24 l2_25 t517).bind fun t518 => (if t518 < 0 then (some true) else ((laws_toSynVoter.f k a0_0 l0_1).bind fun bt519 => ((laws_toWord.f k a2_0 a2_1 a2_2 a2_3 a2_4 a2_5 a2_6 a2_7 a2_8 a2_9 a2_10 a2_11 a2_12 a2_13 a2_14 a2_15 a2_16 a2_17 a2_18 a2_19 a2_20 a2_21 a2_22 a2_23 l2_24 l2_25).bind fun bt523 => ((spec_SynVote.f k bt519.1 bt519.2 a1 bt523.1 bt523.2.1 bt523.2.2.1 bt523.2.2.2.1 bt523.2.2.2.2.1 bt523.2.2.2.2.2.1 bt523.2.2.2.2.2.2.1 bt523.2.2.2.2.2.2.2.1 bt523.2.2.2.2.2.2.2.2.1 bt523.2.2.2.2.2.2.2.2.2.1 bt523.2.2.2.2.2.2.2.2.2.2.1 bt523.2.2.2.2.2.2.2.2.2.2.2.1 bt523.2.2.2.2.2.2.2.2.2.2.2.2.1 bt523.2.2.2.2.2.2.2.2.2.2.2.2.2.1 bt523.2.2.2.2.2.2.2.2.2.2.2.2.2.2.1 bt523.2.2.2.2.2.2.2.2.2.2.2.2.2.2.2.1 bt523.2.2.2.2.2.2.2.2.2.2.2.2.2.2.2.2.1 bt523.2.2.2.2.2.2.2.2.2.2.2.2.2.2.2.2.2.1 bt523.2.2.2.2.2.2.2.2.2.2.2.2.2.2.2.2.2.2.1 bt523.2.2.2.2.2.2.2.2.2.2.2.2.2.2.2.2.2.2.2.1 bt523.2.2.2.2.2.2.2.2.2.2.2.2.2.2.2.2.2.2.2.2.1 bt523.2.2.2.2.2.2.2.2.2.2.2.2.2.2.2.2.2.2.2.2.2.1 bt523.2.2.2.2.2.2.2.2.2.2.2.2.2.2.2.2.2.2.2.2.2.2.1 bt523.2.2.2.2.2.2.2.2.2.2.2.2.2.2.2.2.2.2.2.2.2.2.2.1 bt523.2.2.2.2.2.2.2.2.2.2.2.2.2.2.2.2.2.2.2.2.2.2.2.2.1 bt523.2.2.2.2.2.2.2.2.2.2.2.2.2.2.2.2.2.2.2.2.2.2.2.2.2).bind fun bt553 => ((laws_toSynVoter.f k a0_0 l0_1).bind fun bt590 => ((laws_toWord.f k a2_0 a2_1 a2_2 a2_3 a2_4 a2_5 a2_6 a2_7 a2_8 a2_9 a2_10 a2_11 a2_12 a2_13 a2_14 a2_15 a2_16 a2_17 a2_18 a2_19 a2_20 a2_21 a2_22 a2_23 l2_24 l2_25).bind fun bt595 => ((impl_SynVote.f k bt590.1 bt590.2 a1 bt595.1 bt595.2.1 bt595.2.2.1 bt595.2.2.2.1 bt595.2.2.2.2.1 bt595.2.2.2.2.2.1 bt595.2.2.2.2.2.2.1 bt595.2.2.2.2.2.2.2.1 bt595.2.2.2.2.2.2.2.2.1 bt595.2.2.2.2.2.2.2.2.2.1 bt595.2.2.2.2.2.2.2.2.2.2.1 bt595.2.2.2.2.2.2.2.2.2.2.2.1 bt595.2.2.2.2.2.2.2.2.2.2.2.2.1 bt595.2.2.2.2.2.2.2.2.2.2.2.2.2.1 bt595.2.2.2.2.2.2.2.2.2.2.2.2.2.2.1 bt595.2.2.2.2.2.2.2.2.2.2.2.2.2.2.2.1 bt595.2.2.2.2.2.2.2.2.2.2.2.2.2.2.2.2.1 bt595.2.2.2.2.2.2.2.2.2.2.2.2.2.2.2.2.2.1 bt595.2.2.2.2.2.2.2.2.2.2.2.2.2.2.2.2.2.2.1 bt595.2.2.2.2.2.2.2.2.2.2.2.2.2.2.2.2.2.2.2.1 bt595.2.2.2.2.2.2.2.2.2.2.2.2.2.2.2.2.2.2.2.2.1 bt595.2.2.2.2.2.2.2.2.2.2.2.2.2.2.2.2.2.2.2.2.2.1 bt595.2.2.2.2.2.2.2.2.2.2.2.2.2.2.2.2.2.2.2.2.2.2.1 bt595.2.2.2.2.2.2.2.2.2.2.2.2.2.2.2.2.2.2.2.2.2.2.2.1 bt595.2.2.2.2.2.2.2.2.2.2.2.2.2.2.2.2.2.2.2.2.2.2.2.2.1 bt595.2.2.2.2.2.2.2.2.2.2.2.2.2.2.2.2.2.2.2.2.2.2.2.2.2).bind fun bt626 => ((laws_eqSynVoter.f k bt626.1 bt626.2.1 bt553.1 bt553.2.1).bind fun t663 => (if t663 = true then ((laws_eqWord.f k bt626.2.2.1 bt626.2.2.2.1 bt626.2.2.2.2.1 bt626.2.2.2.2.2.1 bt626.2.2.2.2.2.2.1 bt626.2.2.2.2.2.2.2.1 bt626.2.2.2.2.2.2.2.2.1 bt626.2.2.2.2.2.2.2.2.2.1 bt626.2.2.2.2.2.2.2.2.2.2.1 bt626.2.2.2.2.2.2.2.2.2.2.2.1 bt626.2.2.2.2.2.2.2.2.2.2.2.2.1 bt626.2.2.2.2.2.2.2.2.2.2.2.2.2.1 bt626.2.2.2.2.2.2.2.2.2.2.2.2.2.2.1 bt626.2.2.2.2.2.2.2.2.2.2.2.2.2.2.2.1 bt626.2.2.2.2.2.2.2.2.2.2.2.2.2.2.2.2.1 bt626.2.2.2.2.2.2.2.2.2.2.2.2.2.2.2.2.2.1 bt626.2.2.2.2.2.2.2.2.2.2.2.2.2.2.2.2.2.2.1 bt626.2.2.2.2.2.2.2.2.2.2.2.2.2.2.2.2.2.2.2.1 bt626.2.2.2.2.2.2.2.2.2.2.2.2.2.2.2.2.2.2.2.2.1 bt626.2.2.2.2.2.2.2.2.2.2.2.2.2.2.2.2.2.2.2.2.2.1 bt626.2.2.2.2.2.2.2.2.2.2.2.2.2.2.2.2.2.2.2.2.2.2.1 bt626.2.2.2.2.2.2.2.2.2.2.2.2.2.2.2.2.2.2.2.2.2.2.2.1 bt626.2.2.2.2.2.2.2.2.2.2.2.2.2.2.2.2.2.2.2.2.2.2.2.2.1 bt626.2.2.2.2.2.2.2.2.2.2.2.2.2.2.2.2.2.2.2.2.2.2.2.2.2.1 bt626.2.2.2.2.2.2.2.2.2.2.2.2.2.2.2.2.2.2.2.2.2.2.2.2.2.2.1 bt626.2.2.2.2.2.2.2.2.2.2.2.2.2.2.2.2.2.2.2.2.2.2.2.2.2.2.2.1 bt553.2.2.1 bt553.2.2.2.1 bt553.2.2.2.2.1 bt553.2.2.2.2.2.1 bt553.2.2.2.2.2.2.1 bt553.2.2.2.2.2.2.2.1 bt553.2.2.2.2.2.2.2.2.1 bt553.2.2.2.2.2.2.2.2.2.1 bt553.2.2.2.2.2.2.2.2.2.2.1 bt553.2.2.2.2.2.2.2.2.2.2.2.1 bt553.2.2.2.2.2.2.2.2.2.2.2.2.1 bt553.2.2.2.2.2.2.2.2.2.2.2.2.2.1 bt553.2.2.2.2.2.2.2.2.2.2.2.2.2.2.1 bt553.2.2.2.2.2.2.2.2.2.2.2.2.2.2.2.1 bt553.2.2.2.2.2.2.2.2.2.2.2.2.2.2.2.2.1 bt553.2.2.2.2.2.2.2.2.2.2.2.2.2.2.2.2.2.1 bt553.2.2.2.2.2.2.2.2.2.2.2.2.2.2.2.2.2.2.1 bt553.2.2.2.2.2.2.2.2.2.2.2.2.2.2.2.2.2.2.2.1 bt553.2.2.2.2.2.2.2.2.2.2.2.2.2.2.2.2.2.2.2.2.1 bt553.2.2.2.2.2.2.2.2.2.2.2.2.2.2.2.2.2.2.2.2.2.1 bt553.2.2.2.2.2.2.2.2.2.2.2.2.2.2.2.2.2.2.2.2.2.2.1 bt553.2.2.2.2.2.2.2.2.2.2.2.2.2.2.2.2.2.2.2.2.2.2.2.1 bt553.2.2.2.2.2.2.2.2.2.2.2.2.2.2.2.2.2.2.2.2.2.2.2.2.1 bt553.2.2.2.2.2.2.2.2.2.2.2.2.2.2.2.2.2.2.2.2.2.2.2.2.2.1 bt553.2.2.2.2.2.2.2.2.2.2.2.2.2.2.2.2.2.2.2.2.2.2.2.2.2.2.1 bt553.2.2.2.2.2.2.2.2.2.2.2.2.2.2.2.2.2.2.2.2.2.2.2.2.2.2.2.1).bind fun t664 => (if t664 = true then (if (bt626.2.2.2.2.2.2.2.2.2.2.2.2.2.2.2.2.2.2.2.2.2.2.2.2.2.2.2.2 != bt553.2.2.2.2.2.2.2.2.2.2.2.2.2.2.2.2.2.2.2.2.2.2.2.2.2.2.2.2) = true then (some false) else ((laws_toSynVoter.f k a0_0 l0_1).bind fun bt665 => ((laws_eqSynVoter.f k bt590.1 bt590.2 bt665.1 bt665.2).bind fun t669 => (if t669 = true then ((laws_toWord.f k a2_0 a2_1 a2_2 a2_3 a2_4 a2_5 a2_6 a2_7 a2_8 a2_9 a2_10 a2_11 a2_12 a2_13 a2_14 a2_15 a2_16 a2_17 a2_18 a2_19 a2_20 a2_21 a2_22 a2_23 l2_24 l2_25).bind fun bt670 => ((laws_eqWord.f k bt595.1 bt595.2.1 bt595.2.2.1 bt595.2.2.2.1 bt595.2.2.2.2.1 bt595.2.2.2.2.2.1 bt595.2.2.2.2.2.2.1 bt595.2.2.2.2.2.2.2.1 bt595.2.2.2.2.2.2.2.2.1 bt595.2.2.2.2.2.2.2.2.2.1 bt595.2.2.2.2.2.2.2.2.2.2.1 bt595.2.2.2.2.2.2.2.2.2.2.2.1 bt595.2.2.2.2.2.2.2.2.2.2.2.2.1 bt595.2.2.2.2.2.2.2.2.2.2.2.2.2.1 bt595.2.2.2.2.2.2.2.2.2.2.2.2.2.2.1 bt595.2.2.2.2.2.2.2.2.2.2.2.2.2.2.2.1 bt595.2.2.2.2.2.2.2.2.2.2.2.2.2.2.2.2.1 bt595.2.2.2.2.2.2.2.2.2.2.2.2.2.2.2.2.2.1 bt595.2.2.2.2.2.2.2.2.2.2.2.2.2.2.2.2.2.2.1 bt595.2.2.2.2.2.2.2.2.2.2.2.2.2.2.2.2.2.2.2.1 bt595.2.2.2.2.2.2.2.2.2.2.2.2.2.2.2.2.2.2.2.2.1 bt595.2.2.2.2.2.2.2.2.2.2.2.2.2.2.2.2.2.2.2.2.2.1 bt595.2.2.2.2.2.2.2.2.2.2.2.2.2.2.2.2.2.2.2.2.2.2.1 bt595.2.2.2.2.2.2.2.2.2.2.2.2.2.2.2.2.2.2.2.2.2.2.2.1 bt595.2.2.2.2.2.2.2.2.2.2.2.2.2.2.2.2.2.2.2.2.2.2.2.2.1 bt595.2.2.2.2.2.2.2.2.2.2.2.2.2.2.2.2.2.2.2.2.2.2.2.2.2 bt670.1 bt670.2.1 bt670.2.2.1 bt670.2.2.2.1 bt670.2.2.2.2.1 bt670.2.2.2.2.2.1 bt670.2.2.2.2.2.2.1 bt670.2.2.2.2.2.2.2.1 bt670.2.2.2.2.2.2.2.2.1 bt670.2.2.2.2.2.2.2.2.2.1 bt670.2.2.2.2.2.2.2.2.2.2.1 bt670.2.2.2.2.2.2.2.2.2.2.2.1 bt670.2.2.2.2.2.2.2.2.2.2.2.2.1 bt670.2.2.2.2.2.2.2.2.2.2.2.2.2.1 bt670.2.2.2.2.2.2.2.2.2.2.2.2.2.2.1 bt670.2.2.2.2.2.2.2.2.2.2.2.2.2.2.2.1 bt670.2.2.2.2.2.2.2.2.2.2.2.2.2.2.2.2.1 bt670.2.2.2.2.2.2.2.2.2.2.2.2.2.2.2.2.2.1 bt670.2.2.2.2.2.2.2.2.2.2.2.2.2.2.2.2.2.2.1 bt670.2.2.2.2.2.2.2.2.2.2.2.2.2.2.2.2.2.2.2.1 bt670.2.2.2.2.2.2.2.2.2.2.2.2.2.2.2.2.2.2.2.2.1 bt670.2.2.2.2.2.2.2.2.2.2.2.2.2.2.2.2.2.2.2.2.2.1 bt670.2.2.2.2.2.2.2.2.2.2.2.2.2.2.2.2.2.2.2.2.2.2.1 bt670.2.2.2.2.2.2.2.2.2.2.2.2.2.2.2.2.2.2.2.2.2.2.2.1 bt670.2.2.2.2.2.2.2.2.2.2.2.2.2.2.2.2.2.2.2.2.2.2.2.2.1 bt670.2.2.2.2.2.2.2.2.2.2.2.2.2.2.2.2.2.2.2.2.2.2.2.2.2).bind fun t700 => (if t700 = true then ((laws_markSynVoter.f k bt590.1 bt590.2 1).bind fun bt701 => ((laws_markWord.f k bt595.1 bt595.2.1 bt595.2.2.1 bt595.2.2.2.1 bt595.2.2.2.2.1 bt595.2.2.2.2.2.1 bt595.2.2.2.2.2.2.1 bt595.2.2.2.2.2.2.2.1 bt595.2.2.2.2.2.2.2.2.1 bt595.2.2.2.2.2.2.2.2.2.1 bt595.2.2.2.2.2.2.2.2.2.2.1 bt595.2.2.2.2.2.2.2.2.2.2.2.1 bt595.2.2.2.2.2.2.2.2.2.2.2.2.1 bt595.2.2.2.2.2.2.2.2.2.2.2.2.2.1 bt595.2.2.2.2.2.2.2.2.2.2.2.2.2.2.1 bt595.2.2.2.2.2.2.2.2.2.2.2.2.2.2.2.1 bt595.2.2.2.2.2.2.2.2.2.2.2.2.2.2.2.2.1 bt595.2.2.2.2.2.2.2.2.2.2.2.2.2.2.2.2.2.1 bt595.2.2.2.2.2.2.2.2.2.2.2.2.2.2.2.2.2.2.1 bt595.2.2.2.2.2.2.2.2.2.2.2.2.2.2.2.2.2.2.2.1 bt595.2.2.2.2.2.2.2.2.2.2.2.2.2.2.2.2.2.2.2.2.1 bt595.2.2.2.2.2.2.2.2.2.2.2.2.2.2.2.2.2.2.2.2.2.1 bt595.2.2.2.2.2.2.2.2.2.2.2.2.2.2.2.2.2.2.2.2.2.2.1 bt595.2.2.2.2.2.2.2.2.2.2.2.2.2.2.2.2.2.2.2.2.2.2.2.1 bt595.2.2.2.2.2.2.2.2.2.2.2.2.2.2.2.2.2.2.2.2.2.2.2.2.1 bt595.2.2.2.2.2.2.2.2.2.2.2.2.2.2.2.2.2.2.2.2.2.2.2.2.2 bt701.1).bind fun bt703 => (if bt703.1 < 0 then (some false) else ((laws_eqSynVoter.f k bt626.1 bt626.2.1 bt553.1 bt553.2.1).bind fun t706 => (if t706 = true then ((laws_eqWord.f k bt626.2.2.1 bt626.2.2.2.1 bt626.2.2.2.2.1 bt626.2.2.2.2.2.1 bt626.2.2.2.2.2.2.1 bt626.2.2.2.2.2.2.2.1 bt626.2.2.2.2.2.2.2.2.1 bt626.2.2.2.2.2.2.2.2.2.1 bt626.2.2.2.2.2.2.2.2.2.2.1 bt626.2.2.2.2.2.2.2.2.2.2.2.1 bt626.2.2.2.2.2.2.2.2.2.2.2.2.1 bt626.2.2.2.2.2.2.2.2.2.2.2.2.2.1 bt626.2.2.2.2.2.2.2.2.2.2.2.2.2.2.1 bt626.2.2.2.2.2.2.2.2.2.2.2.2.2.2.2.1 bt626.2.2.2.2.2.2.2.2.2.2.2.2.2.2.2.2.1 bt626.2.2.2.2.2.2.2.2.2.2.2.2.2.2.2.2.2.1 bt626.2.2.2.2.2.2.2.2.2.2.2.2.2.2.2.2.2.2.1 bt626.2.2.2.2.2.2.2.2.2.2.2.2.2.2.2.2.2.2.2.1 bt626.2.2.2.2.2.2.2.2.2.2.2.2.2.2.2.2.2.2.2.2.1 bt626.2.2.2.2.2.2.2.2.2.2.2.2.2.2.2.2.2.2.2.2.2.1 bt626.2.2.2.2.2.2.2.2.2.2.2.2.2.2.2.2.2.2.2.2.2.2.1 bt626.2.2.2.2.2.2.2.2.2.2.2.2.2.2.2.2.2.2.2.2.2.2.2.1 bt626.2.2.2.2.2.2.2.2.2.2.2.2.2.2.2.2.2.2.2.2.2.2.2.2.1 bt626.2.2.2.2.2.2.2.2.2.2.2.2.2.2.2.2.2.2.2.2.2.2.2.2.2.1 bt626.2.2.2.2.2.2.2.2.2.2.2.2.2.2.2.2.2.2.2.2.2.2.2.2.2.2.1 bt626.2.2.2.2.2.2.2.2.2.2.2.2.2.2.2.2.2.2.2.2.2.2.2.2.2.2.2.1 bt553.2.2.1 bt553.2.2.2.1 bt553.2.2.2.2.1 bt553.2.2.2.2.2.1 bt553.2.2.2.2.2.2.1 bt553.2.2.2.2.2.2.2.1 bt553.2.2.2.2.2.2.2.2.1 bt553.2.2.2.2.2.2.2.2.2.1 bt553.2.2.2.2.2.2.2.2.2.2.1 bt553.2.2.2.2.2.2.2.2.2.2.2.1 bt553.2.2.2.2.2.2.2.2.2.2.2.2.1 bt553.2.2.2.2.2.2.2.2.2.2.2.2.2.1 bt553.2.2.2.2.2.2.2.2.2.2.2.2.2.2.1 bt553.2.2.2.2.2.2.2.2.2.2.2.2.2.2.2.1 bt553.2.2.2.2.2.2.2.2.2.2.2.2.2.2.2.2.1 bt553.2.2.2.2.2.2.2.2.2.2.2.2.2.2.2.2.2.1 bt553.2.2.2.2.2.2.2.2.2.2.2.2.2.2.2.2.2.2.1 bt553.2.2.2.2.2.2.2.2.2.2.2.2.2.2.2.2.2.2.2.1 bt553.2.2.2.2.2.2.2.2.2.2.2.2.2.2.2.2.2.2.2.2.1 bt553.2.2.2.2.2.2.2.2.2.2.2.2.2.2.2.2.2.2.2.2.2.1 bt553.2.2.2.2.2.2.2.2.2.2.2.2.2.2.2.2.2.2.2.2.2.2.1 bt553.2.2.2.2.2.2.2.2.2.2.2.2.2.2.2.2.2.2.2.2.2.2.2.1 bt553.2.2.2.2.2.2.2.2.2.2.2.2.2.2.2.2.2.2.2.2.2.2.2.2.1 bt553.2.2.2.2.2.2.2.2.2.2.2.2.2.2.2.2.2.2.2.2.2.2.2.2.2.1 bt553.2.2.2.2.2.2.2.2.2.2.2.2.2.2.2.2.2.2.2.2.2.2.2.2.2.2.1 bt553.2.2.2.2.2.2.2.2.2.2.2.2.2.2.2.2.2.2.2.2.2.2.2.2.2.2.2.1).bind fun t707 => (if t707 = true then ((laws_markSynVoter.f k bt626.1 bt626.2.1 1).bind fun bt708 => ((laws_markWord.f k bt626.2.2.1 bt626.2.2.2.1 bt626.2.2.2.2.1 bt626.2.2.2.2.2.1 bt626.2.2.2.2.2.2.1 bt626.2.2.2.2.2.2.2.1 bt626.2.2.2.2.2.2.2.2.1 bt626.2.2.2.2.2.2.2.2.2.1 bt626.2.2.2.2.2.2.2.2.2.2.1 bt626.2.2.2.2.2.2.2.2.2.2.2.1 bt626.2.2.2.2.2.2.2.2.2.2.2.2.1 bt626.2.2.2.2.2.2.2.2.2.2.2.2.2.1 bt626.2.2.2.2.2.2.2.2.2.2.2.2.2.2.1 bt626.2.2.2.2.2.2.2.2.2.2.2.2.2.2.2.1 bt626.2.2.2.2.2.2.2.2.2.2.2.2.2.2.2.2.1 bt626.2.2.2.2.2.2.2.2.2.2.2.2.2.2.2.2.2.1 bt626.2.2.2.2.2.2.2.2.2.2.2.2.2.2.2.2.2.2.1 bt626.2.2.2.2.2.2.2.2.2.2.2.2.2.2.2.2.2.2.2.1 bt626.2.2.2.2.2.2.2.2.2.2.2.2.2.2.2.2.2.2.2.2.1 bt626.2.2.2.2.2.2.2.2.2.2.2.2.2.2.2.2.2.2.2.2.2.1 bt626.2.2.2.2.2.2.2.2.2.2.2.2.2.2.2.2.2.2.2.2.2.2.1 bt626.2.2.2.2.2.2.2.2.2.2.2.2.2.2.2.2.2.2.2.2.2.2.2.1 bt626.2.2.2.2.2.2.2.2.2.2.2.2.2.2.2.2.2.2.2.2.2.2.2.2.1 bt626.2.2.2.2.2.2.2.2.2.2.2.2.2.2.2.2.2.2.2.2.2.2.2.2.2.1 bt626.2.2.2.2.2.2.2.2.2.2.2.2.2.2.2.2.2.2.2.2.2.2.2.2.2.2.1 bt626.2.2.2.2.2.2.2.2.2.2.2.2.2.2.2.2.2.2.2.2.2.2.2.2.2.2.2.1 bt708.1).bind fun bt710 => ((laws_heldSynVoter.f k bt626.1 bt708.2 1).bind fun t713 => (if t713 < 0 then (some false) else ((laws_heldWord.f k bt626.2.2.1 bt626.2.2.2.1 bt626.2.2.2.2.1 bt626.2.2.2.2.2.1 bt626.2.2.2.2.2.2.1 bt626.2.2.2.2.2.2.2.1 bt626.2.2.2.2.2.2.2.2.1 bt626.2.2.2.2.2.2.2.2.2.1 bt626.2.2.2.2.2.2.2.2.2.2.1 bt626.2.2.2.2.2.2.2.2.2.2.2.1 bt626.2.2.2.2.2.2.2.2.2.2.2.2.1 bt626.2.2.2.2.2.2.2.2.2.2.2.2.2.1 bt626.2.2.2.2.2.2.2.2.2.2.2.2.2.2.1 bt626.2.2.2.2.2.2.2.2.2.2.2.2.2.2.2.1 bt626.2.2.2.2.2.2.2.2.2.2.2.2.2.2.2.2.1 bt626.2.2.2.2.2.2.2.2.2.2.2.2.2.2.2.2.2.1 bt626.2.2.2.2.2.2.2.2.2.2.2.2.2.2.2.2.2.2.1 bt626.2.2.2.2.2.2.2.2.2.2.2.2.2.2.2.2.2.2.2.1 bt626.2.2.2.2.2.2.2.2.2.2.2.2.2.2.2.2.2.2.2.2.1 bt626.2.2.2.2.2.2.2.2.2.2.2.2.2.2.2.2.2.2.2.2.2.1 bt626.2.2.2.2.2.2.2.2.2.2.2.2.2.2.2.2.2.2.2.2.2.2.1 bt626.2.2.2.2.2.2.2.2.2.2.2.2.2.2.2.2.2.2.2.2.2.2.2.1 bt626.2.2.2.2.2.2.2.2.2.2.2.2.2.2.2.2.2.2.2.2.2.2.2.2.1 bt626.2.2.2.2.2.2.2.2.2.2.2.2.2.2.2.2.2.2.2.2.2.2.2.2.2.1 bt710.2.1 bt710.2.2 t713).bind fun t714 => (if t714 < 0 then (some false) else (if t714 = bt710.1 then ((laws_toSynVoter.f k a0_0 l0_1).bind fun bt715 => ((laws_toWord.f k a2_0 a2_1 a2_2 a2_3 a2_4 a2_5 a2_6 a2_7 a2_8 a2_9 a2_10 a2_11 a2_12 a2_13 a2_14 a2_15 a2_16 a2_17 a2_18 a2_19 a2_20 a2_21 a2_22 a2_23 l2_24 l2_25).bind fun bt719 => ((impl_SynVote.f k bt715.1 bt715.2 a1 bt719.1 bt719.2.1 bt719.2.2.1 bt719.2.2.2.1 bt719.2.2.2.2.1 bt719.2.2.2.2.2.1 bt719.2.2.2.2.2.2.1 bt719.2.2.2.2.2.2.2.1 bt719.2.2.2.2.2.2.2.2.1 bt719.2.2.2.2.2.2.2.2.2.1 bt719.2.2.2.2.2.2.2.2.2.2.1 bt719.2.2.2.2.2.2.2.2.2.2.2.1 bt719.2.2.2.2.2.2.2.2.2.2.2.2.1 bt719.2.2.2.2.2.2.2.2.2.2.2.2.2.1 bt719.2.2.2.2.2.2.2.2.2.2.2.2.2.2.1 bt719.2.2.2.2.2.2.2.2.2.2.2.2.2.2.2.1 bt719.2.2.2.2.2.2.2.2.2.2.2.2.2.2.2.2.1 bt719.2.2.2.2.2.2.2.2.2.2.2.2.2.2.2.2.2.1 bt719.2.2.2.2.2.2.2.2.2.2.2.2.2.2.2.2.2.2.1 bt719.2.2.2.2.2.2.2.2.2.2.2.2.2.2.2.2.2.2.2.1 bt719.2.2.2.2.2.2.2.2.2.2.2.2.2.2.2.2.2.2.2.2.1 bt719.2.2.2.2.2.2.2.2.2.2.2.2.2.2.2.2.2.2.2.2.2.1 bt719.2.2.2.2.2.2.2.2.2.2.2.2.2.2.2.2.2.2.2.2.2.2.1 bt719.2.2.2.2.2.2.2.2.2.2.2.2.2.2.2.2.2.2.2.2.2.2.2.1 bt719.2.2.2.2.2.2.2.2.2.2.2.2.2.2.2.2.2.2.2.2.2.2.2.2.1 bt719.2.2.2.2.2.2.2.2.2.2.2.2.2.2.2.2.2.2.2.2.2.2.2.2.2).bind fun bt749 => ((laws_eqSynVoter.f k bt749.1 bt749.2.1 bt553.1 bt553.2.1).bind fun t786 => (if t786 = true then ((laws_eqWord.f k bt749.2.2.1 bt749.2.2.2.1 bt749.2.2.2.2.1 bt749.2.2.2.2.2.1 bt749.2.2.2.2.2.2.1 bt749.2.2.2.2.2.2.2.1 bt749.2.2.2.2.2.2.2.2.1 bt749.2.2.2.2.2.2.2.2.2.1 bt749.2.2.2.2.2.2.2.2.2.2.1 bt749.2.2.2.2.2.2.2.2.2.2.2.1 bt749.2.2.2.2.2.2.2.2.2.2.2.2.1 bt749.2.2.2.2.2.2.2.2.2.2.2.2.2.1 bt749.2.2.2.2.2.2.2.2.2.2.2.2.2.2.1 bt749.2.2.2.2.2.2.2.2.2.2.2.2.2.2.2.1 bt749.2.2.2.2.2.2.2.2.2.2.2.2.2.2.2.2.1 bt749.2.2.2.2.2.2.2.2.2.2.2.2.2.2.2.2.2.1 bt749.2.2.2.2.2.2.2.2.2.2.2.2.2.2.2.2.2.2.1 bt749.2.2.2.2.2.2.2.2.2.2.2.2.2.2.2.2.2.2.2.1 bt749.2.2.2.2.2.2.2.2.2.2.2.2.2.2.2.2.2.2.2.2.1 bt749.2.2.2.2.2.2.2.2.2.2.2.2.2.2.2.2.2.2.2.2.2.1 bt749.2.2.2.2.2.2.2.2.2.2.2.2.2.2.2.2.2.2.2.2.2.2.1 bt749.2.2.2.2.2.2.2.2.2.2.2.2.2.2.2.2.2.2.2.2.2.2.2.1 bt749.2.2.2.2.2.2.2.2.2.2.2.2.2.2.2.2.2.2.2.2.2.2.2.2.1 bt749.2.2.2.2.2.2.2.2.2.2.2.2.2.2.2.2.2.2.2.2.2.2.2.2.2.1 bt749.2.2.2.2.2.2.2.2.2.2.2.2.2.2.2.2.2.2.2.2.2.2.2.2.2.2.1 bt749.2.2.2.2.2.2.2.2.2.2.2.2.2.2.2.2.2.2.2.2.2.2.2.2.2.2.2.1 bt553.2.2.1 bt553.2.2.2.1 bt553.2.2.2.2.1 bt553.2.2.2.2.2.1 bt553.2.2.2.2.2.2.1 bt553.2.2.2.2.2.2.2.1 bt553.2.2.2.2.2.2.2.2.1 bt553.2.2.2.2.2.2.2.2.2.1 bt553.2.2.2.2.2.2.2.2.2.2.1 bt553.2.2.2.2.2.2.2.2.2.2.2.1 bt553.2.2.2.2.2.2.2.2.2.2.2.2.1 bt553.2.2.2.2.2.2.2.2.2.2.2.2.2.1 bt553.2.2.2.2.2.2.2.2.2.2.2.2.2.2.1 bt553.2.2.2.2.2.2.2.2.2.2.2.2.2.2.2.1 bt553.2.2.2.2.2.2.2.2.2.2.2.2.2.2.2.2.1 bt553.2.2.2.2.2.2.2.2.2.2.2.2.2.2.2.2.2.1 bt553.2.2.2.2.2.2.2.2.2.2.2.2.2.2.2.2.2.2.1 bt553.2.2.2.2.2.2.2.2.2.2.2.2.2.2.2.2.2.2.2.1 bt553.2.2.2.2.2.2.2.2.2.2.2.2.2.2.2.2.2.2.2.2.1 bt553.2.2.2.2.2.2.2.2.2.2.2.2.2.2.2.2.2.2.2.2.2.1 bt553.2.2.2.2.2.2.2.2.2.2.2.2.2.2.2.2.2.2.2.2.2.2.1 bt553.2.2.2.2.2.2.2.2.2.2.2.2.2.2.2.2.2.2.2.2.2.2.2.1 bt553.2.2.2.2.2.2.2.2.2.2.2.2.2.2.2.2.2.2.2.2.2.2.2.2.1 bt553.2.2.2.2.2.2.2.2.2.2.2.2.2.2.2.2.2.2.2.2.2.2.2.2.2.1 bt553.2.2.2.2.2.2.2.2.2.2.2.2.2.2.2.2.2.2.2.2.2.2.2.2.2.2.1 bt553.2.2.2.2.2.2.2.2.2.2.2.2.2.2.2.2.2.2.2.2.2.2.2.2.2.2.2.1).bind fun t787 => (if t787 = true then (if (bt749.2.2.2.2.2.2.2.2.2.2.2.2.2.2.2.2.2.2.2.2.2.2.2.2.2.2.2.2 != bt553.2.2.2.2.2.2.2.2.2.2.2.2.2.2.2.2.2.2.2.2.2.2.2.2.2.2.2.2) = true then (some false) else ((laws_heldSynVoter.f k bt626.1 bt708.2 1).bind fun t788 => (if t788 < 0 then (some false) else ((laws_heldWord.f k bt626.2.2.1 bt626.2.2.2.1 bt626.2.2.2.2.1 bt626.2.2.2.2.2.1 bt626.2.2.2.2.2.2.1 bt626.2.2.2.2.2.2.2.1 bt626.2.2.2.2.2.2.2.2.1 bt626.2.2.2.2.2.2.2.2.2.1 bt626.2.2.2.2.2.2.2.2.2.2.1 bt626.2.2.2.2.2.2.2.2.2.2.2.1 bt626.2.2.2.2.2.2.2.2.2.2.2.2.1 bt626.2.2.2.2.2.2.2.2.2.2.2.2.2.1 bt626.2.2.2.2.2.2.2.2.2.2.2.2.2.2.1 bt626.2.2.2.2.2.2.2.2.2.2.2.2.2.2.2.1 bt626.2.2.2.2.2.2.2.2.2.2.2.2.2.2.2.2.1 bt626.2.2.2.2.2.2.2.2.2.2.2.2.2.2.2.2.2.1 bt626.2.2.2.2.2.2.2.2.2.2.2.2.2.2.2.2.2.2.1 bt626.2.2.2.2.2.2.2.2.2.2.2.2.2.2.2.2.2.2.2.1 bt626.2.2.2.2.2.2.2.2.2.2.2.2.2.2.2.2.2.2.2.2.1 bt626.2.2.2.2.2.2.2.2.2.2.2.2.2.2.2.2.2.2.2.2.2.1 bt626.2.2.2.2.2.2.2.2.2.2.2.2.2.2.2.2.2.2.2.2.2.2.1 bt626.2.2.2.2.2.2.2.2.2.2.2.2.2.2.2.2.2.2.2.2.2.2.2.1 bt626.2.2.2.2.2.2.2.2.2.2.2.2.2.2.2.2.2.2.2.2.2.2.2.2.1 bt626.2.2.2.2.2.2.2.2.2.2.2.2.2.2.2.2.2.2.2.2.2.2.2.2.2.1 bt710.2.1 bt710.2.2 t788).bind fun t789 => (if t789 < 0 then (some false) else (if t789 = bt710.1 then (some true) else (some false))))))) else (some false))) else (some false)))))) else (some false)))))))) else (some false))) else (some false)))))) else (some false)))) else (some false))))) else (some false))) else (some false))))))))))))
def laws_FnExactSynVote.T8 : Bool × List (List Nat × List Nat) := (true, [([], []), ([0], [0]), ([], []), ([], []), ([3, 1], [3]), ([1, 2, 4, 4], [1, 2, 4]), ([5], [5]), ([6], [6]), ([6], [6]), ([6], [6]), ([], []), ([], []), ([10, 7, 5, 0, 1, 2, 3, 4, 5, 6, 7, 10, 11], [7, 10]), ([11, 8, 12, 0, 1, 2, 3, 4, 5, 6, 7, 8, 10, 11, 12], [8, 11]), ([9, 13, 0, 1, 2, 3, 4, 5, 6, 7, 8, 9, 10, 11, 12, 13], [9])])
def laws_FnExactSynVote.B8 : List Nat := [0, 1, 0, 0, 11, 31, 63, 127, 127, 127, 0, 0, 3327, 7679, 16383]
theorem laws_FnExactSynVote.tab8 : rtab .any (opsOf Try.f9 8) = laws_FnExactSynVote.T8 := by kernel_rfl
theorem laws_FnExactSynVote.bits8 : waitsOk laws_FnExactSynVote.T8.2 laws_FnExactSynVote.B8 = true := by kernel_rfl
def laws_FnExactSynVote.T35 : Bool × List (List Nat × List Nat) := (true, [([], []), ([0], [0]), ([], []), ([], []), ([3, 1], [3]), ([1, 2, 4, 4], [1, 2, 4]), ([5], [5]), ([6], [6]), ([6], [6]), ([6], [6]), ([], []), ([], []), ([10, 7, 5, 0, 1, 2, 3, 4, 5, 6, 7, 10, 11], [7, 10]), ([11, 8, 12, 0, 1, 2, 3, 4, 5, 6, 7, 8, 10, 11, 12], [8, 11]), ([9, 13, 0, 1, 2, 3, 4, 5, 6, 7, 8, 9, 10, 11, 12, 13], [9])])
def laws_FnExactSynVote.B35 : List Nat := [0, 1, 0, 0, 11, 31, 63, 127, 127, 127, 0, 0, 3327, 7679, 16383]
theorem laws_FnExactSynVote.tab35 : rtab .any (opsOf Try.f9 35) = laws_FnExactSynVote.T35 := by kernel_rfl
theorem laws_FnExactSynVote.bits35 : waitsOk laws_FnExactSynVote.T35.2 laws_FnExactSynVote.B35 = true := by kernel_rfl
end Go.Proofs.Ytoieojmfkkidnaa.P
