-- printed by pprint.py (this session's program over the kit's printer) out of the translation. Lean checks it.
import Derived.Test.YtncohokalilnbaaPx0
namespace Go.Proofs.Ytncohokalilnbaa.P
open Go.RowKit Go.Proofs.YtncohokalilnbaaX Go.Proofs.YtncohokalilnbaaW.PrintWords Go.Proofs.YtncohokalilnbaaW.PrintLast Go.Proofs.YtncohokalilnbaaW.PrintMore
attribute [local go_sem] max2_int min2_int max_two min_two max_three min_three max_four min_four   -- for this text's walks alone
set_option linter.unusedVariables false
set_option linter.unusedSimpArgs false

/-! ### laws_markSynPaperS: function 43 -/
def laws_markSynPaperS.l0 : Nat → List (S53) → Int → Int → Option (Int × (List (S53)))
 | 0,_,_,_=>none
 | k+1,x0,x1,x5=>if x5<(x0.length:Int) then (if 0≤x5 then (laws_markSynPaperS.l0 k (x0.set (x5:Int).toNat (⟨x1,(wrap64 (x1+1)),(⟨(wrap64 ((wrap64 (x1+1))+1)),(wrap64 ((wrap64 ((wrap64 (x1+1))+1))+1)),(wrap64 ((wrap64 ((wrap64 ((wrap64 (x1+1))+1))+1))+1)),(wrap64 ((wrap64 ((wrap64 ((wrap64 ((wrap64 (x1+1))+1))+1))+1))+1)),(wrap64 ((wrap64 ((wrap64 ((wrap64 ((wrap64 ((wrap64 (x1+1))+1))+1))+1))+1))+1)),(wrap64 ((wrap64 ((wrap64 ((wrap64 ((wrap64 ((wrap64 ((wrap64 (x1+1))+1))+1))+1))+1))+1))+1)),(wrap64 ((wrap64 ((wrap64 ((wrap64 ((wrap64 ((wrap64 ((wrap64 ((wrap64 (x1+1))+1))+1))+1))+1))+1))+1))+1)),(wrap64 ((wrap64 ((wrap64 ((wrap64 ((wrap64 ((wrap64 ((wrap64 ((wrap64 ((wrap64 (x1+1))+1))+1))+1))+1))+1))+1))+1))+1)),(wrap64 ((wrap64 ((wrap64 ((wrap64 ((wrap64 ((wrap64 ((wrap64 ((wrap64 ((wrap64 ((wrap64 (x1+1))+1))+1))+1))+1))+1))+1))+1))+1))+1)),(wrap64 ((wrap64 ((wrap64 ((wrap64 ((wrap64 ((wrap64 ((wrap64 ((wrap64 ((wrap64 ((wrap64 ((wrap64 (x1+1))+1))+1))+1))+1))+1))+1))+1))+1))+1))+1))⟩:S44)⟩:S53)) (wrap64 ((wrap64 ((wrap64 ((wrap64 ((wrap64 ((wrap64 ((wrap64 ((wrap64 ((wrap64 ((wrap64 ((wrap64 ((wrap64 (x1+1))+1))+1))+1))+1))+1))+1))+1))+1))+1))+1))+1)) (wrap64 (x5+1))) else (none)) else (some (x1,x0))
def laws_markSynPaperS.f (k : Nat) (l0 : List (S53)) (a1 : Int) : Option (Int × (List (S53))) := laws_markSynPaperS.l0 k l0 a1 0
theorem laws_markSynPaperS.mono_l : ∀ k, (∀ y0 y1 y2, LeO (laws_markSynPaperS.l0 k y0 y1 y2) (laws_markSynPaperS.l0 (k + 1) y0 y1 y2))
 | 0=>fun _ _ _ r h=>by simp [laws_markSynPaperS.l0] at h
 | k+1=>by
  have ih0:=laws_markSynPaperS.mono_l k
  ·intros
   unfold laws_markSynPaperS.l0
   repeat' first
   | (with_reducible first|apply ih0|exact LeO.refl _|exact LeO.none _|refine LeO.ite ?_ ?_|refine LeO.bind ?_ (fun _=>?_))|exact LeO.none _|refine LeO.ite ?_ ?_|refine LeO.bind ?_ (fun _=>?_)
theorem laws_markSynPaperS.mono : ∀ a0 a1 k, LeO (laws_markSynPaperS.f k a0 a1) (laws_markSynPaperS.f (k + 1) a0 a1) := by
 intro a0 a1 k;have ih0:=laws_markSynPaperS.mono_l k
 unfold laws_markSynPaperS.f
 repeat' first
   | (with_reducible first|apply ih0|exact LeO.refl _|exact LeO.none _|refine LeO.ite ?_ ?_|refine LeO.bind ?_ (fun _=>?_))|exact LeO.none _|refine LeO.ite ?_ ?_|refine LeO.bind ?_ (fun _=>?_)
set_option maxHeartbeats 8000000 in
set_option maxRecDepth 100000 in
theorem laws_markSynPaperS.calls (k : Nat) (P0_ : Nat → Prop) (u9000_ : Value) (l0 : List (S53)) (a1 r1 : Int) (r2 : List (S53)) (w0 w : World) (hB : Below w0.heap.size w0 w) (ho0 : Kd.R k53 53 w w0.heap.size P0_ u9000_ l0) (h : laws_markSynPaperS.f k l0 a1 = some (r1, r2)) :
  Calls Try.prog 43 #[u9000_,.int .i64 a1] w fun e w'=>e=.returned (.int .i64 r1)∧Kd.R k53 53 w' w0.heap.size (fun k_=>(P0_ k_ ∨ w.heap.size≤k_)) u9000_ r2∧Below w0.heap.size w0 w'∧Kept w w' (fun k_=>P0_ k_):=by
 have HO0:=mA (show Kd.R k53 53 w w0.heap.size (fun k_=>(P0_ k_ ∨ w.heap.size≤k_)) u9000_ l0 from Kd.R_mono ho0 (fun k_ hk=>(.inl hk)));have HK:=mA (Kept.refl w (fun k_=>P0_ k_));have HW0:=mA hB.size;have HB:=mA hB;clear hB;have H:(laws_markSynPaperS.l0 k l0 a1 0)=some (r1,r2):=h;clear h;have H':=mA H;clear H
 go_enter Try.func43,Try.ntmps43
 go_wp2
 go_loopg [1,5] k (fun kq v1 v5 w'=>∃ (x0_1:List (S53)) (x1_1:Int) (x5_1:Int),v1=.int .i64 x1_1∧v5=.int .i64 x5_1∧Aside0 (laws_markSynPaperS.l0 kq x0_1 x1_1 x5_1=some (r1,r2))∧Aside0 (kq≤k)∧Aside0 (Kd.R k53 53 w' w0.heap.size (fun k_=>(P0_ k_ ∨ w.heap.size≤k_)) u9000_ x0_1)∧Aside0 (Kept w w' (fun k_=>P0_ k_))∧Aside0 (Below w0.heap.size w0 w'))
 case atStart=>exact ⟨(l0),(a1),(0),bZ,bZ,H',⟨Nat.le_refl _⟩,⟨pR HO0.out⟩,⟨by repeat (first|(with_reducible first|exact HK.out|apply Kept.alloc|apply Kept.drewN|apply Kept.drew)|exact HK.out)⟩,⟨pB HB.out⟩⟩
 case round =>
  clear H'
  obtain ⟨x0_1,x1_1,x5_1,rfl,rfl,HA,HK1,HO_0,HK,HB⟩:=hrel
  cases gk with
  | zero=>exact absurd HA.out (by simp [laws_markSynPaperS.l0])
  | succ k1 =>
   have H:=HA.out;clear HA;simp only [laws_markSynPaperS.l0] at H
   by_cases c3:x5_1<(x0_1.length:Int)
   ·rw [if_pos c3] at H;have c3b0:decide (x5_1<(x0_1.length:Int))=true:=decide_eq_true c3;clear c3
    by_cases c4:0≤x5_1
    ·rw [if_pos c4] at H;have c4b0:decide (0≤x5_1)=true:=decide_eq_true c4;clear c4;have H':=mA H;clear H;obtain ⟨Ao17,co17,rfl⟩:=Kd.R_slice HO_0.out;have p5:0≤(x5_1:Int):=of_decide_eq_true bA;have q5:(x5_1:Int)<((x0_1.length:Int):Int):=of_decide_eq_true bA
     obtain ⟨go5,co5,eo5,gb5,gl5,cl5,HG5⟩:=Kd.R_form HO_0.out (by omega)
     (first|cases eo5|(injection eo5 with ea_ en_ ec_;(first|subst ea_|(injection ea_ with ea_;subst ea_));subst ec_;clear en_))
     have GB5:=mA gb5;have GG5:=mA HG5;clear gb5 gl5 HG5;have HMgo5:=mA (show (P0_ go5 ∨ w.heap.size≤go5) from (HO_0.out.1 _ rfl));have HO_0:=mA (stE0 (x5_1:Int) z53 HO_0.out q5 p5);replace p5:=eq_true p5;replace q5:=eq_true q5
     go_wp2_with (first|((with_reducible refine gate_store (t:=3) (p:=16) rfl ?_);refine stEl k53 z53 put53 12 12 put53_M (fun k_=>P0_ k_) (x5_1:Int) 0 HO_0 HB HK (fun _ h_=>h_) p5 q5 (p:=16) (h:=?_);intro w0_ hO_ hB_ hK_;replace HO_0:=mA hO_;replace HB:=mA hB_;replace HK:=mA hK_;clear hO_ hB_ hK_)|((with_reducible refine gate_store (t:=3) (p:=23) rfl ?_);refine stEl k53 z53 put53 12 12 put53_M (fun k_=>P0_ k_) (x5_1:Int) 1 HO_0 HB HK (fun _ h_=>h_) p5 q5 (p:=23) (h:=?_);intro w1_ hO_ hB_ hK_;replace HO_0:=mA hO_;replace HB:=mA hB_;replace HK:=mA hK_;clear hO_ hB_ hK_)|((with_reducible refine gate_store (t:=3) (p:=31) rfl ?_);refine stEl k53 z53 put53 12 12 put53_M (fun k_=>P0_ k_) (x5_1:Int) 2 HO_0 HB HK (fun _ h_=>h_) p5 q5 (p:=31) (h:=?_);intro w2_ hO_ hB_ hK_;replace HO_0:=mA hO_;replace HB:=mA hB_;replace HK:=mA hK_;clear hO_ hB_ hK_)|((with_reducible refine gate_store (t:=3) (p:=39) rfl ?_);refine stEl k53 z53 put53 12 12 put53_M (fun k_=>P0_ k_) (x5_1:Int) 3 HO_0 HB HK (fun _ h_=>h_) p5 q5 (p:=39) (h:=?_);intro w3_ hO_ hB_ hK_;replace HO_0:=mA hO_;replace HB:=mA hB_;replace HK:=mA hK_;clear hO_ hB_ hK_)|((with_reducible refine gate_store (t:=3) (p:=47) rfl ?_);refine stEl k53 z53 put53 12 12 put53_M (fun k_=>P0_ k_) (x5_1:Int) 4 HO_0 HB HK (fun _ h_=>h_) p5 q5 (p:=47) (h:=?_);intro w4_ hO_ hB_ hK_;replace HO_0:=mA hO_;replace HB:=mA hB_;replace HK:=mA hK_;clear hO_ hB_ hK_)|((with_reducible refine gate_store (t:=3) (p:=55) rfl ?_);refine stEl k53 z53 put53 12 12 put53_M (fun k_=>P0_ k_) (x5_1:Int) 5 HO_0 HB HK (fun _ h_=>h_) p5 q5 (p:=55) (h:=?_);intro w5_ hO_ hB_ hK_;replace HO_0:=mA hO_;replace HB:=mA hB_;replace HK:=mA hK_;clear hO_ hB_ hK_)|((with_reducible refine gate_store (t:=3) (p:=63) rfl ?_);refine stEl k53 z53 put53 12 12 put53_M (fun k_=>P0_ k_) (x5_1:Int) 6 HO_0 HB HK (fun _ h_=>h_) p5 q5 (p:=63) (h:=?_);intro w6_ hO_ hB_ hK_;replace HO_0:=mA hO_;replace HB:=mA hB_;replace HK:=mA hK_;clear hO_ hB_ hK_)|((with_reducible refine gate_store (t:=3) (p:=71) rfl ?_);refine stEl k53 z53 put53 12 12 put53_M (fun k_=>P0_ k_) (x5_1:Int) 7 HO_0 HB HK (fun _ h_=>h_) p5 q5 (p:=71) (h:=?_);intro w7_ hO_ hB_ hK_;replace HO_0:=mA hO_;replace HB:=mA hB_;replace HK:=mA hK_;clear hO_ hB_ hK_)|((with_reducible refine gate_store (t:=3) (p:=79) rfl ?_);refine stEl k53 z53 put53 12 12 put53_M (fun k_=>P0_ k_) (x5_1:Int) 8 HO_0 HB HK (fun _ h_=>h_) p5 q5 (p:=79) (h:=?_);intro w8_ hO_ hB_ hK_;replace HO_0:=mA hO_;replace HB:=mA hB_;replace HK:=mA hK_;clear hO_ hB_ hK_)|((with_reducible refine gate_store (t:=3) (p:=87) rfl ?_);refine stEl k53 z53 put53 12 12 put53_M (fun k_=>P0_ k_) (x5_1:Int) 9 HO_0 HB HK (fun _ h_=>h_) p5 q5 (p:=87) (h:=?_);intro w9_ hO_ hB_ hK_;replace HO_0:=mA hO_;replace HB:=mA hB_;replace HK:=mA hK_;clear hO_ hB_ hK_)|((with_reducible refine gate_store (t:=3) (p:=95) rfl ?_);refine stEl k53 z53 put53 12 12 put53_M (fun k_=>P0_ k_) (x5_1:Int) 10 HO_0 HB HK (fun _ h_=>h_) p5 q5 (p:=95) (h:=?_);intro w10_ hO_ hB_ hK_;replace HO_0:=mA hO_;replace HB:=mA hB_;replace HK:=mA hK_;clear hO_ hB_ hK_)|((with_reducible refine gate_store (t:=3) (p:=103) rfl ?_);refine stEl k53 z53 put53 12 12 put53_M (fun k_=>P0_ k_) (x5_1:Int) 11 HO_0 HB HK (fun _ h_=>h_) p5 q5 (p:=103) (h:=?_);intro w11_ hO_ hB_ hK_;replace HO_0:=mA hO_;replace HB:=mA hB_;replace HK:=mA hK_;clear hO_ hB_ hK_))
     replace HO_0:=mA (show Kd.R k53 53 _ w0.heap.size (fun k_=>(P0_ k_ ∨ w.heap.size≤k_)) _ (x0_1.set (x5_1:Int).toNat (⟨x1_1,(wrap64 (x1_1+1)),(⟨(wrap64 ((wrap64 (x1_1+1))+1)),(wrap64 ((wrap64 ((wrap64 (x1_1+1))+1))+1)),(wrap64 ((wrap64 ((wrap64 ((wrap64 (x1_1+1))+1))+1))+1)),(wrap64 ((wrap64 ((wrap64 ((wrap64 ((wrap64 (x1_1+1))+1))+1))+1))+1)),(wrap64 ((wrap64 ((wrap64 ((wrap64 ((wrap64 ((wrap64 (x1_1+1))+1))+1))+1))+1))+1)),(wrap64 ((wrap64 ((wrap64 ((wrap64 ((wrap64 ((wrap64 ((wrap64 (x1_1+1))+1))+1))+1))+1))+1))+1)),(wrap64 ((wrap64 ((wrap64 ((wrap64 ((wrap64 ((wrap64 ((wrap64 ((wrap64 (x1_1+1))+1))+1))+1))+1))+1))+1))+1)),(wrap64 ((wrap64 ((wrap64 ((wrap64 ((wrap64 ((wrap64 ((wrap64 ((wrap64 ((wrap64 (x1_1+1))+1))+1))+1))+1))+1))+1))+1))+1)),(wrap64 ((wrap64 ((wrap64 ((wrap64 ((wrap64 ((wrap64 ((wrap64 ((wrap64 ((wrap64 ((wrap64 (x1_1+1))+1))+1))+1))+1))+1))+1))+1))+1))+1)),(wrap64 ((wrap64 ((wrap64 ((wrap64 ((wrap64 ((wrap64 ((wrap64 ((wrap64 ((wrap64 ((wrap64 ((wrap64 (x1_1+1))+1))+1))+1))+1))+1))+1))+1))+1))+1))+1))⟩:S44)⟩:S53)) from HO_0.out)
     go_roundg k1
     case measure=>have:=HK1.out;omega
     case rel=>exact ⟨(x0_1.set (x5_1:Int).toNat (⟨x1_1,(wrap64 (x1_1+1)),(⟨(wrap64 ((wrap64 (x1_1+1))+1)),(wrap64 ((wrap64 ((wrap64 (x1_1+1))+1))+1)),(wrap64 ((wrap64 ((wrap64 ((wrap64 (x1_1+1))+1))+1))+1)),(wrap64 ((wrap64 ((wrap64 ((wrap64 ((wrap64 (x1_1+1))+1))+1))+1))+1)),(wrap64 ((wrap64 ((wrap64 ((wrap64 ((wrap64 ((wrap64 (x1_1+1))+1))+1))+1))+1))+1)),(wrap64 ((wrap64 ((wrap64 ((wrap64 ((wrap64 ((wrap64 ((wrap64 (x1_1+1))+1))+1))+1))+1))+1))+1)),(wrap64 ((wrap64 ((wrap64 ((wrap64 ((wrap64 ((wrap64 ((wrap64 ((wrap64 (x1_1+1))+1))+1))+1))+1))+1))+1))+1)),(wrap64 ((wrap64 ((wrap64 ((wrap64 ((wrap64 ((wrap64 ((wrap64 ((wrap64 ((wrap64 (x1_1+1))+1))+1))+1))+1))+1))+1))+1))+1)),(wrap64 ((wrap64 ((wrap64 ((wrap64 ((wrap64 ((wrap64 ((wrap64 ((wrap64 ((wrap64 ((wrap64 (x1_1+1))+1))+1))+1))+1))+1))+1))+1))+1))+1)),(wrap64 ((wrap64 ((wrap64 ((wrap64 ((wrap64 ((wrap64 ((wrap64 ((wrap64 ((wrap64 ((wrap64 ((wrap64 (x1_1+1))+1))+1))+1))+1))+1))+1))+1))+1))+1))+1))⟩:S44)⟩:S53)),(wrap64 ((wrap64 ((wrap64 ((wrap64 ((wrap64 ((wrap64 ((wrap64 ((wrap64 ((wrap64 ((wrap64 ((wrap64 ((wrap64 (x1_1+1))+1))+1))+1))+1))+1))+1))+1))+1))+1))+1))+1)),(wrap64 (x5_1+1)),bZ,bZ,H',⟨by have:=HK1.out;omega⟩,⟨pR HO_0.out⟩,⟨by repeat (first|(with_reducible first|exact HK.out|apply Kept.alloc|apply Kept.drewN|apply Kept.drew)|exact HK.out)⟩,⟨pB HB.out⟩⟩
    ·rw [if_neg c4] at H
     exact absurd H (by simp)
   ·rw [if_neg c3] at H;have c3b0:decide (x5_1<(x0_1.length:Int))=false:=decide_eq_false c3;clear c3;simp only [Option.some.injEq,Prod.mk.injEq] at H;obtain ⟨rfl,rfl⟩:=H;obtain ⟨Ao42,co42,rfl⟩:=Kd.R_slice HO_0.out
    go_wp2
    go_ret
    exact ⟨by first|rfl|(simp [errW_none,errW_some]<;>rfl)|(simp [*,errW_none,errW_some]<;>rfl),pR HO_0.out,pB HB.out,by repeat (first|(with_reducible first|exact HK.out|apply Kept.alloc|apply Kept.drewN|apply Kept.drew)|exact HK.out)⟩

/-! ### laws_markSynVoterS: function 39 -/
def laws_markSynVoterS.l0 : Nat → List (S84) → Int → Int → Option (Int × (List (S84)))
 | 0,_,_,_=>none
 | k+1,x0,x1,x5=>if x5<(x0.length:Int) then (if 0≤x5 then ((laws_markSynPaperS.f k ([]:List (S53)) (wrap64 (x1+1))).bind fun bt184=>(laws_markSynVoterS.l0 k (x0.set (x5:Int).toNat (⟨x1,(rd_T84 x0 x5).f1⟩:S84)) bt184.1 (wrap64 (x5+1)))) else (none)) else (some (x1,x0))
def laws_markSynVoterS.f (k : Nat) (l0 : List (S84)) (a1 : Int) : Option (Int × (List (S84))) := laws_markSynVoterS.l0 k l0 a1 0
theorem laws_markSynVoterS.mono_l : ∀ k, (∀ y0 y1 y2, LeO (laws_markSynVoterS.l0 k y0 y1 y2) (laws_markSynVoterS.l0 (k + 1) y0 y1 y2))
 | 0=>fun _ _ _ r h=>by simp [laws_markSynVoterS.l0] at h
 | k+1=>by
  have ih0:=laws_markSynVoterS.mono_l k
  ·intros
   unfold laws_markSynVoterS.l0
   repeat' first
   | (with_reducible first|apply ih0|apply laws_markSynPaperS.mono|exact LeO.refl _|exact LeO.none _|refine LeO.ite ?_ ?_|refine LeO.bind ?_ (fun _=>?_))|exact LeO.none _|refine LeO.ite ?_ ?_|refine LeO.bind ?_ (fun _=>?_)
theorem laws_markSynVoterS.mono : ∀ a0 a1 k, LeO (laws_markSynVoterS.f k a0 a1) (laws_markSynVoterS.f (k + 1) a0 a1) := by
 intro a0 a1 k;have ih0:=laws_markSynVoterS.mono_l k
 unfold laws_markSynVoterS.f
 repeat' first
   | (with_reducible first|apply ih0|apply laws_markSynPaperS.mono|exact LeO.refl _|exact LeO.none _|refine LeO.ite ?_ ?_|refine LeO.bind ?_ (fun _=>?_))|exact LeO.none _|refine LeO.ite ?_ ?_|refine LeO.bind ?_ (fun _=>?_)
set_option maxHeartbeats 8000000 in
set_option maxRecDepth 100000 in
theorem laws_markSynVoterS.calls (k : Nat) (P0_ : Nat → Prop) (u9000_ : Value) (l0 : List (S84)) (a1 r1 : Int) (r2 : List (S84)) (w0 w : World) (hB : Below w0.heap.size w0 w) (ho0 : Kd.R k84 84 w w0.heap.size P0_ u9000_ l0) (h : laws_markSynVoterS.f k l0 a1 = some (r1, r2)) :
  Calls Try.prog 39 #[u9000_,.int .i64 a1] w fun e w'=>e=.returned (.int .i64 r1)∧Kd.R k84 84 w' w0.heap.size (fun k_=>(P0_ k_ ∨ w.heap.size≤k_)) u9000_ r2∧Below w0.heap.size w0 w'∧Kept w w' (fun k_=>P0_ k_):=by
 have HO0:=mA (show Kd.R k84 84 w w0.heap.size (fun k_=>(P0_ k_ ∨ w.heap.size≤k_)) u9000_ l0 from Kd.R_mono ho0 (fun k_ hk=>(.inl hk)));have HK:=mA (Kept.refl w (fun k_=>P0_ k_));have HW0:=mA hB.size;have HB:=mA hB;clear hB;have H:(laws_markSynVoterS.l0 k l0 a1 0)=some (r1,r2):=h;clear h;have H':=mA H;clear H
 go_enter Try.func39,Try.ntmps39
 go_wp2
 go_loopg [1,5] k (fun kq v1 v5 w'=>∃ (x0_1:List (S84)) (x1_1:Int) (x5_1:Int),v1=.int .i64 x1_1∧v5=.int .i64 x5_1∧Aside0 (laws_markSynVoterS.l0 kq x0_1 x1_1 x5_1=some (r1,r2))∧Aside0 (kq≤k)∧Aside0 (Kd.R k84 84 w' w0.heap.size (fun k_=>(P0_ k_ ∨ w.heap.size≤k_)) u9000_ x0_1)∧Aside0 (Kept w w' (fun k_=>P0_ k_))∧Aside0 (Below w0.heap.size w0 w'))
 case atStart=>exact ⟨(l0),(a1),(0),bZ,bZ,H',⟨Nat.le_refl _⟩,⟨pR HO0.out⟩,⟨by repeat (first|(with_reducible first|exact HK.out|apply Kept.alloc|apply Kept.drewN|apply Kept.drew)|exact HK.out)⟩,⟨pB HB.out⟩⟩
 case round =>
  clear H'
  obtain ⟨x0_1,x1_1,x5_1,rfl,rfl,HA,HK1,HO_0,HK,HB⟩:=hrel
  cases gk with
  | zero=>exact absurd HA.out (by simp [laws_markSynVoterS.l0])
  | succ k1 =>
   have H:=HA.out;clear HA;simp only [laws_markSynVoterS.l0] at H
   by_cases c3:x5_1<(x0_1.length:Int)
   ·rw [if_pos c3] at H;have c3b0:decide (x5_1<(x0_1.length:Int))=true:=decide_eq_true c3;clear c3
    by_cases c4:0≤x5_1
    ·rw [if_pos c4] at H;have c4b0:decide (0≤x5_1)=true:=decide_eq_true c4;clear c4;obtain ⟨y182,hy182⟩:∃ y_:List (S84),y_=(x0_1.set (x5_1:Int).toNat (⟨x1_1,(rd_T84 x0_1 x5_1).f1⟩:S84)):=⟨_,rfl⟩
     replace H:((laws_markSynPaperS.f k1 ([]:List (S53)) (wrap64 (x1_1+1))).bind fun bt184=>(laws_markSynVoterS.l0 k1 y182 bt184.1 (wrap64 (x5_1+1))))=some (r1,r2):=qH hy182 H
     have Ny182:=mA hy182;clear hy182;obtain ⟨⟨t184,t185⟩,A6,H⟩:=bI H;(try dsimp only at H);have H':=mA H;clear H;obtain ⟨Ao7,co7,rfl⟩:=Kd.R_slice HO_0.out;have p5:0≤(x5_1:Int):=of_decide_eq_true bA;have q5:(x5_1:Int)<((x0_1.length:Int):Int):=of_decide_eq_true bA
     obtain ⟨go5,co5,eo5,gb5,gl5,cl5,HG5⟩:=Kd.R_form HO_0.out (by omega)
     (first|cases eo5|(injection eo5 with ea_ en_ ec_;(first|subst ea_|(injection ea_ with ea_;subst ea_));subst ec_;clear en_))
     have GB5:=mA gb5;have GG5:=mA HG5;clear gb5 gl5 HG5;have HMgo5:=mA (show (P0_ go5 ∨ w.heap.size≤go5) from (HO_0.out.1 _ rfl));obtain ⟨ce5,hcl5,hM5,hcc5,hfr5⟩:=Kd.R_elem HO_0.out z84 (x5_1:Int) p5 q5;obtain rfl:=k84_openM hM5;have hx5_0:wr.cell? ⟨go5,(x5_1:Int).toNat * 2,none⟩=some (.int .i64 ((rd_T84 x0_1 x5_1).f0)):=hcc5 0 _ rfl;have hx5_1:wr.cell? ⟨go5,(x5_1:Int).toNat * 2+1,none⟩=some (.slice none 0 0):=hcc5 1 _ rfl;have hf5_0:wr.frozen? ⟨go5,(x5_1:Int).toNat * 2,none⟩=false:=hfr5 0;have hf5_1:wr.frozen? ⟨go5,(x5_1:Int).toNat * 2+1,none⟩=false:=hfr5 1;clear hcl5 hcc5 hfr5 hM5;replace p5:=eq_true p5;replace q5:=eq_true q5;have HX8:=mA (show Kd.R k84 84 wr w0.heap.size (fun k_=>(P0_ k_ ∨ w.heap.size≤k_)) (.slice (some ⟨go5,0,none⟩) x0_1.length co7) x0_1 from (pR HO_0.out))
     obtain ⟨ce8,hcl8,hM8,hcc8,hfr8⟩:=Kd.R_elem HX8.out z84 (x5_1:Int) (of_decide_eq_true bA) (by have h_:(x5_1:Int)<((x0_1.length:Int):Int):=of_decide_eq_true bA;first|exact h_|(have e_:=(Kd.R_reads' HO_0.out).1;omega)|simpa using h_)
     obtain rfl:=k84_openM hM8
     have HP8:=Kd.R_seg HX8.out (x5_1:Int) (of_decide_eq_true bA) (by have h_:(x5_1:Int)<((x0_1.length:Int):Int):=of_decide_eq_true bA;first|exact h_|(have e_:=(Kd.R_reads' HO_0.out).1;omega)|simpa using h_) (seg:=[.int .i64 x1_1]) (j:=0) hcl8 hcc8 (show 1≤2 from by decide) (x':=(⟨x1_1,(rd_T84 x0_1 x5_1).f1⟩:S84)) (k84_mkM _ _ _ (⟨x1_1,(rd_T84 x0_1 x5_1).f1⟩:S84) ) (fun _ hk=>hk)
     have hx8_0:=hcc8 0 _ rfl
     (try simp only [show (k84).sz=2 from rfl,Nat.mul_one,Nat.add_zero] at hx8_0)
     have hf8_0:=hfr8 0
     (try simp only [show (k84).sz=2 from rfl,Nat.mul_one,Nat.add_zero] at hf8_0)
     clear hcl8 hcc8 hfr8 hM8
     go_wp2_with (first|((with_reducible refine gate_store (t:=3) (p:=16) rfl ?_);refine store_event (t:=3) (p:=16) (v:=?vo_w9) (w1:=(wr.setCell ⟨go5,(x5_1:Int).toNat * 2,none⟩ (.int .i64 x1_1))) ?hg ?ho ?hn ?hr ?_;(case ho=>rfl);(case hg=>rfl);(case hn=>rfl);(case hr=>first|(go_simp;done)|(go_simp;rfl));intro w9 hw;have hg:wr.grownBy w9 (some go5):=(by rw [hw];exact HP8.2);have hp_:Kd.R k84 84 w9 w0.heap.size (fun k_=>(P0_ k_ ∨ w.heap.size≤k_)) (.slice (some ⟨go5,0,none⟩) x0_1.length co7) y182:=(by rw [hw,Ny182.out];exact HP8.1);clear HP8;replace HB:=mA (by rw [hw];exact below_set (HB.out) GB5.out:Below w0.heap.size w0 w9);replace HK:=mA (Kept.of_grown (S:=(fun k_=>P0_ k_)) hg (by repeat (first|(with_reducible first|exact HK.out|apply Kept.alloc|apply Kept.drewN|apply Kept.drew)|exact HK.out)) (fun k_ e_=>(HO_0.out.1 k_ e_)));replace HO_0:=mA hp_;clear hg hw hp_;have p183:0≤(x5_1:Int):=of_decide_eq_true bA;have q183:x5_1<(y182.length:Int):=(by have h_:(x5_1:Int)<((x0_1.length:Int):Int):=of_decide_eq_true bA;first|(have e_:=(Kd.R_reads' HO_0.out).1;omega)|simpa only [Ny182.out,List.length_set] using h_);have ql183:((x5_1:Int)<((x0_1.length:Int):Int))=True:=eq_true (of_decide_eq_true bA);obtain ⟨ad183,e183,hx183_0,hx183_1⟩:=at_T84 (Kd.R_reads' HO_0.out).2.2 x5_1 p183 q183;obtain rfl:(⟨go5,0,none⟩:Addr)=ad183:=(by injection e183);(first|simp only [add_plain] at hx183_0|simp only [add_at] at hx183_0|simp only [Addr.add,Nat.zero_add] at hx183_0|skip);(first|simp only [add_plain] at hx183_1|simp only [add_at] at hx183_1|simp only [Addr.add,Nat.zero_add] at hx183_1|skip);replace p183:=eq_true p183;replace q183:=eq_true q183)|(refine gL (some 25) Try.func43 #[.slice none 0 0,.int .i64 (wrap64 (x1_1+1))] ?_;(refine (laws_markSynPaperS.calls k1 (fun k_=>some k_=(.slice none 0 0:Value).ownBlock) (.slice none 0 0) ([]:List (S53)) (wrap64 (x1_1+1)) t184 t185 w0 _ ?s1 ?s2 A6.out).mono ?_);(case s1=>repeat (first|(with_reducible first|exact HB.out|apply below_alloc|apply pw_below_drewN|apply below_drew1)|exact HB.out));(case s2=>exact Kd.R_nil _ _ _ _ _);rintro e w10 ⟨rfl,hy0,hb,hkp⟩;refine ⟨_,rfl,?_⟩;replace HO_0:=mA (Kd.R_mono (ok':=fun k_=>(P0_ k_ ∨ w.heap.size≤k_)) (Kd.R_keptB (HO_0.out) hkp (fun k_ hk_ hs_=>(fun e_=>by simp [Value.ownBlock] at e_) hs_)) (fun k_ hk_=>hk_.1));replace HK:=mA (Kept.then_ (S:=(fun k_=>P0_ k_)) (by repeat (first|(with_reducible first|exact HK.out|apply Kept.alloc|apply Kept.drewN|apply Kept.drew)|exact HK.out)) hkp (fun k_ hs_=>(fun e_=>by simp [Value.ownBlock] at e_) hs_));replace HB:=mA hb;(try clear hb);(try clear hkp);(try clear hy0)))
     go_roundg k1
     case measure=>have:=HK1.out;omega
     case rel=>exact ⟨(y182),(t184),(wrap64 (x5_1+1)),bZ,bZ,H',⟨by have:=HK1.out;omega⟩,⟨pR HO_0.out⟩,⟨by repeat (first|(with_reducible first|exact HK.out|apply Kept.alloc|apply Kept.drewN|apply Kept.drew)|exact HK.out)⟩,⟨pB HB.out⟩⟩
    ·rw [if_neg c4] at H
     exact absurd H (by simp)
   ·rw [if_neg c3] at H;have c3b0:decide (x5_1<(x0_1.length:Int))=false:=decide_eq_false c3;clear c3;simp only [Option.some.injEq,Prod.mk.injEq] at H;obtain ⟨rfl,rfl⟩:=H;obtain ⟨Ao11,co11,rfl⟩:=Kd.R_slice HO_0.out
    go_wp2
    go_ret
    exact ⟨by first|rfl|(simp [errW_none,errW_some]<;>rfl)|(simp [*,errW_none,errW_some]<;>rfl),pR HO_0.out,pB HB.out,by repeat (first|(with_reducible first|exact HK.out|apply Kept.alloc|apply Kept.drewN|apply Kept.drew)|exact HK.out)⟩

end Go.Proofs.Ytncohokalilnbaa.P
