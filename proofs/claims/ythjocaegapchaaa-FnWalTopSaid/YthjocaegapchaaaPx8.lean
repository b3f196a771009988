-- printed by pprint.py (this session's program over the kit's printer) out of the translation. Lean checks it.
import Derived.Test.YthjocaegapchaaaPx0
import Derived.Test.YthjocaegapchaaaPx2
import Derived.Test.YthjocaegapchaaaPx7
namespace Go.Proofs.Ythjocaegapchaaa.P
open Go.RowKit Go.Proofs.YthjocaegapchaaaX Go.Proofs.YthjocaegapchaaaW.PrintWords Go.Proofs.YthjocaegapchaaaW.PrintLast Go.Proofs.YthjocaegapchaaaW.PrintMore
attribute [local go_sem] max2_int min2_int max_two min_two max_three min_three max_four min_four   -- for this text's walks alone
set_option linter.unusedVariables false
set_option linter.unusedSimpArgs false

/-! ### impl_WalDo: function 30 -/
mutual
def impl_WalDo.j0 : Nat → List (S61) → Bool → Int → List Int → Bool → List ByteArray → List (S75) → Option (List ByteArray × (List (S75)))
 | 0,_,_,_,_,_,_,_=>none
 | k+1,x1,x2,x3,x4,x21,x958000,x958001=>if x21=true then (some (([]:List ByteArray),([]:List (S75)))) else ((impl_secCopy.f x958000 x958001).bind fun bt960=>(impl_WalDo.l0 k x2 x3 x4 x1 (x1.length:Int) 0 bt960.1 bt960.2))
def impl_WalDo.l0 : Nat → Bool → Int → List Int → List (S61) → Int → Int → List ByteArray → List (S75) → Option (List ByteArray × (List (S75)))
 | 0,_,_,_,_,_,_,_,_=>none
 | k+1,x2,x3,x4,x25,x26,x27,x967000,x967001=>if x27<x26 then (if 0≤x27 then (if x27<(x25.length:Int) then (if x2=true then (impl_WalDo.j2 k x2 x3 x4 x25 x26 x27 (decide (x27 ≥ x3)) x967000 x967001 ((rd_T61 x25 x27).f0) ((rd_T61 x25 x27).f1) ((rd_T61 x25 x27).f2)) else (impl_WalDo.j2 k x2 x3 x4 x25 x26 x27 false x967000 x967001 ((rd_T61 x25 x27).f0) ((rd_T61 x25 x27).f1) ((rd_T61 x25 x27).f2))) else (none)) else (none)) else (if x2=true then ((impl_SecCut.f k x967000 x967001 x4).bind fun bt967=>(some (bt967.1,bt967.2))) else (some (x967000,x967001)))
def impl_WalDo.j2 : Nat → Bool → Int → List Int → List (S61) → Int → Int → Bool → List ByteArray → List (S75) → Bool → Int → ByteArray → Option (List ByteArray × (List (S75)))
 | 0,_,_,_,_,_,_,_,_,_,_,_,_=>none
 | k+1,x2,x3,x4,x25,x26,x27,x37,x967000,x967001,x975000,x975001,x975002=>if x37=true then (if x2=true then ((impl_SecCut.f k x967000 x967001 x4).bind fun bt975=>(some (bt975.1,bt975.2))) else (some (x967000,x967001))) else (if x975000=true then ((impl_SecFlush.f k x967000 x967001).bind fun bt981=>(impl_WalDo.l0 k x2 x3 x4 x25 x26 (wrap64 (x27+1)) bt981.1 bt981.2)) else ((impl_SecPut.f k x967000 x967001 x975001 x975002).bind fun bt987=>(impl_WalDo.l0 k x2 x3 x4 x25 x26 (wrap64 (x27+1)) bt987.1 bt987.2.1)))
end
def impl_WalDo.f (k : Nat) (l0_0 : List ByteArray) (l0_1 : List (S75)) (l1 : List (S61)) (a2 : Bool) (a3 : Int) (l4 : List Int) : Option (List ByteArray × (List (S75))) := (impl_SecOk.f k l0_0 l0_1).bind fun t959 => (if t959 = true then (impl_WalDo.j0 k l1 a2 a3 l4 (decide ((l1.length : Int) > 600)) l0_0 l0_1) else (impl_WalDo.j0 k l1 a2 a3 l4 true l0_0 l0_1))
theorem impl_WalDo.mono_l : ∀ k, (∀ y0 y1 y2 y3 y4 y5 y6, LeO (impl_WalDo.j0 k y0 y1 y2 y3 y4 y5 y6) (impl_WalDo.j0 (k + 1) y0 y1 y2 y3 y4 y5 y6)) ∧ (∀ y0 y1 y2 y3 y4 y5 y6 y7, LeO (impl_WalDo.l0 k y0 y1 y2 y3 y4 y5 y6 y7) (impl_WalDo.l0 (k + 1) y0 y1 y2 y3 y4 y5 y6 y7)) ∧ (∀ y0 y1 y2 y3 y4 y5 y6 y7 y8 y9 y10 y11, LeO (impl_WalDo.j2 k y0 y1 y2 y3 y4 y5 y6 y7 y8 y9 y10 y11) (impl_WalDo.j2 (k + 1) y0 y1 y2 y3 y4 y5 y6 y7 y8 y9 y10 y11))
 | 0=>⟨fun _ _ _ _ _ _ _ r h=>by simp [impl_WalDo.j0] at h,fun _ _ _ _ _ _ _ _ r h=>by simp [impl_WalDo.l0] at h,fun _ _ _ _ _ _ _ _ _ _ _ _ r h=>by simp [impl_WalDo.j2] at h⟩
 | k+1=>by
  obtain ⟨ih0,ih1,ih2⟩:=impl_WalDo.mono_l k;refine ⟨?_,?_,?_⟩
  ·intro y0 y1 y2 y3 y4 y5 y6
   unfold impl_WalDo.j0
   repeat' first
   | (with_reducible first|exact ih0 _ _ _ _ _ _ _|exact ih1 _ _ _ _ _ _ _ _|exact ih2 _ _ _ _ _ _ _ _ _ _ _ _|exact impl_SecCut.mono _ _ _ _|exact impl_SecFlush.mono _ _ _|exact impl_SecOk.mono _ _ _|exact impl_SecPut.mono _ _ _ _ _|exact LeO.refl _|exact LeO.none _|refine LeO.ite ?_ ?_|refine LeO.bind ?_ (fun _=>?_))|exact ih0 _ _ _ _ _ _ _|exact ih1 _ _ _ _ _ _ _ _|exact ih2 _ _ _ _ _ _ _ _ _ _ _ _|exact impl_SecCut.mono _ _ _ _|exact impl_SecFlush.mono _ _ _|exact impl_SecOk.mono _ _ _|exact impl_SecPut.mono _ _ _ _ _|exact LeO.none _|refine LeO.ite ?_ ?_|refine LeO.bind ?_ (fun _=>?_)
  ·intro y0 y1 y2 y3 y4 y5 y6 y7
   unfold impl_WalDo.l0
   repeat' first
   | (with_reducible first|exact ih0 _ _ _ _ _ _ _|exact ih1 _ _ _ _ _ _ _ _|exact ih2 _ _ _ _ _ _ _ _ _ _ _ _|exact impl_SecCut.mono _ _ _ _|exact impl_SecFlush.mono _ _ _|exact impl_SecOk.mono _ _ _|exact impl_SecPut.mono _ _ _ _ _|exact LeO.refl _|exact LeO.none _|refine LeO.ite ?_ ?_|refine LeO.bind ?_ (fun _=>?_))|exact ih0 _ _ _ _ _ _ _|exact ih1 _ _ _ _ _ _ _ _|exact ih2 _ _ _ _ _ _ _ _ _ _ _ _|exact impl_SecCut.mono _ _ _ _|exact impl_SecFlush.mono _ _ _|exact impl_SecOk.mono _ _ _|exact impl_SecPut.mono _ _ _ _ _|exact LeO.none _|refine LeO.ite ?_ ?_|refine LeO.bind ?_ (fun _=>?_)
  ·intro y0 y1 y2 y3 y4 y5 y6 y7 y8 y9 y10 y11
   unfold impl_WalDo.j2
   repeat' first
   | (with_reducible first|exact ih0 _ _ _ _ _ _ _|exact ih1 _ _ _ _ _ _ _ _|exact ih2 _ _ _ _ _ _ _ _ _ _ _ _|exact impl_SecCut.mono _ _ _ _|exact impl_SecFlush.mono _ _ _|exact impl_SecOk.mono _ _ _|exact impl_SecPut.mono _ _ _ _ _|exact LeO.refl _|exact LeO.none _|refine LeO.ite ?_ ?_|refine LeO.bind ?_ (fun _=>?_))|exact ih0 _ _ _ _ _ _ _|exact ih1 _ _ _ _ _ _ _ _|exact ih2 _ _ _ _ _ _ _ _ _ _ _ _|exact impl_SecCut.mono _ _ _ _|exact impl_SecFlush.mono _ _ _|exact impl_SecOk.mono _ _ _|exact impl_SecPut.mono _ _ _ _ _|exact LeO.none _|refine LeO.ite ?_ ?_|refine LeO.bind ?_ (fun _=>?_)
theorem impl_WalDo.mono : ∀ a0 a1 a2 a3 a4 a5 k, LeO (impl_WalDo.f k a0 a1 a2 a3 a4 a5) (impl_WalDo.f (k + 1) a0 a1 a2 a3 a4 a5) := by
 intro a0 a1 a2 a3 a4 a5 k;obtain ⟨ih0,ih1,ih2⟩:=impl_WalDo.mono_l k
 unfold impl_WalDo.f
 repeat' first
   | (with_reducible first|exact ih0 _ _ _ _ _ _ _|exact ih1 _ _ _ _ _ _ _ _|exact ih2 _ _ _ _ _ _ _ _ _ _ _ _|exact impl_SecCut.mono _ _ _ _|exact impl_SecFlush.mono _ _ _|exact impl_SecOk.mono _ _ _|exact impl_SecPut.mono _ _ _ _ _|exact LeO.refl _|exact LeO.none _|refine LeO.ite ?_ ?_|refine LeO.bind ?_ (fun _=>?_))|exact ih0 _ _ _ _ _ _ _|exact ih1 _ _ _ _ _ _ _ _|exact ih2 _ _ _ _ _ _ _ _ _ _ _ _|exact impl_SecCut.mono _ _ _ _|exact impl_SecFlush.mono _ _ _|exact impl_SecOk.mono _ _ _|exact impl_SecPut.mono _ _ _ _ _|exact LeO.none _|refine LeO.ite ?_ ?_|refine LeO.bind ?_ (fun _=>?_)
set_option maxHeartbeats 8000000 in
set_option maxRecDepth 100000 in
theorem impl_WalDo.calls (k : Nat) (A0_0 : Option Addr) (c0_0 : Nat) (l0_0 : List ByteArray) (A0_1 : Option Addr) (c0_1 : Nat) (l0_1 : List (S75)) (A1 : Option Addr) (c1 : Nat) (l1 : List (S61)) (a2 : Bool) (a3 : Int) (A4 : Option Addr) (c4 : Nat) (l4 : List Int) (r1 : List ByteArray) (r2 : List (S75)) (w : World) (hr0_0 : Kd.C Kd.string w A0_0 l0_0.length l0_0) (hc0_0 : l0_0.length ≤ c0_0) (hr0_1 : Kd.C k75 w A0_1 l0_1.length l0_1) (hc0_1 : l0_1.length ≤ c0_1) (hr1 : Kd.C k61 w A1 l1.length l1) (hc1 : l1.length ≤ c1) (hr4 : Kd.C (Kd.int .i64) w A4 l4.length l4) (hc4 : l4.length ≤ c4) (h : impl_WalDo.f k l0_0 l0_1 l1 a2 a3 l4 = some (r1, r2)) :
  Calls Try.prog 30 #[.agg #[.slice A0_0 l0_0.length c0_0,.slice A0_1 l0_1.length c0_1],.slice A1 l1.length c1,.bool a2,.int .i64 a3,.slice A4 l4.length c4] w fun e w'=>∃ v0_ v1_:Value,e=.returned (.agg #[v0_,v1_])∧Kd.R Kd.string 9 w' w.heap.size (fun _=>True) v0_ r1∧Kd.R k75 75 w' w.heap.size (fun _=>True) v1_ r2∧Below w.heap.size w w':=by
 have hu31:=Try.underlying31;have hu61:=Try.underlying61;have HR0_0:=mA hr0_0;have HC0_0:=mA hc0_0;clear hr0_0 hc0_0;have HR0_1:=mA hr0_1;have HC0_1:=mA hc0_1;clear hr0_1 hc0_1;have HR1:=mA hr1;have HC1:=mA hc1;clear hr1 hc1;have HR4:=mA hr4;have HC4:=mA hc4;clear hr4 hc4;have HB:=mA (Below.refl w.heap.size w);have H:((impl_SecOk.f k l0_0 l0_1).bind fun t959=>(if t959=true then (impl_WalDo.j0 k l1 a2 a3 l4 (decide ((l1.length:Int) > 600)) l0_0 l0_1) else (impl_WalDo.j0 k l1 a2 a3 l4 true l0_0 l0_1)))=some (r1,r2):=h;clear h;have HC6:=mA H;clear H
 go_enter Try.func30,Try.ntmps30
 go_upto_region 1 with (first|((with_reducible refine gate_dst (N:=5) rfl ?_);(try (refine gate_guard (by rfl) ?_;dsimp only));refine bE 5 #[.slice A0_0 l0_0.length c0_0,.slice A0_1 l0_1.length c0_1] 31 ?_;intro gb957 hg w7 hbox hb;have BK957:=mA hbox;have GW957:=gbpB HB hg;have GE957:=gbpB HB hg;replace HB:=spB HB hb;clear hb hbox hg)|((with_reducible refine gate_dst (N:=10) rfl ?_);(try (refine gate_guard (by rfl) ?_;dsimp only));refine bE 10 #[.slice none 0 0,.slice none 0 0] 31 ?_;intro gb958 hg w8 hbox hb;have BK958:=mA hbox;have GW958:=gbpS HB hg;have GE958:=gbpS HB hg;replace HB:=spS HB hb;have NB957_958:=mA (lN (blk_lt (pK BK957.out)) hg);have NB958_957:=nS NB957_958;replace BK957:=bK BK957 hb;clear hb hbox hg))
 (try simp only [Act.put,List.setIfInBounds_toArray,List.set_cons_zero,List.set_cons_succ])
 go_cut [21] (fun v21 wc=>∃ (kq:Nat) (x21_5:Bool),v21=.bool x21_5∧Aside0 (impl_WalDo.j0 kq l1 a2 a3 l4 x21_5 l0_0 l0_1=some (r1,r2))∧Aside0 (kq≤k)∧Aside0 (wc.heap[gb957]?=some (.cells #[(.slice A0_0 l0_0.length c0_0),(.slice A0_1 l0_1.length c0_1)] 31 (0,0)))∧Aside0 (wc.heap[gb958]?=some (.cells #[(.slice none 0 0),(.slice none 0 0)] 31 (0,0)))∧Aside0 (Below w.heap.size w wc))
 case first =>
  have H:=HC6.out;clear HC6;obtain ⟨t959,A9,H⟩:=bI H;(try dsimp only at H)
  by_cases c10:t959=true
  ·subst c10;rw [if_pos rfl] at H;have H':=mA H;clear H;have hnb11:=NB957_958.out;have hnc11:=NB958_957.out;obtain ⟨hcz12_0,hcz12_1,hfz12_0,hfz12_1⟩:=box2 BK957.out
   go_wp2_with (first|(refine gL (some 15) Try.func63 #[.agg #[.slice A0_0 l0_0.length c0_0,.slice A0_1 l0_1.length c0_1]] ?_;(with_reducible refine (impl_SecOk.calls k _ _ l0_0 _ _ l0_1 true _ ?s1 ?s2 ?s3 ?s4 A9.out).mono ?_);(case s1=>exact cB HR0_0 HB);(case s2=>exact HC0_0.out);(case s3=>exact cB HR0_1 HB);(case s4=>exact HC0_1.out);rintro e w13 ⟨rfl,hb⟩;refine ⟨_,rfl,?_⟩;replace BK957:=bK BK957 hb;replace BK958:=bK BK958 hb;replace HB:=spS HB hb;(try clear hb)))
   go_meet
   case rel=>exact ⟨_,(decide ((l1.length:Int) > 600)),bZ,H',⟨by first|omega|exact Nat.le_refl _⟩,⟨pK BK957.out⟩,⟨pK BK958.out⟩,⟨pS HB.out⟩⟩
  ·replace c10:=Bool.eq_false_iff.mpr c10;subst c10
   rw [if_neg nFT] at H
   have H':=mA H;clear H;have hnb14:=NB957_958.out;have hnc14:=NB958_957.out;obtain ⟨hcz15_0,hcz15_1,hfz15_0,hfz15_1⟩:=box2 BK957.out
   go_wp2_with (first|(refine gL (some 15) Try.func63 #[.agg #[.slice A0_0 l0_0.length c0_0,.slice A0_1 l0_1.length c0_1]] ?_;(with_reducible refine (impl_SecOk.calls k _ _ l0_0 _ _ l0_1 false _ ?s1 ?s2 ?s3 ?s4 A9.out).mono ?_);(case s1=>exact cB HR0_0 HB);(case s2=>exact HC0_0.out);(case s3=>exact cB HR0_1 HB);(case s4=>exact HC0_1.out);rintro e w16 ⟨rfl,hb⟩;refine ⟨_,rfl,?_⟩;replace BK957:=bK BK957 hb;replace BK958:=bK BK958 hb;replace HB:=spS HB hb;(try clear hb)))
   go_meet
   case rel=>exact ⟨_,(true),bZ,H',⟨by first|omega|exact Nat.le_refl _⟩,⟨pK BK957.out⟩,⟨pK BK958.out⟩,⟨pS HB.out⟩⟩
 case rest =>
  clear HC6
  obtain ⟨kq,x21_5,rfl,HA,HJ5,BK957,BK958,HB⟩:=hcut
  cases kq with
  | zero=>exact absurd HA.out (by simp [impl_WalDo.j0])
  | succ kj5 =>
   have H:=HA.out;clear HA;simp only [impl_WalDo.j0] at H
   by_cases c17:x21_5=true
   ·subst c17;rw [if_pos rfl] at H;simp only [Option.some.injEq,Prod.mk.injEq] at H;obtain ⟨rfl,rfl⟩:=H;have hnb18:=NB958_957.out;have hnc18:=NB957_958.out;obtain ⟨hcz19_0,hcz19_1,hfz19_0,hfz19_1⟩:=box2 BK958.out
    go_wp2
    refine bodyPost_ret (results_cell_row rfl _ _ gb958 31 #[.slice none 0 0,.slice none 0 0] (0,0) _ rfl (pP BK958) Try.underlying31 rfl aK) rfl ?_
    exact ⟨_,_,by first|rfl|(simp [errW_none,errW_some]<;>rfl)|(simp [*,errW_none,errW_some]<;>rfl),aN,aN,pS HB.out⟩
   ·replace c17:=Bool.eq_false_iff.mpr c17;subst c17
    rw [if_neg nFT] at H
    obtain ⟨⟨t960,t963⟩,A20,H⟩:=bI H;(try dsimp only at H);have H':=mA H;clear H;have hnb21:=NB957_958.out;have hnc21:=NB958_957.out;obtain ⟨hcz22_0,hcz22_1,hfz22_0,hfz22_1⟩:=box2 BK957.out
    go_wp2_with (first|(refine gL (some 24) Try.func64 #[.agg #[.slice A0_0 l0_0.length c0_0,.slice A0_1 l0_1.length c0_1]] ?_;(with_reducible refine (impl_secCopy.calls _ _ l0_0 _ _ l0_1 t960 t963 _ ?s1 ?s2 ?s3 ?s4 A20.out).mono ?_);(case s1=>exact cB HR0_0 HB);(case s2=>exact HC0_0.out);(case s3=>exact cB HR0_1 HB);(case s4=>exact HC0_1.out);rintro e w23 ⟨v961,v964,rfl,ho0,ho1,hb⟩;refine ⟨_,rfl,?_⟩;have HO962:=mA (Kd.R_lower ho0 (bpS HB));have HO965:=mA (Kd.R_lower ho1 (bpS HB));replace BK957:=bK BK957 hb;replace BK958:=bK BK958 hb;replace HB:=spS HB hb;(try clear hb);(try clear ho0);(try clear ho1))|((with_reducible refine gate_dst (N:=11) rfl ?_);(try (refine gate_guard (by rfl) ?_;dsimp only));refine bE 11 #[.slice none 0 0,.slice none 0 0] 31 ?_;intro gb966 hg w24 hbox hb;replace HO962:=rB HO962 hb;replace HO965:=rB HO965 hb;have BK966:=mA hbox;have GW966:=gbpS HB hg;have GE966:=gbpS HB hg;replace HB:=spS HB hb;have NB957_966:=mA (lN (blk_lt (pK BK957.out)) hg);have NB966_957:=nS NB957_966;replace BK957:=bK BK957 hb;have NB958_966:=mA (lN (blk_lt (pK BK958.out)) hg);have NB966_958:=nS NB958_966;replace BK958:=bK BK958 hb;clear hb hbox hg;obtain ⟨Ao25,co25,rfl⟩:=Kd.R_slice HO962.out;have hnb26:=NB966_957.out;have hnc26:=NB957_966.out;have hnb27:=NB966_958.out;have hnc27:=NB958_966.out;obtain ⟨hcz28_0,hcz28_1,hfz28_0,hfz28_1⟩:=box2 BK966.out;obtain ⟨Ao29,co29,rfl⟩:=Kd.R_slice HO965.out))
    go_loopg [27] kj5 (fun kq v27 w'=>∃ (x27_2:Int) (x967000_2:List ByteArray) (x967001_2:List (S75)) (u967000:Value) (u967001:Value),v27=.int .i64 x27_2∧Aside0 (impl_WalDo.l0 kq a2 a3 l4 l1 (l1.length:Int) x27_2 x967000_2 x967001_2=some (r1,r2))∧Aside0 (kq≤kj5)∧Aside0 (Kd.R Kd.string 9 w' w.heap.size (fun _=>True) u967000 x967000_2)∧Aside0 (Kd.R k75 75 w' w.heap.size (fun _=>True) u967001 x967001_2)∧Aside0 (w'.heap[gb957]?=some (.cells #[(.slice A0_0 l0_0.length c0_0),(.slice A0_1 l0_1.length c0_1)] 31 (0,0)))∧Aside0 (w'.heap[gb958]?=some (.cells #[(.slice none 0 0),(.slice none 0 0)] 31 (0,0)))∧Aside0 (w'.heap[gb966]?=some (.cells #[u967000,u967001] 31 (0,0)))∧Aside0 (Below w.heap.size w w'))
    case atStart=>exact ⟨(0),(t960),(t963),(.slice Ao25 t960.length co25),(.slice Ao29 t963.length co29),bZ,H',⟨Nat.le_refl _⟩,⟨pU HO962 BK966⟩,⟨pU HO965 BK966⟩,⟨pF BK957.out⟩,⟨pF BK958.out⟩,⟨pP BK966⟩,⟨pS HB.out⟩⟩
    case round =>
     clear H'
     (try clear c17);(try clear hcz19_0);(try clear hcz19_1);(try clear hcz22_0);(try clear hcz22_1);(try clear hcz28_0);(try clear hcz28_1);(try clear hfz19_0);(try clear hfz19_1);(try clear hfz22_0);(try clear hfz22_1);(try clear hfz28_0);(try clear hfz28_1)
     obtain ⟨x27_2,x967000_2,x967001_2,u967000,u967001,rfl,HA,HK2,HO_967000,HO_967001,BK957,BK958,BK966,HB⟩:=hrel
     cases gk with
     | zero=>exact absurd HA.out (by simp [impl_WalDo.l0])
     | succ k2 =>
      have H:=HA.out;clear HA;simp only [impl_WalDo.l0] at H
      by_cases c30:x27_2<(l1.length:Int)
      ·rw [if_pos c30] at H;have c30b0:decide (x27_2<(l1.length:Int))=true:=decide_eq_true c30;clear c30
       by_cases c31:0≤x27_2
       ·rw [if_pos c31] at H;have c31b0:decide (0≤x27_2)=true:=decide_eq_true c31;clear c31
        by_cases c32:x27_2<(l1.length:Int)
        ·rw [if_pos c32] at H;have c32b0:decide (x27_2<(l1.length:Int))=true:=decide_eq_true c32;clear c32;have HC33:=mA H;clear H;have p973:0≤(x27_2:Int):=of_decide_eq_true bA;have q973:x27_2<(l1.length:Int):=of_decide_eq_true bA;obtain ⟨ad973,e973,hx973_0,hx973_1,hx973_2⟩:=at_T61 HR1.out x27_2 p973 q973;cases e973;replace hx973_0:=hC HB hx973_0;replace hx973_1:=hC HB hx973_1;replace hx973_2:=hC HB hx973_2;replace p973:=eq_true p973;replace q973:=eq_true q973
         go_upto_region 7 with (first|((with_reducible refine gate_dst (N:=13) rfl ?_);(try (refine gate_guard (by rfl) ?_;dsimp only));refine bE 13 #[.bool false,.int .i64 0,.string (⟨#[]⟩:ByteArray)] 61 ?_;intro gb974 hg w34 hbox hb;replace HO_967000:=rB HO_967000 hb;replace HO_967001:=rB HO_967001 hb;have BK974:=mA hbox;have GW974:=gbpS HB hg;have GE974:=gbpS HB hg;replace HB:=spS HB hb;have NB957_974:=mA (lN (blk_lt (pK BK957.out)) hg);have NB974_957:=nS NB957_974;replace BK957:=bK BK957 hb;have NB958_974:=mA (lN (blk_lt (pK BK958.out)) hg);have NB974_958:=nS NB958_974;replace BK958:=bK BK958 hb;have NB966_974:=mA (lN (blk_lt (pK BK966.out)) hg);have NB974_966:=nS NB966_974;replace BK966:=bK BK966 hb;clear hb hbox hg;have hnb35:=NB974_957.out;have hnc35:=NB957_974.out;have hnb36:=NB974_958.out;have hnc36:=NB958_974.out;have hnb37:=NB974_966.out;have hnc37:=NB966_974.out;obtain ⟨hcz38_0,hcz38_1,hcz38_2,hfz38_0,hfz38_1,hfz38_2⟩:=box3 BK974.out))
         (try simp only [Act.put,List.setIfInBounds_toArray,List.set_cons_zero,List.set_cons_succ])
         go_cut [37] (fun v37 wc=>∃ (kq:Nat) (x37_32:Bool),v37=.bool x37_32∧Aside0 (impl_WalDo.j2 kq a2 a3 l4 l1 (l1.length:Int) x27_2 x37_32 x967000_2 x967001_2 ((rd_T61 l1 x27_2).f0) ((rd_T61 l1 x27_2).f1) ((rd_T61 l1 x27_2).f2)=some (r1,r2))∧Aside0 (kq≤k2)∧Aside0 (Kd.R Kd.string 9 wc w.heap.size (fun _=>True) u967000 x967000_2)∧Aside0 (Kd.R k75 75 wc w.heap.size (fun _=>True) u967001 x967001_2)∧Aside0 (wc.heap[gb957]?=some (.cells #[(.slice A0_0 l0_0.length c0_0),(.slice A0_1 l0_1.length c0_1)] 31 (0,0)))∧Aside0 (wc.heap[gb958]?=some (.cells #[(.slice none 0 0),(.slice none 0 0)] 31 (0,0)))∧Aside0 (wc.heap[gb966]?=some (.cells #[u967000,u967001] 31 (0,0)))∧Aside0 (wc.heap[gb974]?=some (.cells #[.bool ((rd_T61 l1 x27_2).f0),.int .i64 ((rd_T61 l1 x27_2).f1),.string ((rd_T61 l1 x27_2).f2)] 61 (0,0)))∧Aside0 (Below w.heap.size w wc))
         case first =>
          have H:=HC33.out;clear HC33
          by_cases c39:a2=true
          ·subst c39;rw [if_pos rfl] at H;have H':=mA H;clear H
           go_wp2
           go_meet
           case rel=>exact ⟨_,(decide (x27_2 ≥ a3)),bZ,H',⟨by have:=HJ5.out;have:=HK2.out;first|omega|exact Nat.le_refl _⟩,⟨pU HO_967000 BK974⟩,⟨pU HO_967001 BK974⟩,⟨pF BK957.out⟩,⟨pF BK958.out⟩,⟨pF BK966.out⟩,⟨pP BK974⟩,⟨pS HB.out⟩⟩
          ·replace c39:=Bool.eq_false_iff.mpr c39;subst c39
           rw [if_neg nFT] at H
           have H':=mA H;clear H
           go_wp2
           go_meet
           case rel=>exact ⟨_,(false),bZ,H',⟨by have:=HJ5.out;have:=HK2.out;first|omega|exact Nat.le_refl _⟩,⟨pU HO_967000 BK974⟩,⟨pU HO_967001 BK974⟩,⟨pF BK957.out⟩,⟨pF BK958.out⟩,⟨pF BK966.out⟩,⟨pP BK974⟩,⟨pS HB.out⟩⟩
         case rest =>
          clear HC33
          (try clear c17);(try clear c30);(try clear c30b0);(try clear c31);(try clear c31b0);(try clear c32);(try clear c32b0);(try clear hcz19_0);(try clear hcz19_1);(try clear hcz22_0);(try clear hcz22_1);(try clear hcz28_0);(try clear hcz28_1);(try clear hcz38_0);(try clear hcz38_1);(try clear hcz38_2);(try clear hfz19_0);(try clear hfz19_1);(try clear hfz22_0);(try clear hfz22_1);(try clear hfz28_0);(try clear hfz28_1);(try clear hfz38_0);(try clear hfz38_1);(try clear hfz38_2);(try clear hx973_0);(try clear hx973_1);(try clear hx973_2);(try clear p973);(try clear q973)
          obtain ⟨kq,x37_32,rfl,HA,HJ32,HO_967000,HO_967001,BK957,BK958,BK966,BK974,HB⟩:=hcut
          cases kq with
          | zero=>exact absurd HA.out (by simp [impl_WalDo.j2])
          | succ kj32 =>
           have H:=HA.out;clear HA;simp only [impl_WalDo.j2] at H
           by_cases c40:x37_32=true
           ·subst c40;rw [if_pos rfl] at H
            by_cases c41:a2=true
            ·subst c41;rw [if_pos rfl] at H;obtain ⟨⟨t975,t978⟩,A42,H⟩:=bI H;(try dsimp only at H);simp only [Option.some.injEq,Prod.mk.injEq] at H;obtain ⟨rfl,rfl⟩:=H;have hnb43:=NB966_957.out;have hnc43:=NB957_966.out;have hnb44:=NB966_958.out;have hnc44:=NB958_966.out;have hnb45:=NB966_974.out;have hnc45:=NB974_966.out;obtain ⟨hcz46_0,hcz46_1,hfz46_0,hfz46_1⟩:=box2 BK966.out;obtain ⟨Ao47,co47,rfl⟩:=Kd.R_slice HO_967000.out;obtain ⟨Ao48,co48,rfl⟩:=Kd.R_slice HO_967001.out
             go_wp2_with (first|(refine gL (some 55) Try.func66 #[.agg #[.slice Ao47 x967000_2.length co47,.slice Ao48 x967001_2.length co48],.slice A4 l4.length c4] ?_;(with_reducible refine (impl_SecCut.calls kj32 _ _ x967000_2 _ _ x967001_2 _ _ l4 t975 t978 _ ?s1 ?s2 ?s3 ?s4 ?s5 ?s6 A42.out).mono ?_);(case s1=>exact cR HO_967000);(case s2=>exact cL HO_967000);(case s3=>exact cR HO_967001);(case s4=>exact cL HO_967001);(case s5=>exact cB HR4 HB);(case s6=>exact HC4.out);rintro e w49 ⟨v976,v979,rfl,ho0,ho1,hb⟩;refine ⟨_,rfl,?_⟩;have HO977:=mA (Kd.R_lower (Kd.R_new' ho0 (rL HO_967000)) (bpS HB));replace HO_967000:=rE HO_967000 ho0 hb;have HO980:=mA (Kd.R_lower (Kd.R_new' ho1 (rL HO_967001)) (bpS HB));replace HO_967001:=rE HO_967001 ho1 hb;replace BK957:=bK BK957 hb;replace BK958:=bK BK958 hb;replace BK966:=bK BK966 hb;replace BK974:=bK BK974 hb;replace HB:=spS HB hb;(try clear hb);(try clear ho0);(try clear ho1);obtain ⟨Ao50,co50,rfl⟩:=Kd.R_slice HO977.out;obtain ⟨hcz51_0,hcz51_1,hfz51_0,hfz51_1⟩:=box2 BK966.out;obtain ⟨Ao52,co52,rfl⟩:=Kd.R_slice HO980.out;have hnb53:=NB958_957.out;have hnc53:=NB957_958.out;have hnb54:=NB958_974.out;have hnc54:=NB974_958.out;obtain ⟨hcz55_0,hcz55_1,hfz55_0,hfz55_1⟩:=box2 BK958.out))
             refine bodyPost_ret (results_cell_row rfl _ _ gb958 31 #[.slice Ao50 t975.length co50,.slice Ao52 t978.length co52] (0,0) _ rfl (pP BK958) Try.underlying31 rfl aK) rfl ?_
             exact ⟨_,_,by first|rfl|(simp [errW_none,errW_some]<;>rfl)|(simp [*,errW_none,errW_some]<;>rfl),pUU HO977 BK966 BK958,pUU HO980 BK966 BK958,pS HB.out⟩
            ·replace c41:=Bool.eq_false_iff.mpr c41;subst c41
             rw [if_neg nFT] at H
             simp only [Option.some.injEq,Prod.mk.injEq] at H;obtain ⟨rfl,rfl⟩:=H;have hnb56:=NB966_957.out;have hnc56:=NB957_966.out;have hnb57:=NB966_958.out;have hnc57:=NB958_966.out;have hnb58:=NB966_974.out;have hnc58:=NB974_966.out;obtain ⟨hcz59_0,hcz59_1,hfz59_0,hfz59_1⟩:=box2 BK966.out;obtain ⟨Ao60,co60,rfl⟩:=Kd.R_slice HO_967000.out;have hnb61:=NB958_957.out;have hnc61:=NB957_958.out;have hnb62:=NB958_974.out;have hnc62:=NB974_958.out;obtain ⟨hcz63_0,hcz63_1,hfz63_0,hfz63_1⟩:=box2 BK958.out;obtain ⟨Ao64,co64,rfl⟩:=Kd.R_slice HO_967001.out
             go_wp2
             refine bodyPost_ret (results_cell_row rfl _ _ gb958 31 #[.slice Ao60 x967000_2.length co60,.slice Ao64 x967001_2.length co64] (0,0) _ rfl (pP BK958) Try.underlying31 rfl aK) rfl ?_
             exact ⟨_,_,by first|rfl|(simp [errW_none,errW_some]<;>rfl)|(simp [*,errW_none,errW_some]<;>rfl),pU HO_967000 BK958,pU HO_967001 BK958,pS HB.out⟩
           ·replace c40:=Bool.eq_false_iff.mpr c40;subst c40
            rw [if_neg nFT] at H
            by_cases c65:((rd_T61 l1 x27_2).f0)=true
            ·rw [if_pos c65] at H;have c65b0:((rd_T61 l1 x27_2).f0)=true:=c65;clear c65;obtain ⟨⟨t981,t984⟩,A66,H⟩:=bI H;(try dsimp only at H);have H':=mA H;clear H;have hnb67:=NB974_957.out;have hnc67:=NB957_974.out;have hnb68:=NB974_958.out;have hnc68:=NB958_974.out;have hnb69:=NB974_966.out;have hnc69:=NB966_974.out;obtain ⟨hcz70_0,hcz70_1,hcz70_2,hfz70_0,hfz70_1,hfz70_2⟩:=box3 BK974.out;have hnb71:=NB966_957.out;have hnc71:=NB957_966.out;have hnb72:=NB966_958.out;have hnc72:=NB958_966.out;obtain ⟨hcz73_0,hcz73_1,hfz73_0,hfz73_1⟩:=box2 BK966.out;obtain ⟨Ao74,co74,rfl⟩:=Kd.R_slice HO_967000.out;obtain ⟨Ao75,co75,rfl⟩:=Kd.R_slice HO_967001.out
             go_wp2_with (first|(refine gL (some 41) Try.func51 #[.agg #[.slice Ao74 x967000_2.length co74,.slice Ao75 x967001_2.length co75]] ?_;(with_reducible refine (impl_SecFlush.calls kj32 _ _ x967000_2 _ _ x967001_2 t981 t984 _ ?s1 ?s2 ?s3 ?s4 A66.out).mono ?_);(case s1=>exact cR HO_967000);(case s2=>exact cL HO_967000);(case s3=>exact cR HO_967001);(case s4=>exact cL HO_967001);rintro e w76 ⟨v982,v985,rfl,ho0,ho1,hb⟩;refine ⟨_,rfl,?_⟩;have HO983:=mA (Kd.R_lower (Kd.R_new' ho0 (rL HO_967000)) (bpS HB));replace HO_967000:=rE HO_967000 ho0 hb;have HO986:=mA (Kd.R_lower (Kd.R_new' ho1 (rL HO_967001)) (bpS HB));replace HO_967001:=rE HO_967001 ho1 hb;replace BK957:=bK BK957 hb;replace BK958:=bK BK958 hb;replace BK966:=bK BK966 hb;replace BK974:=bK BK974 hb;replace HB:=spS HB hb;(try clear hb);(try clear ho0);(try clear ho1);obtain ⟨Ao77,co77,rfl⟩:=Kd.R_slice HO983.out;obtain ⟨hcz78_0,hcz78_1,hfz78_0,hfz78_1⟩:=box2 BK966.out;obtain ⟨Ao79,co79,rfl⟩:=Kd.R_slice HO986.out))
             go_roundg kj32
             case measure=>have:=HJ5.out;have:=HK2.out;have:=HJ32.out;omega
             case rel=>exact ⟨(wrap64 (x27_2+1)),(t981),(t984),(.slice Ao77 t981.length co77),(.slice Ao79 t984.length co79),bZ,H',⟨by have:=HJ5.out;have:=HK2.out;have:=HJ32.out;omega⟩,⟨pU HO983 BK966⟩,⟨pU HO986 BK966⟩,⟨pF BK957.out⟩,⟨pF BK958.out⟩,⟨pP BK966⟩,⟨pS HB.out⟩⟩
            ·rw [if_neg c65] at H
             have c65b0:((rd_T61 l1 x27_2).f0)=false:=by simpa using c65
             clear c65;obtain ⟨⟨t987,t990,t993⟩,A80,H⟩:=bI H;(try dsimp only at H);have H':=mA H;clear H;have hnb81:=NB974_957.out;have hnc81:=NB957_974.out;have hnb82:=NB974_958.out;have hnc82:=NB958_974.out;have hnb83:=NB974_966.out;have hnc83:=NB966_974.out;obtain ⟨hcz84_0,hcz84_1,hcz84_2,hfz84_0,hfz84_1,hfz84_2⟩:=box3 BK974.out;have hnb85:=NB966_957.out;have hnc85:=NB957_966.out;have hnb86:=NB966_958.out;have hnc86:=NB958_966.out;obtain ⟨hcz87_0,hcz87_1,hfz87_0,hfz87_1⟩:=box2 BK966.out;obtain ⟨Ao88,co88,rfl⟩:=Kd.R_slice HO_967000.out;obtain ⟨Ao89,co89,rfl⟩:=Kd.R_slice HO_967001.out
             go_wp2_with (first|(refine gL (some 48) Try.func65 #[.agg #[.slice Ao88 x967000_2.length co88,.slice Ao89 x967001_2.length co89],.int .i64 ((rd_T61 l1 x27_2).f1),.string ((rd_T61 l1 x27_2).f2)] ?_;(with_reducible refine (impl_SecPut.calls kj32 _ _ x967000_2 _ _ x967001_2 ((rd_T61 l1 x27_2).f1) ((rd_T61 l1 x27_2).f2) t987 t990 t993 _ ?s1 ?s2 ?s3 ?s4 A80.out).mono ?_);(case s1=>exact cR HO_967000);(case s2=>exact cL HO_967000);(case s3=>exact cR HO_967001);(case s4=>exact cL HO_967001);rintro e w90 ⟨v988,v991,rfl,ho0,ho1,hb⟩;refine ⟨_,rfl,?_⟩;have HO989:=mA (Kd.R_lower (Kd.R_new' ho0 (rL HO_967000)) (bpS HB));replace HO_967000:=rE HO_967000 ho0 hb;have HO992:=mA (Kd.R_lower (Kd.R_new' ho1 (rL HO_967001)) (bpS HB));replace HO_967001:=rE HO_967001 ho1 hb;replace BK957:=bK BK957 hb;replace BK958:=bK BK958 hb;replace BK966:=bK BK966 hb;replace BK974:=bK BK974 hb;replace HB:=spS HB hb;(try clear hb);(try clear ho0);(try clear ho1);obtain ⟨Ao91,co91,rfl⟩:=Kd.R_slice HO989.out;obtain ⟨hcz92_0,hcz92_1,hfz92_0,hfz92_1⟩:=box2 BK966.out;obtain ⟨Ao93,co93,rfl⟩:=Kd.R_slice HO992.out))
             go_roundg kj32
             case measure=>have:=HJ5.out;have:=HK2.out;have:=HJ32.out;omega
             case rel=>exact ⟨(wrap64 (x27_2+1)),(t987),(t990),(.slice Ao91 t987.length co91),(.slice Ao93 t990.length co93),bZ,H',⟨by have:=HJ5.out;have:=HK2.out;have:=HJ32.out;omega⟩,⟨pU HO989 BK966⟩,⟨pU HO992 BK966⟩,⟨pF BK957.out⟩,⟨pF BK958.out⟩,⟨pP BK966⟩,⟨pS HB.out⟩⟩
        ·rw [if_neg c32] at H
         exact absurd H (by simp)
       ·rw [if_neg c31] at H
        exact absurd H (by simp)
      ·rw [if_neg c30] at H;have c30b0:decide (x27_2<(l1.length:Int))=false:=decide_eq_false c30;clear c30
       by_cases c94:a2=true
       ·subst c94;rw [if_pos rfl] at H;obtain ⟨⟨t967,t970⟩,A95,H⟩:=bI H;(try dsimp only at H);simp only [Option.some.injEq,Prod.mk.injEq] at H;obtain ⟨rfl,rfl⟩:=H;have hnb96:=NB966_957.out;have hnc96:=NB957_966.out;have hnb97:=NB966_958.out;have hnc97:=NB958_966.out;obtain ⟨hcz98_0,hcz98_1,hfz98_0,hfz98_1⟩:=box2 BK966.out;obtain ⟨Ao99,co99,rfl⟩:=Kd.R_slice HO_967000.out;obtain ⟨Ao100,co100,rfl⟩:=Kd.R_slice HO_967001.out
        go_wp2_with (first|(refine gL (some 55) Try.func66 #[.agg #[.slice Ao99 x967000_2.length co99,.slice Ao100 x967001_2.length co100],.slice A4 l4.length c4] ?_;(with_reducible refine (impl_SecCut.calls k2 _ _ x967000_2 _ _ x967001_2 _ _ l4 t967 t970 _ ?s1 ?s2 ?s3 ?s4 ?s5 ?s6 A95.out).mono ?_);(case s1=>exact cR HO_967000);(case s2=>exact cL HO_967000);(case s3=>exact cR HO_967001);(case s4=>exact cL HO_967001);(case s5=>exact cB HR4 HB);(case s6=>exact HC4.out);rintro e w101 ⟨v968,v971,rfl,ho0,ho1,hb⟩;refine ⟨_,rfl,?_⟩;have HO969:=mA (Kd.R_lower (Kd.R_new' ho0 (rL HO_967000)) (bpS HB));replace HO_967000:=rE HO_967000 ho0 hb;have HO972:=mA (Kd.R_lower (Kd.R_new' ho1 (rL HO_967001)) (bpS HB));replace HO_967001:=rE HO_967001 ho1 hb;replace BK957:=bK BK957 hb;replace BK958:=bK BK958 hb;replace BK966:=bK BK966 hb;replace HB:=spS HB hb;(try clear hb);(try clear ho0);(try clear ho1);obtain ⟨Ao102,co102,rfl⟩:=Kd.R_slice HO969.out;obtain ⟨hcz103_0,hcz103_1,hfz103_0,hfz103_1⟩:=box2 BK966.out;obtain ⟨Ao104,co104,rfl⟩:=Kd.R_slice HO972.out;have hnb105:=NB958_957.out;have hnc105:=NB957_958.out;obtain ⟨hcz106_0,hcz106_1,hfz106_0,hfz106_1⟩:=box2 BK958.out))
        refine bodyPost_ret (results_cell_row rfl _ _ gb958 31 #[.slice Ao102 t967.length co102,.slice Ao104 t970.length co104] (0,0) _ rfl (pP BK958) Try.underlying31 rfl aK) rfl ?_
        exact ⟨_,_,by first|rfl|(simp [errW_none,errW_some]<;>rfl)|(simp [*,errW_none,errW_some]<;>rfl),pUU HO969 BK966 BK958,pUU HO972 BK966 BK958,pS HB.out⟩
       ·replace c94:=Bool.eq_false_iff.mpr c94;subst c94
        rw [if_neg nFT] at H
        simp only [Option.some.injEq,Prod.mk.injEq] at H;obtain ⟨rfl,rfl⟩:=H;have hnb107:=NB966_957.out;have hnc107:=NB957_966.out;have hnb108:=NB966_958.out;have hnc108:=NB958_966.out;obtain ⟨hcz109_0,hcz109_1,hfz109_0,hfz109_1⟩:=box2 BK966.out;obtain ⟨Ao110,co110,rfl⟩:=Kd.R_slice HO_967000.out;have hnb111:=NB958_957.out;have hnc111:=NB957_958.out;obtain ⟨hcz112_0,hcz112_1,hfz112_0,hfz112_1⟩:=box2 BK958.out;obtain ⟨Ao113,co113,rfl⟩:=Kd.R_slice HO_967001.out
        go_wp2
        refine bodyPost_ret (results_cell_row rfl _ _ gb958 31 #[.slice Ao110 x967000_2.length co110,.slice Ao113 x967001_2.length co113] (0,0) _ rfl (pP BK958) Try.underlying31 rfl aK) rfl ?_
        exact ⟨_,_,by first|rfl|(simp [errW_none,errW_some]<;>rfl)|(simp [*,errW_none,errW_some]<;>rfl),pU HO_967000 BK958,pU HO_967001 BK958,pS HB.out⟩

end Go.Proofs.Ythjocaegapchaaa.P
