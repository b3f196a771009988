-- printed by pprint.py (this session's program over the kit's printer) out of the translation. Lean checks it.
import Derived.Test.YtoieojmfkkidnaaPx0
import Derived.Test.YtoieojmfkkidnaaPx4
namespace Go.Proofs.Ytoieojmfkkidnaa.P
open Go.RowKit Go.Proofs.YtoieojmfkkidnaaX Go.Proofs.YtoieojmfkkidnaaW.PrintWords Go.Proofs.YtoieojmfkkidnaaW.PrintLast Go.Proofs.YtoieojmfkkidnaaW.PrintMore
attribute [local go_sem] max2_int min2_int max_two min_two max_three min_three max_four min_four   -- for this text's walks alone
set_option linter.unusedVariables false
set_option linter.unusedSimpArgs false

/-! ### impl_numbersOk: function 79 -/
def impl_numbersOk.l0 : Nat → List Int → Int → Int → Option (Bool)
 | 0,_,_,_=>none
 | k+1,x5,x6,x7=>if x7<x6 then (if 0≤x7 then (if x7<(x5.length:Int) then ((impl_in.f (rd x5 x7) (-1) 99999).bind fun t157=>(if t157=true then (impl_numbersOk.l0 k x5 x6 (wrap64 (x7+1))) else (some false))) else (none)) else (none)) else (some true)
def impl_numbersOk.f (k : Nat) (l0 : List Int) : Option (Bool) := impl_numbersOk.l0 k l0 (l0.length : Int) 0
theorem impl_numbersOk.mono_l : ∀ k, (∀ y0 y1 y2, LeO (impl_numbersOk.l0 k y0 y1 y2) (impl_numbersOk.l0 (k + 1) y0 y1 y2))
 | 0=>fun _ _ _ r h=>by simp [impl_numbersOk.l0] at h
 | k+1=>by
  have ih0:=impl_numbersOk.mono_l k
  ·intros
   unfold impl_numbersOk.l0
   repeat' first
   | (with_reducible first|apply ih0|exact LeO.refl _|exact LeO.none _|refine LeO.ite ?_ ?_|refine LeO.bind ?_ (fun _=>?_))|exact LeO.none _|refine LeO.ite ?_ ?_|refine LeO.bind ?_ (fun _=>?_)
theorem impl_numbersOk.mono : ∀ a0 k, LeO (impl_numbersOk.f k a0) (impl_numbersOk.f (k + 1) a0) := by
 intro a0 k;have ih0:=impl_numbersOk.mono_l k
 unfold impl_numbersOk.f
 repeat' first
   | (with_reducible first|apply ih0|exact LeO.refl _|exact LeO.none _|refine LeO.ite ?_ ?_|refine LeO.bind ?_ (fun _=>?_))|exact LeO.none _|refine LeO.ite ?_ ?_|refine LeO.bind ?_ (fun _=>?_)
set_option maxHeartbeats 8000000 in
set_option maxRecDepth 100000 in
theorem impl_numbersOk.calls {k : Nat} {A0 : Option Addr} {c0 : Nat} {l0 : List Int} {r : Bool} {w : World} (hr0 : Kd.C (Kd.int .i64) w A0 l0.length l0) (hc0 : l0.length ≤ c0) (h : impl_numbersOk.f k l0 = some r) :
  Calls Try.prog 79 #[.slice A0 l0.length c0] w fun e w'=>e=.returned (.bool r)∧Drawn0 w w':=by
 have HR0:=mA hr0;have HC0:=mA hc0;clear hr0 hc0;have H:(impl_numbersOk.l0 k l0 (l0.length:Int) 0)=some r:=h;clear h;have H':=mA H;clear H
 go_enter Try.func79,Try.ntmps79
 go_wp2
 go_loopg [7] k (fun kq v7 w'=>∃ (x7_1:Int),v7=.int .i64 x7_1∧Aside0 (impl_numbersOk.l0 kq l0 (l0.length:Int) x7_1=some r)∧Aside0 (kq≤k)∧Drawn0 w w')
 case atStart=>exact ⟨(0),bZ,H',⟨Nat.le_refl _⟩,by repeat (first|exact Drawn0.refl _|apply Drawn0.step)⟩
 case round =>
  clear H';obtain ⟨x7_1,rfl,HA,HK1,⟨m1,rfl⟩⟩:=hrel
  cases gk with
  | zero=>exact absurd HA.out (by simp [impl_numbersOk.l0])
  | succ k1 =>
   have H:=HA.out;clear HA;simp only [impl_numbersOk.l0] at H
   by_cases c2:x7_1<(l0.length:Int)
   ·rw [if_pos c2] at H;have c2b0:decide (x7_1<(l0.length:Int))=true:=decide_eq_true c2;clear c2
    by_cases c3:0≤x7_1
    ·rw [if_pos c3] at H;have c3b0:decide (0≤x7_1)=true:=decide_eq_true c3;clear c3
     by_cases c4:x7_1<(l0.length:Int)
     ·rw [if_pos c4] at H;have c4b0:decide (x7_1<(l0.length:Int))=true:=decide_eq_true c4;clear c4;obtain ⟨t157,A5,H⟩:=bI H;(try dsimp only at H)
      by_cases c6:t157=true
      ·subst c6;rw [if_pos rfl] at H;have H':=mA H;clear H;have p156:0≤(x7_1:Int):=of_decide_eq_true bA;have q156:x7_1<(l0.length:Int):=of_decide_eq_true bA;obtain ⟨ad156,e156,hx156_0⟩:=Kd.at_int HR0.out x7_1 p156 q156;cases e156;replace p156:=eq_true p156;replace q156:=eq_true q156
       go_wp2_with (first|((with_reducible refine gT 12 rfl ?_);refine gC (some 12) Try.func74 (impl_in.calls A5.out) ?_;rintro e w' ⟨rfl,⟨nd,rfl⟩⟩;refine ⟨_,rfl,?_⟩))
       go_roundg k1
       case measure=>have:=HK1.out;omega
       case rel=>exact ⟨(wrap64 (x7_1+1)),bZ,H',⟨by have:=HK1.out;omega⟩,by repeat (first|exact Drawn0.refl _|apply Drawn0.step)⟩
      ·replace c6:=Bool.eq_false_iff.mpr c6;subst c6
       rw [if_neg nFT] at H
       obtain rfl:=Option.some.inj H;have p156:0≤(x7_1:Int):=of_decide_eq_true bA;have q156:x7_1<(l0.length:Int):=of_decide_eq_true bA;obtain ⟨ad156,e156,hx156_0⟩:=Kd.at_int HR0.out x7_1 p156 q156;cases e156;replace p156:=eq_true p156;replace q156:=eq_true q156
       go_wp2_with (first|((with_reducible refine gT 12 rfl ?_);refine gC (some 12) Try.func74 (impl_in.calls A5.out) ?_;rintro e w' ⟨rfl,⟨nd,rfl⟩⟩;refine ⟨_,rfl,?_⟩))
       go_ret
       exact ⟨by first|rfl|(simp;done)|(simp [*];done),by repeat (first|exact Drawn0.refl _|apply Drawn0.step)⟩
     ·rw [if_neg c4] at H
      exact absurd H (by simp)
    ·rw [if_neg c3] at H
     exact absurd H (by simp)
   ·rw [if_neg c2] at H;have c2b0:decide (x7_1<(l0.length:Int))=false:=decide_eq_false c2;clear c2;obtain rfl:=Option.some.inj H
    go_wp2
    go_ret
    exact ⟨by first|rfl|(simp;done)|(simp [*];done),by repeat (first|exact Drawn0.refl _|apply Drawn0.step)⟩

/-! ### impl_cmdNumbers: function 126 -/
def impl_cmdNumbers.f (a0_0 a0_1 a0_2 a0_3 a0_4 a0_5 a0_6 a0_7 a0_8 a0_9 : Int) : Option (List Int) := some (([a0_0, a0_1, a0_2, a0_3, a0_4, a0_5, a0_6, a0_7, a0_8, a0_9] : List Int))
set_option maxHeartbeats 8000000 in
set_option maxRecDepth 100000 in
theorem impl_cmdNumbers.calls {a0_0 a0_1 a0_2 a0_3 a0_4 a0_5 a0_6 a0_7 a0_8 a0_9 : Int} {r : List Int} {w : World} (h : impl_cmdNumbers.f a0_0 a0_1 a0_2 a0_3 a0_4 a0_5 a0_6 a0_7 a0_8 a0_9 = some r) :
  Calls Try.prog 126 #[.agg #[.int .i64 a0_0,.int .i64 a0_1,.int .i64 a0_2,.int .i64 a0_3,.int .i64 a0_4,.int .i64 a0_5,.int .i64 a0_6,.int .i64 a0_7,.int .i64 a0_8,.int .i64 a0_9]] w fun e w'=>∃ v0_:Value,e=.returned (v0_)∧Kd.R (Kd.int .i64) 3 w' w.heap.size (fun _=>True) v0_ r∧Below w.heap.size w w':=by
 have hu24:=Try.underlying24;have HB:=mA (Below.refl w.heap.size w);have H:(some (([a0_0,a0_1,a0_2,a0_3,a0_4,a0_5,a0_6,a0_7,a0_8,a0_9]:List Int)))=some r:=h;clear h;obtain ⟨y159,hy159⟩:∃ y_:List Int,y_=(([a0_0,a0_1,a0_2,a0_3,a0_4,a0_5,a0_6,a0_7,a0_8,a0_9]:List Int)):=⟨_,rfl⟩
 replace H:(some y159)=some r:=qH hy159 H
 have Ny159:=mA hy159;clear hy159;obtain rfl:=Option.some.inj H
 go_enter Try.func126,Try.ntmps126
 go_wp2_with (first|((with_reducible refine gLg rfl (by assumption) ?_);refine ldV ?_)|((with_reducible refine gSt rfl (by assumption) ?_);refine stV ?_)|((with_reducible refine gT 1 rfl ?_);refine bX 1 ?_;intro gb158 hg w2 hbox hb;have BK158:=mA hbox;have GW158:=gbpB HB hg;have GE158:=gbpB HB hg;replace HB:=spB HB hb;clear hb hbox hg;have hcz3_0:=fun i_=>blk_cell BK158.out i_;have hfz3_0:=fun i_=>blk_frozen BK158.out i_)|((with_reducible refine gT 23 rfl ?_);refine Kd.R_lit (Kd.int .i64) _ 3 ?hg (N:=23) ?hd (xs:=([a0_0,a0_1,a0_2,a0_3,a0_4,a0_5,a0_6,a0_7,a0_8,a0_9]:List Int)) (inner:=[.int .i64 a0_0,.int .i64 a0_1,.int .i64 a0_2,.int .i64 a0_3,.int .i64 a0_4,.int .i64 a0_5,.int .i64 a0_6,.int .i64 a0_7,.int .i64 a0_8,.int .i64 a0_9]) (ok:=fun _=>True) (okp:=fun _=>True) ?hr ?hp (fun _ hk=>hk) trivial (Below.refl _ _) (Nat.le_refl _) (by simp) ?_;(case hd=>rfl);(case hg=>rfl);(case hr=>first|(go_simp;done)|(go_simp;rfl));(case hp=>repeat (first|exact Reps.none _ _|refine Reps.one (show Kd.M (Kd.int .i64) _ _ _ _ [_] from rfl) ?_));intro v160 w4 ho5 hb hg_ hnew_;clear hg_ hnew_;(first|rw [← Ny159.out] at ho5|(simp only [Int.reduceToNat] at ho5;rw [← Ny159.out] at ho5));have HO161:=mA (Kd.R_lower ho5 (bpS HB));replace BK158:=bK BK158 hb;replace HB:=spS HB hb;clear hb ho5))
 go_ret
 exact ⟨_,by first|rfl|(simp [errW_none,errW_some]<;>rfl)|(simp [*,errW_none,errW_some]<;>rfl),pR HO161.out,pS HB.out⟩

/-! ### impl_cmdOk: function 76 -/
def impl_cmdOk.f (k : Nat) (a0_0 a0_1 a0_2 a0_3 a0_4 a0_5 a0_6 a0_7 a0_8 a0_9 : Int) : Option (Bool) := (impl_in.f a0_0 0 7).bind fun t163 => (if t163 = true then ((impl_cmdNumbers.f a0_0 a0_1 a0_2 a0_3 a0_4 a0_5 a0_6 a0_7 a0_8 a0_9).bind fun t164 => ((impl_numbersOk.f k t164).bind fun t167 => (some t167))) else (some false))
theorem impl_cmdOk.mono : ∀ a0 a1 a2 a3 a4 a5 a6 a7 a8 a9 k, LeO (impl_cmdOk.f k a0 a1 a2 a3 a4 a5 a6 a7 a8 a9) (impl_cmdOk.f (k + 1) a0 a1 a2 a3 a4 a5 a6 a7 a8 a9) := by
 intro a0 a1 a2 a3 a4 a5 a6 a7 a8 a9 k
 unfold impl_cmdOk.f
 repeat' first
   | (with_reducible first|apply impl_numbersOk.mono|exact LeO.refl _|exact LeO.none _|refine LeO.ite ?_ ?_|refine LeO.bind ?_ (fun _=>?_))|exact LeO.none _|refine LeO.ite ?_ ?_|refine LeO.bind ?_ (fun _=>?_)
set_option maxHeartbeats 8000000 in
set_option maxRecDepth 100000 in
theorem impl_cmdOk.calls {k : Nat} {a0_0 a0_1 a0_2 a0_3 a0_4 a0_5 a0_6 a0_7 a0_8 a0_9 : Int} {r : Bool} {w : World} (h : impl_cmdOk.f k a0_0 a0_1 a0_2 a0_3 a0_4 a0_5 a0_6 a0_7 a0_8 a0_9 = some r) :
  Calls Try.prog 76 #[.agg #[.int .i64 a0_0,.int .i64 a0_1,.int .i64 a0_2,.int .i64 a0_3,.int .i64 a0_4,.int .i64 a0_5,.int .i64 a0_6,.int .i64 a0_7,.int .i64 a0_8,.int .i64 a0_9]] w fun e w'=>e=.returned (.bool r)∧Below w.heap.size w w':=by
 have hu24:=Try.underlying24;have HB:=mA (Below.refl w.heap.size w);have H:((impl_in.f a0_0 0 7).bind fun t163=>(if t163=true then ((impl_cmdNumbers.f a0_0 a0_1 a0_2 a0_3 a0_4 a0_5 a0_6 a0_7 a0_8 a0_9).bind fun t164=>((impl_numbersOk.f k t164).bind fun t167=>(some t167))) else (some false)))=some r:=h;clear h;obtain ⟨t163,A2,H⟩:=bI H;(try dsimp only at H)
 by_cases c3:t163=true
 ·subst c3;rw [if_pos rfl] at H;obtain ⟨t164,A4,H⟩:=bI H;(try dsimp only at H);obtain ⟨t167,A5,H⟩:=bI H;(try dsimp only at H);obtain rfl:=Option.some.inj H
  go_enter Try.func76,Try.ntmps76
  go_wp2_with (first|((with_reducible refine gLg rfl (by assumption) ?_);refine ldV ?_)|((with_reducible refine gSt rfl (by assumption) ?_);refine stV ?_)|((with_reducible refine gT 1 rfl ?_);refine bX 1 ?_;intro gb162 hg w6 hbox hb;have BK162:=mA hbox;have GW162:=gbpB HB hg;have GE162:=gbpB HB hg;replace HB:=spB HB hb;clear hb hbox hg;have hcz7_0:=fun i_=>blk_cell BK162.out i_;have hfz7_0:=fun i_=>blk_frozen BK162.out i_)|((with_reducible refine gT 5 rfl ?_);refine gC (some 5) Try.func74 (impl_in.calls A2.out) ?_;rintro e w' ⟨rfl,⟨nd,rfl⟩⟩;refine ⟨_,rfl,?_⟩)|(go_at_call 126;(with_reducible refine (impl_cmdNumbers.calls A4.out).mono ?_);rintro e w8 ⟨v165,rfl,ho0,hb⟩;have HO166:=mA (Kd.R_lower ho0 (bpS HB));replace BK162:=bK BK162 hb;replace HB:=spS HB hb;(try clear hb);(try clear ho0);obtain ⟨Ao9,co9,rfl⟩:=Kd.R_slice HO166.out)|(go_at_call 79;(with_reducible refine (impl_numbersOk.calls ?s1 ?s2 A5.out).mono ?_);(case s1=>exact cR HO166);(case s2=>exact cL HO166);rintro e w' ⟨rfl,⟨nd,rfl⟩⟩))
  go_ret
  exact rZ (pS HB.out)
 ·replace c3:=Bool.eq_false_iff.mpr c3;subst c3
  rw [if_neg nFT] at H
  obtain rfl:=Option.some.inj H
  go_enter Try.func76,Try.ntmps76
  go_wp2_with (first|((with_reducible refine gLg rfl (by assumption) ?_);refine ldV ?_)|((with_reducible refine gSt rfl (by assumption) ?_);refine stV ?_)|((with_reducible refine gT 1 rfl ?_);refine bX 1 ?_;intro gb162 hg w10 hbox hb;have BK162:=mA hbox;have GW162:=gbpB HB hg;have GE162:=gbpB HB hg;replace HB:=spB HB hb;clear hb hbox hg;have hcz11_0:=fun i_=>blk_cell BK162.out i_;have hfz11_0:=fun i_=>blk_frozen BK162.out i_)|((with_reducible refine gT 5 rfl ?_);refine gC (some 5) Try.func74 (impl_in.calls A2.out) ?_;rintro e w' ⟨rfl,⟨nd,rfl⟩⟩;refine ⟨_,rfl,?_⟩))
  go_ret
  exact rZ (pS HB.out)

/-! ### impl_isServer: function 98 -/
def impl_isServer.f (a0 : Int) : Option (Bool) := (impl_in.f a0 0 4).bind fun t168 => (some t168)
set_option maxHeartbeats 8000000 in
set_option maxRecDepth 100000 in
theorem impl_isServer.calls {a0 : Int} {r : Bool} {w : World} (h : impl_isServer.f a0 = some r) :
  Calls Try.prog 98 #[.int .i64 a0] w fun e w'=>e=.returned (.bool r)∧Drawn0 w w':=by
 have H:((impl_in.f a0 0 4).bind fun t168=>(some t168))=some r:=h;clear h;obtain ⟨t168,A2,H⟩:=bI H;(try dsimp only at H);obtain rfl:=Option.some.inj H
 go_enter Try.func98,Try.ntmps98
 go_wp2_with (first|((with_reducible refine gT 4 rfl ?_);refine gC (some 4) Try.func74 (impl_in.calls A2.out) ?_;rintro e w' ⟨rfl,⟨nd,rfl⟩⟩;refine ⟨_,rfl,?_⟩))
 go_ret
 exact ⟨by first|rfl|(simp;done)|(simp [*];done),by repeat (first|exact Drawn0.refl _|apply Drawn0.step)⟩

/-! ### impl_copied_Word: function 136 -/
def impl_copied_Word.f (l0 : List S28) : Option (List S28) := if l0.length ≤ 1172812402961 then some l0 else none
set_option maxHeartbeats 8000000 in
set_option maxRecDepth 100000 in
theorem impl_copied_Word.calls (A0 : Option Addr) (c0 : Nat) (l0 : List S28) (r : List S28) (w : World) (hr0 : Kd.C k28 w A0 l0.length l0) (hc0 : l0.length ≤ c0) (h : impl_copied_Word.f l0 = some r) :
    Calls Try.prog 136 #[.slice A0 l0.length c0] w fun e w' => ∃ v0_ : Value, e = .returned (v0_) ∧ Kd.R k28 28 w' w.heap.size (fun _ => True) v0_ r ∧ Below w.heap.size w w' := by
  unfold impl_copied_Word.f at h
  by_cases hz : l0.length ≤ 1172812402961
  · rw [if_pos hz] at h
    obtain rfl := Option.some.inj h
    have HR := Aside0.mk hr0
    have HZ := Aside0.mk hz
    clear hr0 hc0 h hz
    by_cases h0 : l0.length = 0
    · obtain rfl := List.eq_nil_of_length_eq_zero h0
      clear h0
      go_enter Try.func136, Try.ntmps136
      go_wp2
      go_ret
      exact ⟨_, rfl, Kd.R_nil _ _ _ _ _, Below.refl _ _⟩
    · have c0b : ((l0.length : Int) == 0) = false := beq_eq_false_iff_ne.mpr (by omega)
      have c0c : ((l0.length : Int) != 0) = true := bne_iff_ne.mpr (by omega)
      have c0d : ¬ (l0 = []) := fun h_ => h0 (by rw [h_]; rfl)
      clear h0
      have HB := Aside0.mk (Below.refl w.heap.size w)
      go_enter Try.func136, Try.ntmps136
      go_wp2_with (first
        | (refine Kd.R_make k28 _ 28 rfl (N := 9) rfl 70 _ _ rfl (l0.length : Int) rfl rfl Try.underlying70 (.agg #[(.int .i64 0), (.int .i64 0), (.int .i64 0), (.int .i64 0), (.int .i64 0), (.int .i64 0), (.int .i64 0), (.int .i64 0), (.int .i64 0), (.int .i64 0), (.int .i64 0), (.int .i64 0), (.int .i64 0), (.int .i64 0), (.int .i64 0), (.int .i64 0), (.int .i64 0), (.int .i64 0), (.int .i64 0), (.int .i64 0), (.int .i64 0), (.int .i64 0), (.int .i64 0), (.int .i64 0), (.slice none 0 0), (.slice none 0 0)]) 240 info28 rfl (by decide) (by omega) z28 (ok := fun _ => True) (okp := fun _ => True) (k28_mkM _ _ _ z28) (fun _ hk => hk) trivial (Int.natCast_nonneg _) (by have hz := HZ.out; rw [Int.toNat_natCast]; omega) HB.out (Nat.le_refl _) ?_
           intro v1 w1 hR1 hB1 hg1 hn1
           rw [Int.toNat_natCast] at hR1
           have HR1 := Aside0.mk hR1
           have HB1 := Aside0.mk hB1
           have HC1 := Aside0.mk (Kd.C_below HR.out (below_of_grown hg1))
           clear hR1 hB1 hg1 hn1)
        | (refine R_copy k28 flat28 w.heap.size rfl _ _ 70 70 28 rfl Try.underlying70 (by rw [show (Try.prog.info? 28).map (·.size) = ((Try.prog.info? 28).map (fun i => (i.zero, i.size, i.bytes))).map (fun x => x.2.1) from by rw [Option.map_map]; rfl, info28]; rfl) _ _ _ _ _ l0 (fun _ => True) rfl rfl rfl (by simp) HR1.out HC1.out HB1.out ?_
           intro w2 hR2 hB2 _
           have HR2 := Aside0.mk hR2
           have HB2 := Aside0.mk hB2
           clear hR2 hB2))
      go_ret
      exact ⟨_, rfl, HR2.out, HB2.out⟩
  · rw [if_neg hz] at h; cases h

/-! ### impl_askAll: function 99 -/
def impl_askAll.l0 : Nat → List (S28) → Int → Int → Int → Int → Int → Int → Int → Int → Int → Int → Int → Int → Int → Int → Int → Int → Int → Int → Int → Int → Int → Int → Int → Int → Int → Unit → Unit → Option ((List (S28)))
 | 0,_,_,_,_,_,_,_,_,_,_,_,_,_,_,_,_,_,_,_,_,_,_,_,_,_,_,_,_=>none
 | k+1,x3,x4,x170000,x170001,x170002,x170003,x170004,x170005,x170006,x170007,x170008,x170009,x170010,x170011,x170012,x170013,x170014,x170015,x170016,x170017,x170018,x170019,x170020,x170021,x170022,x170023,x170024,x170025=>if x4<3 then (if x3.length<586406201480 then (impl_askAll.l0 k (x3 ++ [(⟨x170000,x170001,x4,x170003,x170004,x170005,(⟨x170006,x170007,x170008,x170009,x170010,x170011,x170012,x170013,x170014,x170015⟩:S24),x170016,x170017,x170018,x170019,x170020,x170021,x170022,x170023,x170024,x170025⟩:S28)]) (wrap64 (x4+1)) x170000 x170001 x4 x170003 x170004 x170005 x170006 x170007 x170008 x170009 x170010 x170011 x170012 x170013 x170014 x170015 x170016 x170017 x170018 x170019 x170020 x170021 x170022 x170023 x170024 x170025) else (none)) else ((impl_copied_Word.f x3).bind fun t173=>(some t173))
def impl_askAll.f (k : Nat) (a0_0 a0_1 a0_2 a0_3 a0_4 a0_5 a0_6 a0_7 a0_8 a0_9 a0_10 a0_11 a0_12 a0_13 a0_14 a0_15 a0_16 a0_17 a0_18 a0_19 a0_20 a0_21 a0_22 a0_23 : Int) (a0_24 : Unit) (a0_25 : Unit) : Option ((List (S28))) := impl_askAll.l0 k ([] : List (S28)) 0 a0_0 a0_1 a0_2 a0_3 a0_4 a0_5 a0_6 a0_7 a0_8 a0_9 a0_10 a0_11 a0_12 a0_13 a0_14 a0_15 a0_16 a0_17 a0_18 a0_19 a0_20 a0_21 a0_22 a0_23 a0_24 a0_25
theorem impl_askAll.mono_l : ∀ k, (∀ y0 y1 y2 y3 y4 y5 y6 y7 y8 y9 y10 y11 y12 y13 y14 y15 y16 y17 y18 y19 y20 y21 y22 y23 y24 y25 y26 y27, LeO (impl_askAll.l0 k y0 y1 y2 y3 y4 y5 y6 y7 y8 y9 y10 y11 y12 y13 y14 y15 y16 y17 y18 y19 y20 y21 y22 y23 y24 y25 y26 y27) (impl_askAll.l0 (k + 1) y0 y1 y2 y3 y4 y5 y6 y7 y8 y9 y10 y11 y12 y13 y14 y15 y16 y17 y18 y19 y20 y21 y22 y23 y24 y25 y26 y27))
 | 0=>fun _ _ _ _ _ _ _ _ _ _ _ _ _ _ _ _ _ _ _ _ _ _ _ _ _ _ _ _ r h=>by simp [impl_askAll.l0] at h
 | k+1=>by
  have ih0:=impl_askAll.mono_l k
  ·intros
   unfold impl_askAll.l0
   repeat' first
   | (with_reducible first|apply ih0|exact LeO.refl _|exact LeO.none _|refine LeO.ite ?_ ?_|refine LeO.bind ?_ (fun _=>?_))|exact LeO.none _|refine LeO.ite ?_ ?_|refine LeO.bind ?_ (fun _=>?_)
theorem impl_askAll.mono : ∀ a0 a1 a2 a3 a4 a5 a6 a7 a8 a9 a10 a11 a12 a13 a14 a15 a16 a17 a18 a19 a20 a21 a22 a23 a24 a25 k, LeO (impl_askAll.f k a0 a1 a2 a3 a4 a5 a6 a7 a8 a9 a10 a11 a12 a13 a14 a15 a16 a17 a18 a19 a20 a21 a22 a23 a24 a25) (impl_askAll.f (k + 1) a0 a1 a2 a3 a4 a5 a6 a7 a8 a9 a10 a11 a12 a13 a14 a15 a16 a17 a18 a19 a20 a21 a22 a23 a24 a25) := by
 intro a0 a1 a2 a3 a4 a5 a6 a7 a8 a9 a10 a11 a12 a13 a14 a15 a16 a17 a18 a19 a20 a21 a22 a23 a24 a25 k;have ih0:=impl_askAll.mono_l k
 unfold impl_askAll.f
 repeat' first
   | (with_reducible first|apply ih0|exact LeO.refl _|exact LeO.none _|refine LeO.ite ?_ ?_|refine LeO.bind ?_ (fun _=>?_))|exact LeO.none _|refine LeO.ite ?_ ?_|refine LeO.bind ?_ (fun _=>?_)
set_option maxHeartbeats 8000000 in
set_option maxRecDepth 100000 in
theorem impl_askAll.calls {k : Nat} {a0_0 a0_1 a0_2 a0_3 a0_4 a0_5 a0_6 a0_7 a0_8 a0_9 a0_10 a0_11 a0_12 a0_13 a0_14 a0_15 a0_16 a0_17 a0_18 a0_19 a0_20 a0_21 a0_22 a0_23 : Int} {a0_24 a0_25 : Unit} {r : List (S28)} {w : World} (h : impl_askAll.f k a0_0 a0_1 a0_2 a0_3 a0_4 a0_5 a0_6 a0_7 a0_8 a0_9 a0_10 a0_11 a0_12 a0_13 a0_14 a0_15 a0_16 a0_17 a0_18 a0_19 a0_20 a0_21 a0_22 a0_23 a0_24 a0_25 = some r) :
  Calls Try.prog 99 #[.agg #[.int .i64 a0_0,.int .i64 a0_1,.int .i64 a0_2,.int .i64 a0_3,.int .i64 a0_4,.int .i64 a0_5,.int .i64 a0_6,.int .i64 a0_7,.int .i64 a0_8,.int .i64 a0_9,.int .i64 a0_10,.int .i64 a0_11,.int .i64 a0_12,.int .i64 a0_13,.int .i64 a0_14,.int .i64 a0_15,.int .i64 a0_16,.int .i64 a0_17,.int .i64 a0_18,.int .i64 a0_19,.int .i64 a0_20,.int .i64 a0_21,.int .i64 a0_22,.int .i64 a0_23,.slice none 0 0,.slice none 0 0]] w fun e w'=>∃ v0_:Value,e=.returned (v0_)∧Kd.R k28 28 w' w.heap.size (fun _=>True) v0_ r∧Below w.heap.size w w':=by
 have hu28:=Try.underlying28;have HB:=mA (Below.refl w.heap.size w);have H:(impl_askAll.l0 k ([]:List (S28)) 0 a0_0 a0_1 a0_2 a0_3 a0_4 a0_5 a0_6 a0_7 a0_8 a0_9 a0_10 a0_11 a0_12 a0_13 a0_14 a0_15 a0_16 a0_17 a0_18 a0_19 a0_20 a0_21 a0_22 a0_23 a0_24 a0_25)=some r:=h;clear h;have H':=mA H;clear H
 go_enter Try.func99,Try.ntmps99
 go_wp2_with (first|((with_reducible refine gLg rfl (by assumption) ?_);refine ldV ?_)|((with_reducible refine gSt rfl (by assumption) ?_);refine stV ?_)|((with_reducible refine gT 1 rfl ?_);refine bX 1 ?_;intro gb169 hg w2 hbox hb;have BK169:=mA hbox;have GW169:=gbpB HB hg;have GE169:=gbpB HB hg;replace HB:=spB HB hb;clear hb hbox hg))
 go_loopg [3,4] k (fun kq v3 v4 w'=>∃ (x3_1:List (S28)) (x4_1:Int) (x170002_1:Int),v4=.int .i64 x4_1∧Aside0 (impl_askAll.l0 kq x3_1 x4_1 a0_0 a0_1 x170002_1 a0_3 a0_4 a0_5 a0_6 a0_7 a0_8 a0_9 a0_10 a0_11 a0_12 a0_13 a0_14 a0_15 a0_16 a0_17 a0_18 a0_19 a0_20 a0_21 a0_22 a0_23 a0_24 a0_25=some r)∧Aside0 (kq≤k)∧Aside0 (Kd.R k28 28 w' w.heap.size (fun k_=>k_≠gb169) v3 x3_1)∧Aside0 (w'.heap[gb169]?=some (.cells #[.int .i64 a0_0,.int .i64 a0_1,.int .i64 x170002_1,.int .i64 a0_3,.int .i64 a0_4,.int .i64 a0_5,.int .i64 a0_6,.int .i64 a0_7,.int .i64 a0_8,.int .i64 a0_9,.int .i64 a0_10,.int .i64 a0_11,.int .i64 a0_12,.int .i64 a0_13,.int .i64 a0_14,.int .i64 a0_15,.int .i64 a0_16,.int .i64 a0_17,.int .i64 a0_18,.int .i64 a0_19,.int .i64 a0_20,.int .i64 a0_21,.int .i64 a0_22,.int .i64 a0_23,.slice none 0 0,.slice none 0 0] 28 (0,0)))∧Aside0 (Below w.heap.size w w'))
 case atStart=>exact ⟨(([]:List (S28))),(0),(a0_2),bZ,H',⟨Nat.le_refl _⟩,⟨aN⟩,⟨pK BK169.out⟩,⟨pS HB.out⟩⟩
 case round =>
  clear H'
  obtain ⟨x3_1,x4_1,x170002_1,rfl,HA,HK1,HO_3,BK169,HB⟩:=hrel
  cases gk with
  | zero=>exact absurd HA.out (by simp [impl_askAll.l0])
  | succ k1 =>
   have H:=HA.out;clear HA;simp only [impl_askAll.l0] at H
   by_cases c3:x4_1<3
   ·rw [if_pos c3] at H;have c3b0:decide (x4_1<3)=true:=decide_eq_true c3;clear c3
    by_cases c4:x3_1.length<586406201480
    ·rw [if_pos c4] at H;have LMc4:=mA c4;clear c4;obtain ⟨y170,hy170⟩:∃ y_:List (S28),y_=(x3_1 ++ [(⟨a0_0,a0_1,x4_1,a0_3,a0_4,a0_5,(⟨a0_6,a0_7,a0_8,a0_9,a0_10,a0_11,a0_12,a0_13,a0_14,a0_15⟩:S24),a0_16,a0_17,a0_18,a0_19,a0_20,a0_21,a0_22,a0_23,a0_24,a0_25⟩:S28)]):=⟨_,rfl⟩
     replace H:(impl_askAll.l0 k1 y170 (wrap64 (x4_1+1)) a0_0 a0_1 x4_1 a0_3 a0_4 a0_5 a0_6 a0_7 a0_8 a0_9 a0_10 a0_11 a0_12 a0_13 a0_14 a0_15 a0_16 a0_17 a0_18 a0_19 a0_20 a0_21 a0_22 a0_23 a0_24 a0_25)=some r:=qH hy170 H
     have Ny170:=mA hy170;clear hy170;have H':=mA H;clear H;have hcz5_0:=fun i_=>blk_cell BK169.out i_;have hfz5_0:=fun i_=>blk_frozen BK169.out i_
     go_wp2_with (first|((with_reducible refine gLg rfl (by assumption) ?_);refine ldV ?_)|((with_reducible refine gSt rfl (by assumption) ?_);refine stV ?_)|((with_reducible refine gate_builtin (b:=.append) (xs:=#[.tmp 11,.tmp 13]) rfl ?_);at_builtin;refine Kd.R_append k28 (w0:=w) w.heap.size rfl (.tmp 11) (.tmp 13) 70 28 (.agg #[(.int .i64 0),(.int .i64 0),(.int .i64 0),(.int .i64 0),(.int .i64 0),(.int .i64 0),(.int .i64 0),(.int .i64 0),(.int .i64 0),(.int .i64 0),(.int .i64 0),(.int .i64 0),(.int .i64 0),(.int .i64 0),(.int .i64 0),(.int .i64 0),(.int .i64 0),(.int .i64 0),(.int .i64 0),(.int .i64 0),(.int .i64 0),(.int .i64 0),(.int .i64 0),(.int .i64 0),(.slice none 0 0),(.slice none 0 0)]) 240 rfl Try.underlying70 info28 rfl aD (by omega) u3 x3_1 (⟨a0_0,a0_1,x4_1,a0_3,a0_4,a0_5,(⟨a0_6,a0_7,a0_8,a0_9,a0_10,a0_11,a0_12,a0_13,a0_14,a0_15⟩:S24),a0_16,a0_17,a0_18,a0_19,a0_20,a0_21,a0_22,a0_23,a0_24,a0_25⟩:S28) [.int .i64 a0_0,.int .i64 a0_1,.int .i64 x4_1,.int .i64 a0_3,.int .i64 a0_4,.int .i64 a0_5,.int .i64 a0_6,.int .i64 a0_7,.int .i64 a0_8,.int .i64 a0_9,.int .i64 a0_10,.int .i64 a0_11,.int .i64 a0_12,.int .i64 a0_13,.int .i64 a0_14,.int .i64 a0_15,.int .i64 a0_16,.int .i64 a0_17,.int .i64 a0_18,.int .i64 a0_19,.int .i64 a0_20,.int .i64 a0_21,.int .i64 a0_22,.int .i64 a0_23,.slice none 0 0,.slice none 0 0] (fun k_=>k_≠gb169) (fun _=>False) rfl (by first|(go_simp;done)|(go_simp;rfl)) ?aP (fun _ hk=>hk.elim) ?aF ?aO ?aB ?aS ?aL ?_;(case aP=>exact k28_mkM _ _ _ (⟨a0_0,a0_1,x4_1,a0_3,a0_4,a0_5,(⟨a0_6,a0_7,a0_8,a0_9,a0_10,a0_11,a0_12,a0_13,a0_14,a0_15⟩:S24),a0_16,a0_17,a0_18,a0_19,a0_20,a0_21,a0_22,a0_23,a0_24,a0_25⟩:S28));(case aB=>exact (pS HB.out));(case aF=>exact (fun k_ hk=>Kd.freshB (g:=gb169) (o:=.cells #[.int .i64 a0_0,.int .i64 a0_1,.int .i64 x4_1,.int .i64 a0_3,.int .i64 a0_4,.int .i64 a0_5,.int .i64 a0_6,.int .i64 a0_7,.int .i64 a0_8,.int .i64 a0_9,.int .i64 a0_10,.int .i64 a0_11,.int .i64 a0_12,.int .i64 a0_13,.int .i64 a0_14,.int .i64 a0_15,.int .i64 a0_16,.int .i64 a0_17,.int .i64 a0_18,.int .i64 a0_19,.int .i64 a0_20,.int .i64 a0_21,.int .i64 a0_22,.int .i64 a0_23,.slice none 0 0,.slice none 0 0] 28 (0,0)) (pP BK169) k_ hk));(case aO=>exact (pR (Kd.R_mono (Kd.R_far (p:=⟨gb169,2,none⟩) (Kd.R_mono HO_3.out (fun k_ hk=>(⟨hk,hk⟩:_∧k_≠gb169))) (fun _ hk=>hk.2) (.int .i64 x4_1)) (fun _ hk=>hk.1))));(case aS=>exact (bpS HB));(case aL=>have:=LMc4.out;omega);intro v171 w6 ho hb hg hat;rw [← Ny170.out] at ho;have HO172:=mA ho;replace BK169:=mA (blk_grown (g:=gb169) (o:=.cells #[.int .i64 a0_0,.int .i64 a0_1,.int .i64 x4_1,.int .i64 a0_3,.int .i64 a0_4,.int .i64 a0_5,.int .i64 a0_6,.int .i64 a0_7,.int .i64 a0_8,.int .i64 a0_9,.int .i64 a0_10,.int .i64 a0_11,.int .i64 a0_12,.int .i64 a0_13,.int .i64 a0_14,.int .i64 a0_15,.int .i64 a0_16,.int .i64 a0_17,.int .i64 a0_18,.int .i64 a0_19,.int .i64 a0_20,.int .i64 a0_21,.int .i64 a0_22,.int .i64 a0_23,.slice none 0 0,.slice none 0 0] 28 (0,0)) (pP BK169) hg (Kd.R_away HO_3.out (fun _ hk=>hk)));replace HB:=mA hb;clear HO_3;clear ho hb hg hat))
     go_roundg k1
     case measure=>have:=HK1.out;omega
     case rel=>exact ⟨(y170),(wrap64 (x4_1+1)),(x4_1),bZ,H',⟨by have:=HK1.out;omega⟩,⟨pR HO172.out⟩,⟨pK BK169.out⟩,⟨pS HB.out⟩⟩
    ·rw [if_neg c4] at H
     exact absurd H (by simp)
   ·rw [if_neg c3] at H;have c3b0:decide (x4_1<3)=false:=decide_eq_false c3;clear c3;obtain ⟨t173,A7,H⟩:=bI H;(try dsimp only at H);obtain rfl:=Option.some.inj H;obtain ⟨Ao8,co8,rfl⟩:=Kd.R_slice HO_3.out
    go_wp2_with (first|((with_reducible refine gLg rfl (by assumption) ?_);refine ldV ?_)|((with_reducible refine gSt rfl (by assumption) ?_);refine stV ?_)|((with_reducible refine gT 16 rfl ?_);refine gC (some 16) Try.func136 (impl_copied_Word.calls _ _ x3_1 t173 _ (cR HO_3) (cL HO_3) A7.out) ?_;rintro e w9 ⟨v174,rfl,ho0,hb⟩;refine ⟨_,rfl,?_⟩;have HO175:=mA (Kd.R_lower (Kd.R_newB (Kd.R_new' ho0 (rL HO_3)) (g:=gb169) (o:=.cells #[.int .i64 a0_0,.int .i64 a0_1,.int .i64 x170002_1,.int .i64 a0_3,.int .i64 a0_4,.int .i64 a0_5,.int .i64 a0_6,.int .i64 a0_7,.int .i64 a0_8,.int .i64 a0_9,.int .i64 a0_10,.int .i64 a0_11,.int .i64 a0_12,.int .i64 a0_13,.int .i64 a0_14,.int .i64 a0_15,.int .i64 a0_16,.int .i64 a0_17,.int .i64 a0_18,.int .i64 a0_19,.int .i64 a0_20,.int .i64 a0_21,.int .i64 a0_22,.int .i64 a0_23,.slice none 0 0,.slice none 0 0] 28 (0,0)) (pK BK169.out)) (bpS HB));replace HO_3:=rE HO_3 ho0 hb;replace BK169:=bK BK169 hb;replace HB:=spS HB hb;(try clear hb);(try clear ho0)))
    go_ret
    exact ⟨_,by first|rfl|(simp [errW_none,errW_some]<;>rfl)|(simp [*,errW_none,errW_some]<;>rfl),pR (Kd.R_mono HO175.out (fun _ hk=>trivial)),pS HB.out⟩

end Go.Proofs.Ytoieojmfkkidnaa.P
