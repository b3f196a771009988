/-
 The program's SynHear answers as the reference's,for all arguments.
 Conditions: those of the pure statement,none beside.
-/
import Derived.Test.YtoieojmfkkidnaaPx22
import Derived.Test.YtoieojmfkkidnaaXHear
import Derived.Test.YtoieojmfkkidnaaXExSeekerH
import Derived.Test.YtoieojmfkkidnaaXExWord
import Derived.Test.YtoieojmfkkidnaaXExPieceM
import Derived.Test.YtoieojmfkkidnaaXExLastM
namespace Go.Proofs.Ytoieojmfkkidnaa.Pure
open Go.RowKit Go.Proofs.Ytoieojmfkkidnaa.P Go.Proofs.YtoieojmfkkidnaaX Go.Proofs.YtoieojmfkkidnaaW.PrintWords Go.Proofs.YtoieojmfkkidnaaW.PrintLast Go.Proofs.YtoieojmfkkidnaaW.PrintMore
set_option linter.unusedVariables false
set_option linter.unusedSimpArgs false
theorem szS (s0 s1 s2 s3 s4 s5 s6 s7 s8 s9 s10 s11 s12 s13 s14 s15 s16 s17 s18 s19 s20 s21 s22 s23 s24:Int) (Y:List Int) (x:Int) (h0:0≤x) (h1:x≤1048576) (hl:Y.length≤9223372036854775807):∃ r,laws_szSynSeeker.f s0 s1 s2 s3 s4 s5 s6 s7 s8 s9 s10 s11 s12 s13 s14 s15 s16 s17 s18 s19 s20 s21 s22 s23 s24 Y x=some r∧(r<0 ∨ ((Y.length:Int)≤x∧0≤r∧r≤x)):=by
 unfold laws_szSynSeeker.f laws_szIntS.f
 rw [wrap64_id (x:=x - (Y.length:Int)) (by omega) (by omega)]
 by_cases h:x - (Y.length:Int)<0
 ·rw [if_pos h];exact ⟨-1,rfl,.inl (by omega)⟩
 ·rw [if_neg h]
  simp only [Option.bind_some]
  rw [if_neg h]
  exact ⟨_,rfl,.inr (by omega)⟩
theorem szW (a0 a1 a2 a3 a4 a5 a6 a7 a8 a9 a10 a11 a12 a13 a14 a15 a16 a17 a18 a19 a20 a21 a22 a23:Int) (P:List S146) (L:List S148) (x:Int) (h0:0≤x) (hx:x≤1048576) (h1:P.length≤9223372036854775807) (h2:L.length≤9223372036854775807):∃ r,laws_szWord.f a0 a1 a2 a3 a4 a5 a6 a7 a8 a9 a10 a11 a12 a13 a14 a15 a16 a17 a18 a19 a20 a21 a22 a23 P L x=some r∧(r<0 ∨ P.length≤1048576∧L.length≤1048576):=by
 unfold laws_szWord.f
 rw [szBlkPieceS_f P x (by omega) (by omega) h1]
 simp only [Option.bind_some]
 by_cases h:x<(P.length:Int)
 ·rw [if_pos h,if_pos (by omega)];exact ⟨-1,rfl,.inl (by omega)⟩
 ·rw [if_neg h,if_neg (by omega),szBlkLastS_f L _ (by omega) (by omega) h2]
  simp only [Option.bind_some]
  by_cases h3:x - (P.length:Int)<(L.length:Int)
  ·rw [if_pos h3,if_pos (by omega)];exact ⟨-1,rfl,.inl (by omega)⟩
  ·rw [if_neg h3,if_neg (by omega)];exact ⟨_,rfl,.inr (by omega)⟩
theorem markW (a0 a1 a2 a3 a4 a5 a6 a7 a8 a9 a10 a11 a12 a13 a14 a15 a16 a17 a18 a19 a20 a21 a22 a23:Int) (P:List S138) (L:List S140) (K:Int) (h0:0≤K) (hK:K≤10000000) (h1:P.length≤1048576) (h2:L.length≤1048576):T (fun k=>laws_markWord.f k a0 a1 a2 a3 a4 a5 a6 a7 a8 a9 a10 a11 a12 a13 a14 a15 a16 a17 a18 a19 a20 a21 a22 a23 P L K) (fun r=>0≤r.1):=by
 simp only [laws_markWord.f]
 refine T.bind (markBlkPieceS_T P K (by omega) (by omega)) (fun m1 hm1=>?_)
 have e1:=hm1.1
 refine T.bind (markBlkLastS_T L m1.1 (by omega) (by omega)) (fun m2 hm2=>T.ret ?_)
 have e2:=hm2.1
 show 0≤m2.1
 omega
theorem eqWs_loop (L:List S9028) (hl:L.length≤1000000):∀ (d i:Nat),L.length - i=d→i≤L.length→T (fun k=>laws_eqWordS.l0 k L L (i:Int)) (·=true):=by
 intro d
 induction d with
 | zero =>
  intro i hd hi
  refine T.succ ?_
  simp only [laws_eqWordS.l0]
  exact T.neg (by omega) (T.ret rfl)
 | succ d ih =>
  intro i hd hi
  refine T.succ ?_
  simp only [laws_eqWordS.l0,wrap_succ (show i<L.length by omega) (show L.length≤4611686018427387904 by omega)]
  refine T.pos (by omega) (T.pos (by omega) (T.pos (by omega) ?_))
  refine T.bind_eq (eqWord_same _ _ _ _ _ _ _ _ _ _ _ _ _ _ _ _ _ _ _ _ _ _ _ _ [] [] (by simp) (by simp)) (T.pos rfl ?_)
  exact ih (i+1) (by omega) (by omega)
theorem eqWs (L:List S9028) (hl:L.length≤1000000):T (fun k=>laws_eqWordS.f k L L) (·=true):=by
 simp only [laws_eqWordS.f,if_true]
 exact eqWs_loop L hl _ 0 rfl (Nat.zero_le _)
theorem markS (s0 s1 s2 s3 s4 s5 s6 s7 s8 s9 s10 s11 s12 s13 s14 s15 s16 s17 s18 s19 s20 s21 s22 s23 s24:Int) (Y:List Int) (hY:Y.length≤1048576):T (fun k=>laws_markSynSeeker.f k s0 s1 s2 s3 s4 s5 s6 s7 s8 s9 s10 s11 s12 s13 s14 s15 s16 s17 s18 s19 s20 s21 s22 s23 s24 Y 1) (·=(1+(Y.length:Int),iota 1 Y.length)):=by
 simp only [laws_markSynSeeker.f]
 exact T.bind_eq (markI Y 1 (by omega) (by omega)) (T.ret rfl)
theorem heldS (s0 s1 s2 s3 s4 s5 s6 s7 s8 s9 s10 s11 s12 s13 s14 s15 s16 s17 s18 s19 s20 s21 s22 s23 s24:Int) (n:Nat) (hY:n≤1048576):T (fun k=>laws_heldSynSeeker.f k s0 s1 s2 s3 s4 s5 s6 s7 s8 s9 s10 s11 s12 s13 s14 s15 s16 s17 s18 s19 s20 s21 s22 s23 s24 (iota 1 n) 1) (·=1+(n:Int)):=by
 simp only [laws_heldSynSeeker.f]
 exact T.bind_eq (heldI n 1 (by omega) (by omega)) (T.neg (by omega) (T.ret rfl))
theorem marked (l:List S9028) (K:Int) (h0:0≤K) (h1:K≤10000000) (h:l=[] ∨ ∃ x y z,l=[x,y,z]):∃ (e:Int) (M:List S9028),0≤e∧T (fun k=>laws_markWordS.f k l K) (·=(e,M))∧T (fun k=>laws_heldWordS.f k M K) (·=e):=by
 rcases h with rfl|⟨x,y,z,rfl⟩
 ·exact ⟨K,[],h0,mark_w0 K,held_w0 K⟩
 ·exact ⟨_,_,nst3 K h0 h1,mark_w3 x y z K,held_w3 K h0 h1⟩
theorem FnExactSynHear:laws_FnExactSynHear.Pure:=by
 intro s0 s1 s2 s3 s4 s5 s6 s7 s8 s9 s10 s11 s12 s13 s14 s15 s16 s17 s18 s19 s20 s21 s22 s23 s24 Y me a0 a1 a2 a3 a4 a5 a6 a7 a8 a9 a10 a11 a12 a13 a14 a15 a16 a17 a18 a19 a20 a21 a22 a23 P L hs _ hw
 have hlY:Y.length≤maxLen:=hs.2.2.2.2.2.1
 have w1:=wf_i64 hw.2.1
 have w2:=wf_i64 hw.2.2.1
 have wP:P.length≤maxLen:=hw.2.2.2.2.2.2.2.2.2.2.2.2.2.2.2.1.1
 have wL:L.length≤maxLen:=hw.2.2.2.2.2.2.2.2.2.2.2.2.2.2.2.2.1
 have hm:maxLen≤9223372036854775807:=by decide
 refine T.rounds (g:=fun k=>laws_FnExactSynHear.f k s0 s1 s2 s3 s4 s5 s6 s7 s8 s9 s10 s11 s12 s13 s14 s15 s16 s17 s18 s19 s20 s21 s22 s23 s24 Y me a0 a1 a2 a3 a4 a5 a6 a7 a8 a9 a10 a11 a12 a13 a14 a15 a16 a17 a18 a19 a20 a21 a22 a23 P L) ?_
 obtain ⟨z1,hz1,hz1'⟩:=szS s0 s1 s2 s3 s4 s5 s6 s7 s8 s9 s10 s11 s12 s13 s14 s15 s16 s17 s18 s19 s20 s21 s22 s23 s24 Y 1048576 (by omega) (by omega) (by omega)
 simp only [laws_FnExactSynHear.f,hz1,Option.bind_some]
 refine T.ite (fun _=>T.ret rfl) (fun n1=>?_)
 obtain ⟨z2,hz2,hz2'⟩:=szW a0 a1 a2 a3 a4 a5 a6 a7 a8 a9 a10 a11 a12 a13 a14 a15 a16 a17 a18 a19 a20 a21 a22 a23 P L z1 (by omega) (by omega) (by omega) (by omega)
 simp only [hz2,Option.bind_some]
 refine T.ite (fun _=>T.ret rfl) (fun n2=>?_)
 have hY:Y.length≤1048576:=by omega
 have hP:P.length≤1048576:=by omega
 have hL:L.length≤1048576:=by omega
 have kP:(P.map toBlkPiece).length≤1048576:=by rw [List.length_map];exact hP
 have kL:(L.map toBlkLast).length≤1048576:=by rw [List.length_map];exact hL
 have tS:=toSeeker_T s0 s1 s2 s3 s4 s5 s6 s7 s8 s9 s10 s11 s12 s13 s14 s15 s16 s17 s18 s19 s20 s21 s22 s23 s24 Y hY
 have tW:=toWord_T a0 a1 a2 a3 a4 a5 a6 a7 a8 a9 a10 a11 a12 a13 a14 a15 a16 a17 a18 a19 a20 a21 a22 a23 P L hP hL
 obtain ⟨r,⟨gY,gl⟩,t1,t2⟩:=hear_both s0 s1 s2 s3 s4 s5 s6 s7 s8 s9 s10 s11 s12 s13 s14 s15 s16 s17 s18 s19 s20 s21 s22 s23 s24 Y me a0 a1 a2 a3 a4 a5 a6 a7 a8 a9 a10 a11 a12 a13 a14 a15 a16 a17 a18 a19 a20 a21 a22 a23 (P.map toBlkPiece) (L.map toBlkLast) hY kP kL w1 w2
 have gl3:r.2.2.2.2.2.2.2.2.2.2.2.2.2.2.2.2.2.2.2.2.2.2.2.2.2.2.1.length≤1000000:=by rcases gl with e|⟨_,_,_,e⟩<;>rw [e]<;>simp
 have eS:=eqSeeker_same r.1 r.2.1 r.2.2.1 r.2.2.2.1 r.2.2.2.2.1 r.2.2.2.2.2.1 r.2.2.2.2.2.2.1 r.2.2.2.2.2.2.2.1 r.2.2.2.2.2.2.2.2.1 r.2.2.2.2.2.2.2.2.2.1 r.2.2.2.2.2.2.2.2.2.2.1 r.2.2.2.2.2.2.2.2.2.2.2.1 r.2.2.2.2.2.2.2.2.2.2.2.2.1 r.2.2.2.2.2.2.2.2.2.2.2.2.2.1 r.2.2.2.2.2.2.2.2.2.2.2.2.2.2.1 r.2.2.2.2.2.2.2.2.2.2.2.2.2.2.2.1 r.2.2.2.2.2.2.2.2.2.2.2.2.2.2.2.2.1 r.2.2.2.2.2.2.2.2.2.2.2.2.2.2.2.2.2.1 r.2.2.2.2.2.2.2.2.2.2.2.2.2.2.2.2.2.2.1 r.2.2.2.2.2.2.2.2.2.2.2.2.2.2.2.2.2.2.2.1 r.2.2.2.2.2.2.2.2.2.2.2.2.2.2.2.2.2.2.2.2.1 r.2.2.2.2.2.2.2.2.2.2.2.2.2.2.2.2.2.2.2.2.2.1 r.2.2.2.2.2.2.2.2.2.2.2.2.2.2.2.2.2.2.2.2.2.2.1 r.2.2.2.2.2.2.2.2.2.2.2.2.2.2.2.2.2.2.2.2.2.2.2.1 r.2.2.2.2.2.2.2.2.2.2.2.2.2.2.2.2.2.2.2.2.2.2.2.2.1 r.2.2.2.2.2.2.2.2.2.2.2.2.2.2.2.2.2.2.2.2.2.2.2.2.2.1 (by omega)
 have eW:=eqWs r.2.2.2.2.2.2.2.2.2.2.2.2.2.2.2.2.2.2.2.2.2.2.2.2.2.2.1 gl3
 have nb:¬ (r.2.2.2.2.2.2.2.2.2.2.2.2.2.2.2.2.2.2.2.2.2.2.2.2.2.2.2 != r.2.2.2.2.2.2.2.2.2.2.2.2.2.2.2.2.2.2.2.2.2.2.2.2.2.2.2)=true:=by simp
 obtain ⟨e,M,he,hm1,hm2⟩:=marked r.2.2.2.2.2.2.2.2.2.2.2.2.2.2.2.2.2.2.2.2.2.2.2.2.2.2.1 (1+(r.2.2.2.2.2.2.2.2.2.2.2.2.2.2.2.2.2.2.2.2.2.2.2.2.2.1.length:Int)) (by omega) (by omega) gl
 have hS:=heldS r.1 r.2.1 r.2.2.1 r.2.2.2.1 r.2.2.2.2.1 r.2.2.2.2.2.1 r.2.2.2.2.2.2.1 r.2.2.2.2.2.2.2.1 r.2.2.2.2.2.2.2.2.1 r.2.2.2.2.2.2.2.2.2.1 r.2.2.2.2.2.2.2.2.2.2.1 r.2.2.2.2.2.2.2.2.2.2.2.1 r.2.2.2.2.2.2.2.2.2.2.2.2.1 r.2.2.2.2.2.2.2.2.2.2.2.2.2.1 r.2.2.2.2.2.2.2.2.2.2.2.2.2.2.1 r.2.2.2.2.2.2.2.2.2.2.2.2.2.2.2.1 r.2.2.2.2.2.2.2.2.2.2.2.2.2.2.2.2.1 r.2.2.2.2.2.2.2.2.2.2.2.2.2.2.2.2.2.1 r.2.2.2.2.2.2.2.2.2.2.2.2.2.2.2.2.2.2.1 r.2.2.2.2.2.2.2.2.2.2.2.2.2.2.2.2.2.2.2.1 r.2.2.2.2.2.2.2.2.2.2.2.2.2.2.2.2.2.2.2.2.1 r.2.2.2.2.2.2.2.2.2.2.2.2.2.2.2.2.2.2.2.2.2.1 r.2.2.2.2.2.2.2.2.2.2.2.2.2.2.2.2.2.2.2.2.2.2.1 r.2.2.2.2.2.2.2.2.2.2.2.2.2.2.2.2.2.2.2.2.2.2.2.1 r.2.2.2.2.2.2.2.2.2.2.2.2.2.2.2.2.2.2.2.2.2.2.2.2.1 r.2.2.2.2.2.2.2.2.2.2.2.2.2.2.2.2.2.2.2.2.2.2.2.2.2.1.length gY
 refine T.bind_eq tS (T.bind_eq tW (T.bind_eq t1 (T.bind_eq tS (T.bind_eq tW (T.bind_eq t2 ?_)))))
 refine T.bind_eq eS (T.pos rfl (T.bind_eq eW (T.pos rfl (T.neg nb ?_))))
 refine T.bind_eq tS (T.bind_eq (eqSeeker_same s0 s1 s2 s3 s4 s5 s6 s7 s8 s9 s10 s11 s12 s13 s14 s15 s16 s17 s18 s19 s20 s21 s22 s23 s24 Y (by omega)) (T.pos rfl (T.bind_eq tW (T.bind_eq (eqWord_same a0 a1 a2 a3 a4 a5 a6 a7 a8 a9 a10 a11 a12 a13 a14 a15 a16 a17 a18 a19 a20 a21 a22 a23 (P.map toBlkPiece) (L.map toBlkLast) (by omega) (by omega)) (T.pos rfl ?_)))))
 refine T.bind_eq (markS s0 s1 s2 s3 s4 s5 s6 s7 s8 s9 s10 s11 s12 s13 s14 s15 s16 s17 s18 s19 s20 s21 s22 s23 s24 Y hY) (T.bind (markW a0 a1 a2 a3 a4 a5 a6 a7 a8 a9 a10 a11 a12 a13 a14 a15 a16 a17 a18 a19 a20 a21 a22 a23 _ _ _ (by omega) (by omega) kP kL) (fun m hmm=>?_))
 refine T.neg (by omega) (T.bind_eq eS (T.pos rfl (T.bind_eq eW (T.pos rfl ?_))))
 refine T.bind_eq (markS r.1 r.2.1 r.2.2.1 r.2.2.2.1 r.2.2.2.2.1 r.2.2.2.2.2.1 r.2.2.2.2.2.2.1 r.2.2.2.2.2.2.2.1 r.2.2.2.2.2.2.2.2.1 r.2.2.2.2.2.2.2.2.2.1 r.2.2.2.2.2.2.2.2.2.2.1 r.2.2.2.2.2.2.2.2.2.2.2.1 r.2.2.2.2.2.2.2.2.2.2.2.2.1 r.2.2.2.2.2.2.2.2.2.2.2.2.2.1 r.2.2.2.2.2.2.2.2.2.2.2.2.2.2.1 r.2.2.2.2.2.2.2.2.2.2.2.2.2.2.2.1 r.2.2.2.2.2.2.2.2.2.2.2.2.2.2.2.2.1 r.2.2.2.2.2.2.2.2.2.2.2.2.2.2.2.2.2.1 r.2.2.2.2.2.2.2.2.2.2.2.2.2.2.2.2.2.2.1 r.2.2.2.2.2.2.2.2.2.2.2.2.2.2.2.2.2.2.2.1 r.2.2.2.2.2.2.2.2.2.2.2.2.2.2.2.2.2.2.2.2.1 r.2.2.2.2.2.2.2.2.2.2.2.2.2.2.2.2.2.2.2.2.2.1 r.2.2.2.2.2.2.2.2.2.2.2.2.2.2.2.2.2.2.2.2.2.2.1 r.2.2.2.2.2.2.2.2.2.2.2.2.2.2.2.2.2.2.2.2.2.2.2.1 r.2.2.2.2.2.2.2.2.2.2.2.2.2.2.2.2.2.2.2.2.2.2.2.2.1 r.2.2.2.2.2.2.2.2.2.2.2.2.2.2.2.2.2.2.2.2.2.2.2.2.2.1 gY) (T.bind_eq hm1 (T.bind_eq hS (T.neg (by omega) (T.bind_eq hm2 (T.neg (by omega) (T.pos rfl ?_))))))
 refine T.bind_eq tS (T.bind_eq tW (T.bind_eq t2 (T.bind_eq eS (T.pos rfl (T.bind_eq eW (T.pos rfl (T.neg nb ?_)))))))
 exact T.bind_eq hS (T.neg (by omega) (T.bind_eq hm2 (T.neg (by omega) (T.pos rfl (T.ret rfl)))))
end Go.Proofs.Ytoieojmfkkidnaa.Pure
