/-
 When a voter is right,for the program and the reference alike.
 Conditions: lists of at most two millions of elements.
-/
import Derived.Test.YtoieojmfkkidnaaXPaper
import Derived.Test.YtoieojmfkkidnaaPx6
import Derived.Test.YtoieojmfkkidnaaPx5
namespace Go.Proofs.YtoieojmfkkidnaaX
open Go.RowKit Go.Proofs.Ytoieojmfkkidnaa.P Go.Proofs.YtoieojmfkkidnaaW.PrintWords Go.Proofs.YtoieojmfkkidnaaW.PrintLast Go.Proofs.YtoieojmfkkidnaaW.PrintMore
set_option linter.unusedVariables false
set_option linter.unusedSimpArgs false
abbrev Pp:=S64
def slotOk (P:Int) (L:List Pp) (j:Nat):Prop:=paperB (rd_T64 L (j:Int))=true∧(rd_T64 L (j:Int)).f1≤P∧(0<j→(rd_T64 L ((j - 1:Nat):Int)).f0<(rd_T64 L (j:Int)).f0)
def slotsFrom (P:Int) (L:List Pp) (i:Nat):Prop:=∀ j,i≤j→j<L.length→slotOk P L j
theorem slotsFrom_step {P:Int} {L:List Pp} {i:Nat} (h:i<L.length):slotsFrom P L i ↔ slotOk P L i∧slotsFrom P L (i+1) :=
 ⟨fun h1=>⟨h1 i (Nat.le_refl _) h,fun j hj hl=>h1 j (by omega) hl⟩,fun h1 j hj hl=>by
  by_cases e:j=i
  ·rw [e];exact h1.1
  ·exact h1.2 j (by omega) hl⟩
theorem spec_voter_loop (P:Int) (L:List Pp) (hL:L.length≤4611686018427387904):∀ (d i:Nat),L.length - i=d→i≤L.length →
  T (fun k=>spec_SynVoterOk.l0 k (i:Int) P L) (fun r=>r=true ↔ slotsFrom P L i):=by
 intro d
 induction d with
 | zero =>
  intro i hd hi
  refine T.succ ?_
  simp only [spec_SynVoterOk.l0]
  exact T.neg (by omega) (T.ret ⟨fun _ j hj hl=>by omega,fun _=>rfl⟩)
 | succ d ih =>
  intro i hd hi
  have hlt:i<L.length:=by omega
  have next:=ih (i+1) (by omega) (by omega)
  refine T.succ ?_
  simp only [spec_SynVoterOk.l0,spec_paper,Option.bind_some,wrap_succ hlt hL]
  rw [slotsFrom_step hlt]
  refine T.pos (by omega) (T.pos (by omega) ?_)
  refine T.ite (fun h1=>?_) (fun h1=>T.ret ⟨ff,fun h=>absurd h.1.1 h1⟩)
  refine T.ite (fun h2=>T.ret ⟨ff,fun h=>absurd h.1.2.1 (by omega)⟩) (fun h2=>?_)
  refine T.ite (fun h3=>?_) (fun h3=>?_)
  ·rw [wrap_pred (show 0<i by omega) hlt hL]
   refine T.pos (by omega) (T.pos (by omega) ?_)
   refine T.ite (fun h4=>T.ret ⟨ff,fun h=>absurd (h.1.2.2 (by omega)) (by omega)⟩) (fun h4=>?_)
   exact next.mono (fun r hr=>hr.trans ⟨fun h=>⟨⟨h1,by omega,fun _=>by omega⟩,h⟩,fun h=>h.2⟩)
  ·exact next.mono (fun r hr=>hr.trans ⟨fun h=>⟨⟨h1,by omega,fun h0=>by omega⟩,h⟩,fun h=>h.2⟩)
theorem impl_voter_loop (P:Int) (L:List Pp) (hL:L.length≤4611686018427387904):∀ (d i:Nat),L.length - i=d→i≤L.length →
  T (fun k=>impl_SynVoterOk.l0 k L (L.length:Int) (i:Int) P L) (fun r=>r=true ↔ slotsFrom P L i∧(0≤P∧P≤99999)∧L.length≤60):=by
 intro d
 induction d with
 | zero =>
  intro i hd hi
  refine T.succ ?_
  simp only [impl_SynVoterOk.l0,in_f,Option.bind_some]
  refine T.neg (by omega) ?_
  refine T.ite (fun h=>T.ret ?_) (fun h=>T.ret ⟨ff,fun h1=>absurd h1.2.1 (by simpa using h)⟩)
  simp only [decide_eq_true_eq] at h ⊢
  exact ⟨fun h1=>⟨fun j hj hl=>by omega,h,by omega⟩,fun h1=>by omega⟩
 | succ d ih =>
  intro i hd hi
  have hlt:i<L.length:=by omega
  have next:=ih (i+1) (by omega) (by omega)
  refine T.succ ?_
  simp only [impl_SynVoterOk.l0,wrap_succ hlt hL]
  rw [slotsFrom_step hlt]
  refine T.pos (by omega) (T.pos (by omega) (T.pos (by omega) ?_))
  refine T.bind_eq (impl_paper (rd_T64 L (i:Int))) ?_
  refine T.ite (fun h1=>?_) (fun h1=>T.ret ⟨ff,fun h=>absurd h.1.1.1 h1⟩)
  refine T.ite (fun h2=>T.ret ⟨ff,fun h=>absurd h.1.1.2.1 (by omega)⟩) (fun h2=>?_)
  refine T.ite (fun h3=>?_) (fun h3=>?_)
  ·rw [wrap_pred (show 0<i by omega) hlt hL]
   refine T.pos (by omega) (T.pos (by omega) ?_)
   refine T.ite (fun h4=>T.ret ⟨ff,fun h=>absurd (h.1.1.2.2 (by omega)) (by omega)⟩) (fun h4=>?_)
   exact next.mono (fun r hr=>hr.trans ⟨fun h=>⟨⟨⟨h1,by omega,fun _=>by omega⟩,h.1⟩,h.2⟩,fun h=>⟨h.1.2,h.2⟩⟩)
  ·exact next.mono (fun r hr=>hr.trans ⟨fun h=>⟨⟨⟨h1,by omega,fun h0=>by omega⟩,h.1⟩,h.2⟩,fun h=>⟨h.1.2,h.2⟩⟩)
open Classical in
noncomputable def voterB (P:Int) (L:List Pp):Bool:=decide (slotsFrom P L 0∧(0≤P∧P≤99999)∧L.length≤60)
theorem voterB_iff (P:Int) (L:List Pp):voterB P L=true ↔ slotsFrom P L 0∧(0≤P∧P≤99999)∧L.length≤60:=by simp [voterB]
theorem impl_voter (P:Int) (L:List Pp) (hL:L.length≤4611686018427387904):T (fun k=>impl_SynVoterOk.f k P L) (·=voterB P L) :=
 (impl_voter_loop P L hL _ 0 rfl (Nat.zero_le _)).mono (fun r hr=>Bool.eq_iff_iff.2 (hr.trans (voterB_iff P L).symm))
theorem spec_voter (P:Int) (L:List Pp) (hL:L.length≤4611686018427387904):T (fun k=>spec_SynVoterOk.f k P L) (·=voterB P L):=by
 have bad:¬ ((0≤P∧P≤99999)∧L.length≤60)→T (fun k=>spec_SynVoterOk.j0 k true P L) (·=voterB P L):=fun h=>by
  refine T.succ ?_
  simp only [spec_SynVoterOk.j0,if_true]
  exact T.ret (Bool.eq_iff_iff.2 ⟨ff,fun h1=>absurd ((voterB_iff P L).1 h1).2 h⟩)
 simp only [spec_SynVoterOk.f,l6In_f,Option.bind_some]
 refine T.ite (fun h=>?_) (fun h=>bad (fun h1=>h (decide_eq_true h1.1)))
 have h:0≤P∧P≤99999:=by simpa using h
 by_cases hl:L.length≤60
 ·rw [decide_eq_false (by omega)]
  refine T.succ ?_
  simp only [spec_SynVoterOk.j0]
  refine T.neg (by simp) ?_
  exact (spec_voter_loop P L hL _ 0 rfl (Nat.zero_le _)).mono (fun r hr=>Bool.eq_iff_iff.2 (hr.trans ⟨fun h1=>(voterB_iff P L).2 ⟨h1,h,hl⟩,fun h1=>((voterB_iff P L).1 h1).1⟩))
 ·rw [decide_eq_true (by omega)]
  exact bad (fun h1=>hl h1.2)
end Go.Proofs.YtoieojmfkkidnaaX
