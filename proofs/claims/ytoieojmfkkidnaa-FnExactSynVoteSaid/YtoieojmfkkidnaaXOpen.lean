/-
 Arguments that come in as data are read as the printed kinds say,type by type: whole numbers,bools,strings,slices,structs.
 Conditions: none beyond the types' own descriptions.
-/
import Derived.Test.YtoieojmfkkidnaaXCopy
import Derived.Deep.Slices
import Derived.DataOpen
import Derived.WideShapes
import Derived.ChangeShapes
namespace Go.Proofs.YtoieojmfkkidnaaX
open Go.RowKit Go.Proofs.YtoieojmfkkidnaaW.PrintWords Go.Proofs.YtoieojmfkkidnaaW.PrintLast Go.Proofs.YtoieojmfkkidnaaW.PrintMore
set_option linter.unusedVariables false
set_option linter.unusedSimpArgs false
/-- A datum of type t, read, is one of the kind d. -/
def Opens (P:Program) (t:TypeId) {α:Type} (d:Kd α) (wf:α→Prop):Prop :=
 P.cellsOf t=d.sz∧∀ (H:Type) (enc:TypeId × Value→H) (w:World) (base:Nat) (spare:Nat→Bool) (held:Bool) (fuel:Nat) (cs:List Value) (x:DataW H × List MemPlace),
  DataW.trod enc P w base spare held fuel t cs=some x→∃ a,d.K w a cs∧wf a
def OpensF (P:Program) (fs:List Field) {α:Type} (d:Kd α) (wf:α→Prop):Prop :=
 ∀ (H:Type) (enc:TypeId × Value→H) (w:World) (base:Nat) (spare:Nat→Bool) (held:Bool) (fuel:Nat) (cs:List Value) (off:Nat) (xs:List (DataW H × List MemPlace)),
  P.consecB fs off cs.length=true→fs.mapM (fun f=>DataW.trod enc P w base spare held fuel f.type ((cs.drop f.offset).take (P.cellsOf f.type)))=some xs→∃ a,d.K w a (cs.drop off)∧wf a
variable {P:Program} {t:TypeId}
theorem opens_int {k:IntKind} (ht:P.underlying t=some (.int k)) (hc:P.cellsOf t=1):Opens P t (Kd.int k) (fun n=>(Lit.int k n).wf=true):=by
 refine ⟨hc,?_⟩
 intro H enc w base spare held fuel cs x h
 cases fuel with
 | zero=>simp [DataW.trod] at h
 | succ m =>
  unfold DataW.trod at h
  rw [ht] at h
  match cs,h with
  | [.int k' n],h =>
   simp only at h
   split at h
   ·rename_i hk
    obtain ⟨rfl,hw⟩:=hk
    exact ⟨n,rfl,hw⟩
   ·cases h
theorem opens_slice {e:TypeId} {α:Type} [Inhabited α] {d:Kd α} {wf:α→Prop} (ht:P.underlying t=some (.slice e)) (hc:P.cellsOf t=1) (he:Opens P e d wf):Opens P t (Kd.slice e d) (fun xs=>xs.length≤maxLen∧∀ x ∈ xs,wf x):=by
 refine ⟨hc,?_⟩
 intro H enc w base spare held fuel cs x h
 rcases Go.Deep.open_slice ht h with ⟨rfl,_⟩|⟨a,len,cap,m,n,D,Pl,rfl,hb,hl,hm,hmm,_,hx⟩
 ·exact ⟨[],⟨none,0,rfl,Nat.le_refl _,Kd.C_nil d w⟩,Nat.zero_le _,fun x hx=>by cases hx⟩
 ·have hlm:len≤m:=by rw [hmm];split<;>omega
  have key:∀ i,i<len→∃ y:α,(∃ c,c.length=d.sz∧d.K w y c∧∀ j u,c[j]?=some u→w.cell? (a.add (i * d.sz+j))=some u)∧wf y:=fun i hi=>by
   obtain ⟨c,h1,h2⟩:=hx i (by omega)
   obtain ⟨y,hK,hw⟩:=he.2 _ _ _ _ _ _ _ _ _ h2
   obtain ⟨_,hlen,hcell⟩:=World.cells?_some h1
   rw [he.1] at hlen hcell
   refine ⟨y,⟨c,hlen,hK,fun j u hu=>?_⟩,hw⟩
   have hj:j<d.sz:=by rw [← hlen];exact (List.getElem?_eq_some_iff.1 hu).1
   rw [← Go.Deep.add_add,hcell j hj]
   exact hu
  obtain ⟨f,hf⟩:=Go.Deep.choose_lt key
  have hm':len≤9223372036854775807:=by unfold maxLen at hm;omega
  refine ⟨(List.range len).map f,⟨some a,cap,by simp,by simpa using hl,by simp,by simpa using hm',fun _=>⟨a,rfl,fun j p hj=>?_⟩⟩,by unfold maxLen;simpa using hm',fun x hx=>?_⟩
  ·obtain ⟨hj1,hj2⟩:=List.getElem?_eq_some_iff.1 hj
   have hj3:j<len:=by simpa using hj1
   have:f j=p:=by simpa using hj2
   subst this
   exact (hf j hj3).1
  ·obtain ⟨i,hi,rfl⟩:=List.mem_map.1 hx
   exact (hf i (List.mem_range.1 hi)).2
theorem opensF_one {f:Field} {α:Type} {d:Kd α} {wf:α→Prop} (h:Opens P f.type d wf):OpensF P [f] d wf:=by
 intro H enc w base spare held fuel cs off xs hc hm
 simp only [Program.consecB,Bool.and_eq_true,beq_iff_eq] at hc
 obtain ⟨rfl,hc⟩:=hc
 rw [List.mapM_cons] at hm
 cases hx:DataW.trod enc P w base spare held fuel f.type ((cs.drop f.offset).take (P.cellsOf f.type)) with
 | none=>simp [hx] at hm
 | some p =>
  obtain ⟨a,hK,hw⟩:=h.2 _ _ _ _ _ _ _ _ _ hx
  rw [List.take_of_length_le (by simp;omega)] at hK
  exact ⟨a,hK,hw⟩
theorem opensF_cons {f:Field} {fs:List Field} {α β:Type} {a:Kd α} {b:Kd β} {wfa:α→Prop} {wfb:β→Prop} (h:Opens P f.type a wfa) (hs:OpensF P fs b wfb):OpensF P (f :: fs) (Kd.pair a b) (fun x=>wfa x.1∧wfb x.2):=by
 intro H enc w base spare held fuel cs off xs hc hm
 simp only [Program.consecB,Bool.and_eq_true,beq_iff_eq] at hc
 obtain ⟨rfl,hc⟩:=hc
 rw [List.mapM_cons] at hm
 cases hx:DataW.trod enc P w base spare held fuel f.type ((cs.drop f.offset).take (P.cellsOf f.type)) with
 | none=>simp [hx] at hm
 | some p =>
  cases hxs:fs.mapM (fun f=>DataW.trod enc P w base spare held fuel f.type ((cs.drop f.offset).take (P.cellsOf f.type))) with
  | none=>simp [hx,hxs] at hm
  | some ps =>
   obtain ⟨y,hK,hw⟩:=h.2 _ _ _ _ _ _ _ _ _ hx
   obtain ⟨z,hK2,hw2⟩:=hs _ _ _ _ _ _ _ _ _ _ hc hxs
   refine ⟨(y,z),⟨_,_,?_,hK,hK2⟩,hw,hw2⟩
   exact (take_drop_step cs f.offset (P.cellsOf f.type)).symm
theorem opens_struct {fs:Array Field} {α β:Type} {d:Kd α} {wf:α→Prop} (g:β→α) (g':α→β) (hg:∀ a,g (g' a)=a) (ht:P.underlying t=some (.struct fs)) (hsz:P.cellsOf t=d.sz) (hc:P.consecB fs.toList 0 (P.cellsOf t)=true)
  (h:OpensF P fs.toList d wf):Opens P t (Kd.iso d g) (fun x=>wf (g x)):=by
 refine ⟨hsz,?_⟩
 intro H enc w base spare held fuel cs x hx
 cases fuel with
 | zero=>simp [DataW.trod] at hx
 | succ m =>
  unfold DataW.trod at hx
  rw [ht] at hx
  have hx':(if cs.length=P.cellsOf t then (fs.toList.mapM fun f=>DataW.trod enc P w base spare held m f.type ((cs.drop f.offset).take (P.cellsOf f.type))).map fun xs=>((.agg (xs.map (·.1)):DataW H),xs.flatMap (·.2)) else none)=some x:=by
   split at hx<;>simp_all
  split at hx'
  ·rename_i hl
   obtain ⟨xs,h1,_⟩:=Option.map_eq_some_iff.1 hx'
   obtain ⟨a,hK,hw⟩:=h _ _ _ _ _ _ _ _ 0 _ (by rw [hl];exact hc) h1
   rw [List.drop_zero] at hK
   refine ⟨g' a,?_,?_⟩
   ·show d.K w (g (g' a)) cs
    rw [hg];exact hK
   ·show wf (g (g' a))
    rw [hg];exact hw
  ·cases hx'
end Go.Proofs.YtoieojmfkkidnaaX
