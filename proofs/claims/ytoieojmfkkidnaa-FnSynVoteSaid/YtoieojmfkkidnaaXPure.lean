/-
 Total correctness of the printed functions with rounds: 'T g P': with enough rounds g returns one value,and P holds of it.
 Conditions: none.
-/
import Derived.Test.YtoieojmfkkidnaaVWGuardInvWordsMore
namespace Go.Proofs.YtoieojmfkkidnaaX
open Go.RowKit Go.Proofs.YtoieojmfkkidnaaW.PrintWords Go.Proofs.YtoieojmfkkidnaaW.PrintLast Go.Proofs.YtoieojmfkkidnaaW.PrintMore
set_option linter.unusedVariables false
set_option linter.unusedSimpArgs false
def T {α:Type} (g:Nat→Option α) (P:α→Prop):Prop:=∃ r,P r∧∃ K,∀ k,K≤k→g k=some r
section
variable {α β:Type} {g:Nat→Option α} {P Q:α→Prop}
theorem T.ret {r:α} (h:P r):T (fun _=>some r) P:=⟨r,h,0,fun _ _=>rfl⟩
theorem T.mono (h:T g P) (hq:∀ r,P r→Q r):T g Q:=by
 obtain ⟨r,hr,K,hk⟩:=h
 exact ⟨r,hq r hr,K,hk⟩
theorem T.bind {f:Nat→α→Option β} {R:β→Prop} (h:T g P) (hf:∀ a,P a→T (fun k=>f k a) R):T (fun k=>(g k).bind (f k)) R:=by
 obtain ⟨a,ha,K,hk⟩:=h
 obtain ⟨b,hb,K',hk'⟩:=hf a ha
 exact ⟨b,hb,max K K',fun k h=>by
  simp only
  rw [hk k (by omega)]
  exact hk' k (by omega)⟩
theorem T.succ (h:T (fun k=>g (k+1)) P):T g P:=by
 obtain ⟨r,hr,K,hk⟩:=h
 exact ⟨r,hr,K+1,fun k h=>by
  obtain ⟨m,rfl⟩:∃ m,k=m+1:=⟨k - 1,by omega⟩
  exact hk m (by omega)⟩
theorem T.pos {c:Prop} [Decidable c] {a b:Nat→Option α} (hc:c) (h:T a P):T (fun k=>if c then a k else b k) P:=by
 simpa only [if_pos hc] using h
theorem T.neg {c:Prop} [Decidable c] {a b:Nat→Option α} (hc:¬ c) (h:T b P):T (fun k=>if c then a k else b k) P:=by
 simpa only [if_neg hc] using h
theorem T.ite {c:Prop} [Decidable c] {a b:Nat→Option α} (ha:c→T a P) (hb:¬ c→T b P):T (fun k=>if c then a k else b k) P:=by
 by_cases hc:c
 ·exact T.pos hc (ha hc)
 ·exact T.neg hc (hb hc)
theorem T.congr {f:Nat→Option α} (h:T f P) (he:∀ k,g k=f k):T g P:=by
 obtain ⟨r,hr,K,hk⟩:=h
 exact ⟨r,hr,K,fun k h=>(he k).trans (hk k h)⟩
theorem T.rounds {r:α} (h:T g (·=r)):∃ k,g k=some r:=by
 obtain ⟨r',rfl,K,hk⟩:=h
 exact ⟨K,hk K (Nat.le_refl _)⟩
/-- The first value is known. -/
theorem T.bind_eq {f:Nat→α→Option β} {R:β→Prop} {a:α} (h:T g (·=a)) (hf:T (fun k=>f k a) R):T (fun k=>(g k).bind (f k)) R :=
 h.bind (fun b hb=>by subst hb;exact hf)
end
/-- Anything beyond the sizes that Go takes. -/
theorem wrap64_id {x:Int} (h0:-9223372036854775808≤x) (h1:x≤9223372036854775807):wrap64 x=x:=by
 unfold wrap64
 omega
theorem ff {p:Prop} (h:false=true):p:=by cases h
theorem wrap_one:wrap64 ((0:Int)+1)=1:=by unfold wrap64;omega
theorem wrap_two:wrap64 ((1:Int)+1)=2:=by unfold wrap64;omega
theorem wrap_three:wrap64 ((2:Int)+1)=3:=by unfold wrap64;omega
theorem wrap_succ {i n:Nat} (h:i<n) (hn:n≤4611686018427387904):wrap64 ((i:Int)+1)=((i+1:Nat):Int):=by
 rw [wrap64_id (by omega) (by omega)]
 omega
theorem wrap_pred {i n:Nat} (h0:0<i) (h:i<n) (hn:n≤4611686018427387904):wrap64 ((i:Int) - 1)=((i - 1:Nat):Int):=by
 rw [wrap64_id (by omega) (by omega)]
 omega
theorem getD_nat {α:Type} (l:List α) (i:Nat) (h:i<l.length) (d:α):l.getD ((i:Int)).toNat d=l[i]:=by
 rw [List.getD_eq_getElem?_getD,Int.toNat_natCast,List.getElem?_eq_getElem h]
 rfl
end Go.Proofs.YtoieojmfkkidnaaX
