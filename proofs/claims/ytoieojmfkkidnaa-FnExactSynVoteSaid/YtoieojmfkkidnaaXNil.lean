/-
 Stores of whole numbers into an element's fields,one behind the other,as one law of the walk: the element is told by a function 'put'.
 Conditions: the element leads to no memory that the row's maker hasn't made.
-/
import Derived.Test.YtoieojmfkkidnaaXCopy
namespace Go.Proofs.YtoieojmfkkidnaaX
open Go.RowKit Go.Proofs.YtoieojmfkkidnaaW.PrintWords Go.Proofs.YtoieojmfkkidnaaW.PrintLast Go.Proofs.YtoieojmfkkidnaaW.PrintMore
set_option linter.unusedVariables false
set_option linter.unusedSimpArgs false
theorem neB {a b:Int} (h:¬ a=b):(a == b)=false∧(a != b)=true:=⟨beq_eq_false_iff_ne.mpr h,bne_iff_ne.mpr h⟩
theorem RS.nth {w:World} {A:Addr} {cs:List Value} (h:RS w A cs) (j:Nat) {u:Value} (e:cs[j]?=some u) (hj:0<j:=by decide):w.cell? ⟨A.block,A.off+j,none⟩=some u:=by
 have h1:=RS.sub h j 1 hj 0 u (by rw [List.getElem?_take,if_pos (by omega),List.getElem?_drop];exact e)
 simpa [Addr.add] using h1
section
variable {P:Program} {ops:Array Oper} {rest:List Oper} {o:Oper} {a:Act} {Q:Exit→Act→World→Prop} {α:Type}
theorem stE0 {d:Kd α} {e base:Nat} {ok:Nat→Prop} {W:World} {v:Value} {xs:List α} (i:Int) (z:α) (h:d.R e W base ok v xs) (hi:i<(xs.length:Int)) (h0:0≤i):d.R e W base ok v (xs.set i.toNat (xs.getD i.toNat z)):=by
 have he:xs.set i.toNat (xs.getD i.toNat z)=xs:=by
  rw [List.getD_eq_getElem?_getD,List.getElem?_eq_getElem (by omega:i.toNat<xs.length)]
  exact List.set_getElem_self (by omega)
 rw [he];exact h
theorem stEl (d:Kd α) (z:α) (put:α→Nat→Int→α) (m sz:Nat)
  (hput:∀ {W:World} {base:Nat} {okp:Nat→Prop} {y:α} {c:List Value} {j:Nat} {u:Int},j<m→d.M W base okp y c→d.M W base okp (put y j u) (c.take j ++ [.int .i64 u] ++ c.drop (j+1)))
  {w0 W w:World} {base:Nat} (S:Nat→Prop) {t:TypeId} {p:Tmp} {x:Operand} {e g n cap o':Nat} (i:Int) (j:Nat) {xs:List α} {y:α} {u:Int} {ok:Nat→Prop}
  (HO:Aside0 (d.R e W base ok (.slice (some ⟨g,0,none⟩) n cap) (xs.set i.toNat y))) (HB:Aside0 (Below base w0 W)) (HK:Aside0 (Kept w W S)) (hS:∀ k,ok k→S k ∨ w.heap.size≤k)
  (h0:(0≤i)=True) (hi:(i<(n:Int))=True) (hbase:base≤W.heap.size:=by exact (HB.out).size)
  (hj:j<m:=by decide) (hsz:d.sz=sz:=by rfl) (hm:m≤sz:=by decide)
  (hN:o.dst=none:=by rfl) (hgd:o.guard=none:=by rfl) (ho:o.op=.store t (.tmp p) x:=by rfl)
  (haddr:a.eval (.tmp p)=.pointer (some ⟨g,o',none⟩):=by rfl) (hx:a.eval x=.int .i64 u:=by rfl) (hoff:o'=i.toNat * sz+j:=by first|rfl|omega)
  (ht:(P.info? t).map (·.size)=some 1:=by rfl)
  (h:∀ w1,d.R e w1 base ok (.slice (some ⟨g,0,none⟩) n cap) (xs.set i.toNat (put y j u))→Below base w0 w1→Kept w w1 S→wpList P ops Q rest a w1):wpList P ops Q (o :: rest) a W:=by
 subst hoff;subst hsz
 have h0':=of_eq_true h0
 have hi':=of_eq_true hi
 have HO':=HO.out
 have hn:n=xs.length:=by have:=(Kd.R_reads' HO').1;rw [List.length_set] at this;exact this
 have hlt:i.toNat<xs.length:=by omega
 have hset:∀ y':α,(xs.set i.toNat y).set i.toNat y'=xs.set i.toNat y':=fun y'=>List.set_set ..
 obtain ⟨c,hcl,hM,hcc,_⟩:=Kd.R_elem HO' z i h0' hi'
 have hy:(xs.set i.toNat y).getD i.toNat z=y:=by
  rw [List.getD_eq_getElem?_getD,List.getElem?_set_self hlt];rfl
 rw [hy] at hM
 refine Kd.R_store (w0:=w0) d base hN hgd t (.tmp p) x ho e i j (xs.set i.toNat y) (put y j u) (.int .i64 u) [.int .i64 u] c ok (fun k=>ok k∧k≠g) haddr rfl hx rfl ht (fun q hq=>by rw [List.mem_singleton.1 hq];rfl) HO' h0' hi' hcl hcc (by show j+1≤d.sz;omega) (hput hj hM) (fun _ hk=>hk) HB.out ?_
 intro w1 hR hB hg
 refine h w1 (by rw [← hset];exact hR) hB (Kept.of_grown (S:=S) hg HK.out (fun k hk=>?_))
 injection hk with hk
 subst hk
 exact hS _ (HO'.1 _ (by simp [Value.ownBlock]))
end
end Go.Proofs.YtoieojmfkkidnaaX
