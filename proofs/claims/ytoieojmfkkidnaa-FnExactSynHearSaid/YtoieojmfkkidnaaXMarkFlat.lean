/-
 Marks on whole numbers and on flat words: what is marked is found again.
 Conditions: sizes far below Go's bounds.
-/
import Derived.Test.YtoieojmfkkidnaaXPure
import Derived.Test.YtoieojmfkkidnaaPx8
import Derived.Test.YtoieojmfkkidnaaPx9
import Derived.Test.YtoieojmfkkidnaaPx10
import Derived.Tactics
namespace Go.Proofs.YtoieojmfkkidnaaX
open Go.RowKit Go.Proofs.Ytoieojmfkkidnaa.P Go.Proofs.YtoieojmfkkidnaaW.PrintWords Go.Proofs.YtoieojmfkkidnaaW.PrintLast Go.Proofs.YtoieojmfkkidnaaW.PrintMore
set_option linter.unusedVariables false
set_option linter.unusedSimpArgs false
theorem T_mono {α:Type} {g:Nat→Option α} (hm:∀ k,LeO (g k) (g (k+1))) (K:Nat) {r:α} (h:g K=some r):T g (·=r):=by
 refine ⟨r,rfl,K,?_⟩
 intro k hk
 induction k with
 | zero=>
  obtain rfl:K=0:=by omega
  exact h
 | succ n ih =>
  by_cases e:K=n+1
  ·subst e;exact h
  ·exact hm n r (ih (by omega))
def iota:Int→Nat→List Int
 | _,0=>[]
 | a,n+1=>a :: iota (a+1) n
theorem iota_len:∀ (n:Nat) (a:Int),(iota a n).length=n
 | 0,_=>rfl
 | n+1,a=>by simp [iota,iota_len n]
theorem iota_snoc:∀ (n:Nat) (a:Int),iota a (n+1)=iota a n ++ [a+(n:Int)]
 | 0,a=>by simp [iota]
 | n+1,a=>by
  rw [show iota a (n+1+1)=a :: iota (a+1) (n+1) from rfl,iota_snoc n (a+1),show iota a (n+1)=a :: iota (a+1) n from rfl,List.cons_append]
  congr 3
  omega
theorem iota_get:∀ (n:Nat) (a:Int) (i:Nat) (h:i<(iota a n).length),(iota a n)[i]=a+(i:Int)
 | 0,_,i,h=>by simp [iota] at h
 | n+1,a,0,_=>by simp [iota]
 | n+1,a,i+1,h=>by
  have:=iota_get n (a+1) i (by simpa [iota] using h)
  simp only [iota,List.getElem_cons_succ,this]
  omega
theorem markI_loop (a:Int) (ha:0≤a):∀ (d i:Nat) (y:List Int),y.length - i=d→i≤y.length→y.take i=iota a i→a+(y.length:Int)≤4611686018427387904 →
  T (fun k=>laws_markIntS.l0 k y (a+(i:Int)) (i:Int)) (·=(a+(y.length:Int),iota a y.length)):=by
 intro d
 induction d with
 | zero =>
  intro i y hd hi hy hb
  have e:i=y.length:=by omega
  subst e
  rw [List.take_length] at hy
  refine T.succ ?_
  simp only [laws_markIntS.l0]
  refine T.neg (by omega) (T.ret ?_)
  rw [← hy]
 | succ d ih =>
  intro i y hd hi hy hb
  have hlt:i<y.length:=by omega
  refine T.succ ?_
  simp only [laws_markIntS.l0]
  refine T.pos (by omega) (T.pos (by omega) ?_)
  rw [wrap_succ hlt (by omega),wrap64_id (x:=a+(i:Int)+1) (by omega) (by omega),Int.toNat_natCast]
  have:=ih (i+1) (y.set i (a+(i:Int))) (by rw [List.length_set];omega) (by rw [List.length_set];omega)
   (by rw [List.take_succ_eq_append_getElem (by rw [List.length_set];exact hlt),List.take_set_of_le (Nat.le_refl _),hy,List.getElem_set_self,← iota_snoc]) (by rw [List.length_set];exact hb)
  rw [show a+((i+1:Nat):Int)=a+(i:Int)+1 by omega] at this
  simpa only [List.length_set] using this
theorem markI (y:List Int) (a:Int) (ha:0≤a) (hb:a+(y.length:Int)≤4611686018427387904):T (fun k=>laws_markIntS.f k y a) (·=(a+(y.length:Int),iota a y.length)):=by
 have:=markI_loop a ha _ 0 y rfl (Nat.zero_le _) rfl hb
 simpa [laws_markIntS.f] using this
theorem heldI_loop (a:Int) (ha:0≤a) (n:Nat) (hb:a+(n:Int)≤4611686018427387904):∀ (d i:Nat),n - i=d→i≤n →
  T (fun k=>laws_heldIntS.l0 k (iota a n) (a+(i:Int)) (i:Int)) (·=a+(n:Int)):=by
 intro d
 induction d with
 | zero =>
  intro i hd hi
  have e:i=n:=by omega
  subst e
  refine T.succ ?_
  simp only [laws_heldIntS.l0]
  exact T.neg (by rw [iota_len];omega) (T.ret rfl)
 | succ d ih =>
  intro i hd hi
  have hlt:i<n:=by omega
  refine T.succ ?_
  simp only [laws_heldIntS.l0]
  have hr:rd (iota a n) (i:Int)=a+(i:Int):=(getD_nat _ i (by rw [iota_len];exact hlt) _).trans (iota_get n a i (by rw [iota_len];exact hlt))
  refine T.pos (by rw [iota_len];omega) (T.pos (by omega) (T.pos hr ?_))
  rw [wrap_succ hlt (by omega),wrap64_id (x:=a+(i:Int)+1) (by omega) (by omega)]
  have:=ih (i+1) (by omega) (by omega)
  rw [show a+((i+1:Nat):Int)=a+(i:Int)+1 by omega] at this
  exact this
theorem heldI (n:Nat) (a:Int) (ha:0≤a) (hb:a+(n:Int)≤4611686018427387904):T (fun k=>laws_heldIntS.f k (iota a n) a) (·=a+(n:Int)):=by
 have:=heldI_loop a ha n hb _ 0 rfl (Nat.zero_le _)
 simpa [laws_heldIntS.f] using this
def nst:Nat→Int→Int
 | 0,K=>K
 | n+1,K=>wrap64 (nst n K+1)
theorem nst_val (K:Int) (h0:0≤K) (h1:K≤1000000000000):∀ n:Nat,n≤1000→nst n K=K+(n:Int)
 | 0,_=>by simp [nst]
 | n+1,hn=>by
  rw [nst,nst_val K h0 h1 n (by omega),wrap64_id (by omega) (by omega)]
  omega
def elN (K:Int):S9028:=(⟨nst 0 K,nst 1 K,nst 2 K,nst 3 K,nst 4 K,nst 5 K,(⟨nst 6 K,nst 7 K,nst 8 K,nst 9 K,nst 10 K,nst 11 K,nst 12 K,nst 13 K,nst 14 K,nst 15 K⟩:S24),nst 16 K,nst 17 K,nst 18 K,nst 19 K,nst 20 K,nst 21 K,nst 22 K,nst 23 K,(),()⟩:S9028)
theorem mark_w3 (x y z:S9028) (K:Int):T (fun k=>laws_markWordS.f k [x,y,z] K) (·=(nst 24 (nst 24 (nst 24 K)),[elN K,elN (nst 24 K),elN (nst 24 (nst 24 K))])):=T_mono (fun k=>laws_markWordS.mono _ _ k) 6 (by kernel_rfl)
theorem mark_w0 (K:Int):T (fun k=>laws_markWordS.f k [] K) (·=(K,[])):=T_mono (fun k=>laws_markWordS.mono _ _ k) 3 (by kernel_rfl)
theorem held_w0 (K:Int):T (fun k=>laws_heldWordS.f k [] K) (·=K):=T_mono (fun k=>laws_heldWordS.mono _ _ k) 3 (by kernel_rfl)
theorem heldP0 (K:Int):T (fun k=>laws_heldBlkPieceS.f k [] K) (·=K):=T_mono (fun k=>laws_heldBlkPieceS.mono _ _ k) 3 (by kernel_rfl)
theorem heldL0 (K:Int):T (fun k=>laws_heldBlkLastS.f k [] K) (·=K):=T_mono (fun k=>laws_heldBlkLastS.mono _ _ k) 3 (by kernel_rfl)
theorem held_step (M:List S9028) (K i:Int) {P:Int→Prop} (hi:i<(M.length:Int)) (h0:0≤i) (he:rd_T9028 M i=elN K) (hK:¬ nst 24 K<0) (h:T (fun k=>laws_heldWordS.l0 k M (nst 24 K) (wrap64 (i+1))) P):T (fun k=>laws_heldWordS.l0 k M K i) P:=by
 refine T.succ ?_
 simp only [laws_heldWordS.l0,he]
 exact T.pos hi (T.pos h0 (T.pos rfl (T.pos rfl (T.pos rfl (T.pos rfl (T.pos rfl (T.pos rfl (T.pos rfl (T.pos rfl (T.pos rfl (T.pos rfl (T.pos rfl (T.pos rfl (T.pos rfl (T.pos rfl (T.pos rfl (T.pos rfl (T.pos rfl (T.pos rfl (T.pos rfl (T.pos rfl (T.pos rfl (T.pos rfl (T.pos rfl (T.pos rfl (T.bind_eq (heldP0 _) (T.neg hK (T.bind_eq (heldL0 _) (T.neg hK h)))))))))))))))))))))))))))))
theorem held_w3 (K:Int) (h0:0≤K) (h1:K≤10000000):T (fun k=>laws_heldWordS.f k [elN K,elN (nst 24 K),elN (nst 24 (nst 24 K))] K) (·=nst 24 (nst 24 (nst 24 K))):=by
 have e1:=nst_val K h0 (by omega) 24 (by omega)
 have e2:=nst_val (nst 24 K) (by omega) (by omega) 24 (by omega)
 have e3:=nst_val (nst 24 (nst 24 K)) (by omega) (by omega) 24 (by omega)
 simp only [laws_heldWordS.f]
 refine held_step _ K 0 (by simp) (by omega) rfl (by omega) ?_
 rw [wrap_one]
 refine held_step _ (nst 24 K) 1 (by simp) (by omega) rfl (by omega) ?_
 rw [wrap_two]
 refine held_step _ (nst 24 (nst 24 K)) 2 (by simp) (by omega) rfl (by omega) ?_
 rw [wrap_three]
 refine T.succ ?_
 simp only [laws_heldWordS.l0]
 exact T.neg (by simp) (T.ret rfl)
theorem nst3 (K:Int) (h0:0≤K) (h1:K≤10000000):0≤nst 24 (nst 24 (nst 24 K)):=by
 have e1:=nst_val K h0 (by omega) 24 (by omega)
 have e2:=nst_val (nst 24 K) (by omega) (by omega) 24 (by omega)
 have e3:=nst_val (nst 24 (nst 24 K)) (by omega) (by omega) 24 (by omega)
 omega
end Go.Proofs.YtoieojmfkkidnaaX
