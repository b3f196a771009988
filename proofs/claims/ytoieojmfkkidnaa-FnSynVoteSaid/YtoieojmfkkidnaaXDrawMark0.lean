/-
 What BlkMark comes to,for the program and the reference alike.
 Conditions: lists of at most a million elements.
-/
import Derived.Test.YtoieojmfkkidnaaXLast
import Derived.Test.YtoieojmfkkidnaaXPick
import Derived.Test.YtoieojmfkkidnaaPx13
import Derived.Test.YtoieojmfkkidnaaPx12
namespace Go.Proofs.YtoieojmfkkidnaaX
open Go.RowKit Go.Proofs.Ytoieojmfkkidnaa.P Go.Proofs.YtoieojmfkkidnaaW.PrintWords Go.Proofs.YtoieojmfkkidnaaW.PrintLast Go.Proofs.YtoieojmfkkidnaaW.PrintMore
set_option linter.unusedVariables false
set_option linter.unusedSimpArgs false
theorem spec_call_loop (c:Int) (l:List La) (hl:l.length≤4611686018427387904):∀ (m i:Nat),l.length - i=m→i≤l.length →
  T (fun k=>spec_BlkCall.l0 k l c (i:Int)) (·=callL c (l.drop i)):=by
 intro m
 induction m with
 | zero =>
  intro i hd hi
  refine T.succ ?_
  simp only [spec_BlkCall.l0]
  refine T.neg (by omega) (T.ret ?_)
  rw [List.drop_of_length_le (by omega)];rfl
 | succ m ih =>
  intro i hd hi
  have hlt:i<l.length:=by omega
  refine T.succ ?_
  simp only [spec_BlkCall.l0]
  refine T.pos (by omega) (T.pos (by omega) ?_)
  simp only [rdLa l i hlt,wrap_succ hlt hl]
  rw [List.drop_eq_getElem_cons hlt]
  simp only [callL]
  refine T.ite (fun h=>?_) (fun h=>?_)
  ·rw [if_pos h];exact T.ret rfl
  ·rw [if_neg h];exact ih (i+1) (by omega) (by omega)
theorem spec_call (l:List La) (hl:l.length≤4611686018427387904) (c:Int):T (fun k=>spec_BlkCall.f k l c) (·=callB l c):=by
 simp only [spec_BlkCall.f]
 refine T.bind_eq (spec_lok l) ?_
 unfold callB
 refine T.ite (fun h=>?_) (fun h=>?_)
 ·rw [if_pos h];exact spec_call_loop c l hl _ 0 rfl (Nat.zero_le _)
 ·rw [if_neg h];exact T.ret rfl
def insM (p:La):Bool→List La→List La
 | put,[]=>if put then [] else [p]
 | put,x :: r =>
  let now:=!put && decide (p.f0≤x.f0)
  (if now then [p] else []) ++ ((if x.f0=p.f0 then [] else [x]) ++ insM p (put || now) r)
noncomputable def markB (l:List La) (c v:Int):List La:=if lok l=true then (if (0≤c∧c≤3)∧(1≤v∧v≤99999)∧callB l c<v then insM ⟨c,v⟩ false l else l) else []
theorem insM_put (p:La):∀ l:List La,(insM p true l).length≤l.length
 | []=>by simp [insM]
 | x :: r=>by
  have:=insM_put p r
  simp only [insM]
  by_cases hk:x.f0=p.f0<;>simp [hk]<;>omega
theorem insM_le (p:La):∀ (l:List La) (b:Bool),(insM p b l).length≤l.length+1
 | [],b=>by cases b<;>simp [insM]
 | x :: r,b=>by
  have h1:=insM_le p r true
  have h2:=insM_le p r false
  have h3:(insM p true r).length≤r.length:=insM_put p r
  simp only [insM]
  by_cases hx:p.f0≤x.f0<;>by_cases hk:x.f0=p.f0<;>cases b<;>simp [hx,hk] at h1 h2 h3 ⊢<;>omega
theorem markB_le (l:List La) (c v:Int):(markB l c v).length≤l.length+1:=by
 unfold markB
 split
 ·split
  ·exact insM_le _ _ _
  ·omega
 ·simp
def one (c v:Int):List La:=if v > 0 then [⟨c,v⟩] else []
theorem callL_none {c:Int}:∀ {l:List La},(∀ x ∈ l,x.f0≠c)→callL c l=0
 | [],_=>rfl
 | x :: r,h=>by
  simp only [callL]
  rw [if_neg (h x List.mem_cons_self)]
  exact callL_none (fun y hy=>h y (List.mem_cons_of_mem _ hy))
theorem peel {l:List La} (c:Int) (h:Asc l) (hc:∀ x ∈ l,c≤x.f0):∃ r,l=one c (callL c l) ++ r∧Asc r∧(∀ x ∈ r,c+1≤x.f0)∧∀ c',c<c'→callL c' r=callL c' l:=by
 cases l with
 | nil=>exact ⟨[],by simp [one,callL],h,by simp,fun _ _=>rfl⟩
 | cons x r =>
  have hr:Asc r:=⟨(List.pairwise_cons.1 h.1).2,fun y hy=>h.2 y (List.mem_cons_of_mem _ hy)⟩
  have hlt:=(List.pairwise_cons.1 h.1).1
  have hx:=h.2 x List.mem_cons_self
  have hcx:=hc x List.mem_cons_self
  by_cases e:x.f0=c
  ·refine ⟨r,?_,hr,fun y hy=>by have:=hlt y hy;omega,fun c' hc'=>?_⟩
   ·simp only [callL]
    rw [if_pos e]
    unfold one
    rw [if_pos (by have:=hx.2.1;omega),← e]
    rfl
   ·simp only [callL]
    rw [if_neg (by omega)]
  ·refine ⟨x :: r,?_,h,fun y hy=>?_,fun _ _=>rfl⟩
   ·rw [callL_none (fun y hy=>?_)]
    ·rfl
    ·rcases List.mem_cons.1 hy with rfl|hy
     ·exact e
     ·have:=hlt y hy;omega
   ·rcases List.mem_cons.1 hy with rfl|hy
    ·omega
    ·have:=hlt y hy;omega
theorem built {l:List La} (h:Asc l):l=one 0 (callL 0 l) ++ (one 1 (callL 1 l) ++ (one 2 (callL 2 l) ++ one 3 (callL 3 l))):=by
 obtain ⟨r0,e0,a0,b0,c0⟩:=peel 0 h (fun x hx=>(h.2 x hx).1.1)
 obtain ⟨r1,e1,a1,b1,c1⟩:=peel 1 a0 b0
 obtain ⟨r2,e2,a2,b2,c2⟩:=peel 2 a1 b1
 obtain ⟨r3,e3,a3,b3,c3⟩:=peel 3 a2 b2
 have:r3=[]:=by
  cases r3 with
  | nil=>rfl
  | cons x r =>
   have h1:=b3 x List.mem_cons_self
   have h2:=(a3.2 x List.mem_cons_self).1.2
   omega
 subst this
 rw [c0 1 (by omega)] at e1
 rw [c1 2 (by omega),c0 2 (by omega)] at e2
 rw [c2 3 (by omega),c1 3 (by omega),c0 3 (by omega),List.append_nil] at e3
 rw [← e3,← e2,← e1,← e0]
theorem insM_true (p:La):∀ l:List La,insM p true l=l.filter (fun x=>!(x.f0 == p.f0))
 | []=>rfl
 | x :: r=>by
  simp only [insM,Bool.not_true,Bool.false_and,Bool.or_false,insM_true p r]
  by_cases h:x.f0=p.f0<;>simp [h]
theorem insM_asc (p:La) (hp:goodL p):∀ l:List La,Asc l→Asc (insM p false l)∧(∀ c,callL c (insM p false l)=if c=p.f0 then p.f1 else callL c l)∧∀ x ∈ insM p false l,x=p ∨ x ∈ l
 | [],_=>by
  refine ⟨⟨by simp [insM],fun x hx=>?_⟩,fun c=>?_,fun x hx=>?_⟩
  ·have:x=p:=by simpa [insM] using hx
   rw [this];exact hp
  ·simp only [insM,Bool.false_eq_true,if_false,callL]
   by_cases h:c=p.f0
   ·rw [if_pos h,if_pos h.symm]
   ·rw [if_neg h,if_neg (Ne.symm h)]
  ·left;simpa [insM] using hx
 | x :: r,h=>by
  have hr:Asc r:=⟨(List.pairwise_cons.1 h.1).2,fun y hy=>h.2 y (List.mem_cons_of_mem _ hy)⟩
  have hlt:=(List.pairwise_cons.1 h.1).1
  by_cases hpx:p.f0≤x.f0
  ·have hf:r.filter (fun y=>!(y.f0 == p.f0))=r:=by
    rw [List.filter_eq_self]
    intro y hy
    have:=hlt y hy
    simp;omega
   simp only [insM,hpx,decide_true,Bool.not_false,Bool.and_self,if_true,Bool.or_true,insM_true,hf]
   by_cases e:x.f0=p.f0
   ·rw [if_pos e]
    refine ⟨⟨?_,?_⟩,fun c=>?_,fun y hy=>?_⟩
    ·simp only [List.nil_append,List.singleton_append]
     exact List.pairwise_cons.2 ⟨fun y hy=>by have:=hlt y hy;omega,hr.1⟩
    ·intro y hy
     rcases List.mem_cons.1 (by simpa using hy) with rfl|hy
     ·exact hp
     ·exact hr.2 y hy
    ·simp only [List.nil_append,List.singleton_append,callL]
     by_cases hc:c=p.f0
     ·rw [if_pos hc,if_pos hc.symm]
     ·rw [if_neg hc,if_neg (Ne.symm hc),if_neg (by omega)]
    ·rcases List.mem_cons.1 (by simpa using hy) with rfl|hy
     ·exact .inl rfl
     ·exact .inr (List.mem_cons_of_mem _ hy)
   ·rw [if_neg e]
    refine ⟨⟨?_,?_⟩,fun c=>?_,fun y hy=>?_⟩
    ·simp only [List.singleton_append]
     refine List.pairwise_cons.2 ⟨fun y hy=>?_,h.1⟩
     rcases List.mem_cons.1 hy with rfl|hy
     ·omega
     ·have:=hlt y hy;omega
    ·intro y hy
     rcases List.mem_cons.1 (show y ∈ p :: (x :: r) from hy) with rfl|hy
     ·exact hp
     ·exact h.2 y hy
    ·simp only [List.singleton_append,callL]
     by_cases hc:c=p.f0
     ·rw [if_pos hc,if_pos hc.symm]
     ·rw [if_neg hc,if_neg (Ne.symm hc)]
    ·rcases List.mem_cons.1 (show y ∈ p :: (x :: r) from hy) with rfl|hy
     ·exact .inl rfl
     ·exact .inr hy
  ·have ih:=insM_asc p hp r hr
   simp only [insM,hpx,decide_false,Bool.and_false,Bool.or_self,Bool.false_eq_true,if_false,List.nil_append]
   rw [if_neg (by omega)]
   refine ⟨⟨?_,?_⟩,fun c=>?_,fun y hy=>?_⟩
   ·simp only [List.singleton_append]
    refine List.pairwise_cons.2 ⟨fun y hy=>?_,ih.1.1⟩
    rcases ih.2.2 y hy with rfl|hy
    ·omega
    ·exact hlt y hy
   ·intro y hy
    rcases List.mem_cons.1 (by simpa using hy) with rfl|hy
    ·exact h.2 _ List.mem_cons_self
    ·exact ih.1.2 y hy
   ·simp only [List.singleton_append,callL]
    by_cases hx:x.f0=c
    ·rw [if_pos hx,if_neg (by omega),if_pos hx]
    ·rw [if_neg hx,ih.2.1 c]
     by_cases hc:c=p.f0
     ·rw [if_pos hc,if_pos hc]
     ·rw [if_neg hc,if_neg hc,if_neg hx]
   ·rcases List.mem_cons.1 (by simpa using hy) with rfl|hy
    ·exact .inr List.mem_cons_self
    ·rcases ih.2.2 y hy with e|hy
     ·exact .inl e
     ·exact .inr (List.mem_cons_of_mem _ hy)
theorem spec_mark (l:List La) (hl:l.length≤1048577) (c v:Int):T (fun k=>spec_BlkMark.f k l c v) (·=markB l c v):=by
 simp only [spec_BlkMark.f,l6In_f,Option.bind_some,decide_eq_true_eq]
 refine T.bind_eq (spec_lok l) ?_
 unfold markB
 have stay:T (fun k=>spec_BlkMark.j0 k l c v [] true) (·=l):=by
  refine T.succ ?_
  simp only [spec_BlkMark.j0,if_true,List.length_nil,List.nil_append]
  exact T.pos (by omega) (T.ret rfl)
 refine T.ite (fun h=>?_) (fun h=>?_)
 ·rw [if_pos h]
  refine T.ite (fun h1=>?_) (fun h1=>?_)
  ·refine T.ite (fun h2=>?_) (fun h2=>?_)
   ·refine T.bind_eq (spec_call l (by omega) c) ?_
    by_cases h3:callB l c<v
    ·rw [if_pos ⟨h1,h2,h3⟩,decide_eq_false (by omega)]
     refine T.succ ?_
     simp only [spec_BlkMark.j0]
     refine T.neg (by simp) ?_
     have hasc:=((lok_iff l).1 h).asc
     obtain ⟨i1,i2,_⟩:=insM_asc ⟨c,v⟩ ⟨h1,h2⟩ l hasc
     have hcall:∀ c',callB l c'=callL c' l:=fun c'=>by unfold callB;rw [if_pos h]
     have step:∀ (x:Int) (acc:List La),0≤x→x<4→acc.length<8796093022208 →
       T (fun k=>spec_BlkMark.l0 k l c v (acc ++ one x (callL x (insM ⟨c,v⟩ false l))) (x+1)) (·=insM ⟨c,v⟩ false l)→T (fun k=>spec_BlkMark.l0 k l c v acc x) (·=insM ⟨c,v⟩ false l):=by
      intro x acc hx0 hx ha hn
      refine T.succ ?_
      simp only [spec_BlkMark.l0]
      refine T.pos hx ?_
      refine T.bind_eq (spec_call l (by omega) x) ?_
      rw [show wrap64 (x+1)=x+1 from wrap64_id (by omega) (by omega),hcall x]
      rw [i2 x] at hn
      unfold one at hn
      refine T.ite (fun e=>?_) (fun e=>?_)
      ·rw [if_pos e,if_pos (show v > 0 by omega)] at hn
       refine T.pos (by omega) (T.pos ha ?_)
       simpa using hn
      ·rw [if_neg e] at hn
       refine T.ite (fun e2=>?_) (fun e2=>?_)
       ·rw [if_pos e2] at hn
        exact T.pos ha hn
       ·rw [if_neg e2,List.append_nil] at hn
        exact hn
     have o1:∀ a b,(one a b).length≤1:=fun a b=>by unfold one;split<;>simp
     refine step 0 [] (by omega) (by omega) (by simp) ?_
     refine step (0+1) _ (by omega) (by omega) (by have:=o1 0 (callL 0 (insM ⟨c,v⟩ false l));simp;omega) ?_
     refine step (0+1+1) _ (by omega) (by omega) (by have:=o1 0 (callL 0 (insM ⟨c,v⟩ false l));have:=o1 1 (callL 1 (insM ⟨c,v⟩ false l));simp;omega) ?_
     refine step (0+1+1+1) _ (by omega) (by omega) (by have:=o1 0 (callL 0 (insM ⟨c,v⟩ false l));have:=o1 1 (callL 1 (insM ⟨c,v⟩ false l));have:=o1 2 (callL 2 (insM ⟨c,v⟩ false l));simp;omega) ?_
     refine T.succ ?_
     simp only [spec_BlkMark.l0]
     refine T.neg (by omega) (T.ret ?_)
     have hb:=built i1
     simp only [List.nil_append,List.append_assoc]
     exact hb.symm
    ·rw [if_neg (fun h=>h3 h.2.2),decide_eq_true (by omega)]
     exact stay
   ·rw [if_neg (fun h=>h2 h.2.1)];exact stay
  ·rw [if_neg (fun h=>h1 h.1)];exact stay
 ·rw [if_neg h];exact T.ret rfl
theorem last_loop {b:List Int} (hc:Code b):∀ (d:Nat) (n:Int) (l:List La) (p:Int),n=d→n≤1000→l.length+d≤2000→0≤p→p≤100000000 - 4 * d →
  T (fun k=>spec_l72Last.l0 k l n b p) (fun r=>r.1.length≤l.length+d+1∧p≤r.2∧r.2≤p+4 * d+3):=by
 intro d
 induction d with
 | zero =>
  intro n l p hn _ hl h0 h1
  refine T.succ ?_
  simp only [spec_l72Last.l0]
  refine T.neg (by omega) ?_
  refine T.bind (pick_T hc h0 (by omega) 14 (by omega) (by omega)) (fun q1 ⟨a1,b1,c1⟩=>?_)
  refine T.ite (fun _=>?_) (fun _=>T.ret ⟨by show l.length≤_;omega,by show p≤q1.2;omega,by show q1.2≤_;omega⟩)
  refine T.bind (pick_T hc (by omega) (by omega) 5 (by omega) (by omega)) (fun q2 ⟨a2,b2,c2⟩=>?_)
  refine T.bind (pick_T hc (by omega) (by omega) 2 (by omega) (by omega)) (fun q3 ⟨a3,b3,c3⟩=>?_)
  exact T.pos (by omega) (T.ret ⟨by simp,by show p≤q3.2;omega,by show q3.2≤_;omega⟩)
 | succ d ih =>
  intro n l p hn hn1 hl h0 h1
  refine T.succ ?_
  simp only [spec_l72Last.l0]
  refine T.pos (by omega) ?_
  refine T.bind (pick_T hc h0 (by omega) 4 (by omega) (by omega)) (fun q1 ⟨a1,b1,c1⟩=>?_)
  refine T.bind (pick_T hc (by omega) (by omega) 9 (by omega) (by omega)) (fun q2 ⟨a2,b2,c2⟩=>?_)
  refine T.bind_eq (spec_mark l (by omega) q1.1 (wrap64 (1+q2.1))) ?_
  have hp:=markB_le l q1.1 (wrap64 (1+q2.1))
  rw [wrap64_id (x:=n - 1) (by omega) (by omega)]
  exact (ih (n - 1) _ q2.2 (by omega) (by omega) (by omega) (by omega) (by omega)).mono (fun r hr=>⟨by omega,by omega,by omega⟩)
theorem lastDrawn_T {b:List Int} (hc:Code b) (p:Int) (h0:0≤p) (h1:p≤10000000):T (fun k=>spec_l72Last.f k b p) (fun r=>r.1.length≤10∧p≤r.2∧r.2≤p+100):=by
 simp only [spec_l72Last.f]
 refine T.bind (pick_T hc h0 (by omega) 5 (by omega) (by omega)) (fun q ⟨a1,b1,c1⟩=>?_)
 have:=b1 (by omega)
 exact (last_loop hc q.1.toNat q.1 [] q.2 (by omega) (by omega) (by simp;omega) (by omega) (by omega)).mono (fun r hr=>⟨by have:=hr.1;simp at this;omega,by omega,by omega⟩)
end Go.Proofs.YtoieojmfkkidnaaX
