/-
 What BlkGet,BlkDrop and BlkPut come to,in plain lists,for the program and the reference alike.
 Conditions: lists of at most a million elements.
-/
import Derived.Test.YtoieojmfkkidnaaXBlkJ
import Derived.Test.YtoieojmfkkidnaaXPick
import Derived.Test.YtoieojmfkkidnaaPx12
namespace Go.Proofs.YtoieojmfkkidnaaX
open Go.RowKit Go.Proofs.Ytoieojmfkkidnaa.P Go.Proofs.YtoieojmfkkidnaaW.PrintWords Go.Proofs.YtoieojmfkkidnaaW.PrintLast Go.Proofs.YtoieojmfkkidnaaW.PrintMore
set_option linter.unusedVariables false
set_option linter.unusedSimpArgs false
/-- What stands in a piece's place, and behind it. -/
def insL (p:Pc):Bool→List Pc→List Pc
 | put,[]=>if put then [] else [p]
 | put,x :: r =>
  let now:=!put && !decide (lt3 x p)
  (if now then [p] else []) ++ ((if key p x then [] else [x]) ++ insL p (put || now) r)
theorem insL_le (p:Pc):∀ (l:List Pc) (b:Bool),(insL p b l).length≤l.length+(if b then 0 else 1)
 | [],b=>by cases b<;>simp [insL]
 | x :: r,b=>by
  have h1:=insL_le p r true
  have h2:=insL_le p r false
  simp only [insL]
  by_cases hx:lt3 x p<;>by_cases hk:key p x<;>cases b<;>simp [hx,hk] at h1 h2 ⊢<;>omega
noncomputable def putB (l:List Pc) (p:Pc):List Pc × Bool:=if bok l=true then (if bok (insL p false l)=true then (insL p false l,true) else (l,false)) else ([],false)
theorem spec_put_loop (p:Pc) (l:List Pc) (hl:l.length≤1048577):∀ (m i:Nat) (acc:List Pc) (b:Bool),l.length - i=m→i≤l.length→(b=false→acc.length≤i)→acc.length≤i+1 →
  T (fun k=>spec_BlkPut.l0 k l p.f0 p.f1 p.f2 acc b (i:Int) p.f0 p.f1 p.f2 p.f3) (·=if bok (acc ++ insL p b (l.drop i))=true then (acc ++ insL p b (l.drop i),true) else (l,false)):=by
 intro m
 induction m with
 | zero =>
  intro i acc b hd hi ha0 ha
  refine T.succ ?_
  simp only [spec_BlkPut.l0,Option.bind_some]
  refine T.neg (by omega) ?_
  rw [List.drop_of_length_le (by omega)]
  simp only [List.nil_append,List.length_nil]
  refine T.ite (fun h=>?_) (fun h=>?_)
  ·subst h
   refine T.bind_eq (spec_ok_eq acc) ?_
   simp only [insL,if_true,List.append_nil]
   refine T.ite (fun h=>?_) (fun h=>?_)
   ·rw [if_pos h];exact T.ret rfl
   ·rw [if_neg h];exact T.pos (by omega) (T.ret rfl)
  ·obtain rfl:b=false:=by simpa using h
   refine T.pos (by omega) ?_
   refine T.bind_eq (spec_ok_eq (acc ++ [p])) ?_
   simp only [insL,Bool.false_eq_true,if_false]
   refine T.ite (fun h=>?_) (fun h=>?_)
   ·rw [if_pos h];exact T.ret rfl
   ·rw [if_neg h];exact T.pos (by omega) (T.ret rfl)
 | succ m ih =>
  intro i acc b hd hi ha0 ha
  have hlt:i<l.length:=by omega
  refine T.succ ?_
  simp only [spec_BlkPut.l0]
  refine T.pos (by omega) (T.pos (by omega) ?_)
  simp only [rdP l i hlt]
  rw [List.drop_eq_getElem_cons hlt]
  have go2:∀ now sm:Bool,now=(!b && !decide (lt3 l[i] p))→sm=decide (key p l[i])→T (fun k=>spec_BlkPut.j2 k l p.f0 p.f1 p.f2 acc b (i:Int) sm now p.f0 p.f1 p.f2 p.f3 l[i].f0 l[i].f1 l[i].f2 l[i].f3)
    (·=if bok (acc ++ insL p b (l[i] :: l.drop (i+1)))=true then (acc ++ insL p b (l[i] :: l.drop (i+1)),true) else (l,false)):=by
   intro now sm hnow hsm
   refine T.succ ?_
   simp only [spec_BlkPut.j2,insL,← hnow,wrap_succ hlt (show l.length≤4611686018427387904 by omega)]
   refine T.ite (fun h=>?_) (fun h=>?_)
   ·subst h
    have hb:b=false:=by
     cases b
     ·rfl
     ·simp at hnow
    subst hb
    have ha1:=ha0 rfl
    refine T.pos (by omega) ?_
    simp only [Option.bind_some]
    refine T.ite (fun hk=>?_) (fun hk=>?_)
    ·rw [if_pos (show key p l[i] by rw [hk] at hsm;simpa using hsm.symm)]
     have:=ih (i+1) (acc ++ [p]) true (by omega) (by omega) (by simp) (by simp;omega)
     simpa using this
    ·rw [if_neg (show ¬ key p l[i] by intro h;rw [decide_eq_true h] at hsm;exact hk hsm)]
     refine T.pos (by simp;omega) ?_
     have:=ih (i+1) (acc ++ [p] ++ [l[i]]) true (by omega) (by omega) (by simp) (by simp;omega)
     simpa using this
   ·obtain rfl:now=false:=by simpa using h
    refine T.ite (fun hk=>?_) (fun hk=>?_)
    ·rw [if_pos (show key p l[i] by rw [hk] at hsm;simpa using hsm.symm)]
     have:=ih (i+1) acc b (by omega) (by omega) (fun h=>by have:=ha0 h;omega) (by omega)
     simpa using this
    ·rw [if_neg (show ¬ key p l[i] by intro h;rw [decide_eq_true h] at hsm;exact hk hsm)]
     refine T.pos (by omega) ?_
     have:=ih (i+1) (acc ++ [l[i]]) b (by omega) (by omega) (fun h=>by have:=ha0 h;simp;omega) (by simp;omega)
     simpa using this
  have go1:∀ sm:Bool,sm=decide (key p l[i])→T (fun k=>spec_BlkPut.j1 k l p.f0 p.f1 p.f2 acc b (i:Int) sm p.f0 p.f1 p.f2 p.f3 l[i].f0 l[i].f1 l[i].f2 l[i].f3)
    (·=if bok (acc ++ insL p b (l[i] :: l.drop (i+1)))=true then (acc ++ insL p b (l[i] :: l.drop (i+1)),true) else (l,false)):=by
   intro sm hsm
   refine T.succ ?_
   simp only [spec_BlkPut.j1]
   refine T.ite (fun h=>?_) (fun h=>?_)
   ·exact go2 _ _ (by simp [h]) hsm
   ·simp only [before_f _ _ _ _ _ _ _ p.f3,Option.bind_some]
    exact go2 _ _ (by simp [h]) hsm
  refine T.ite (fun h1=>?_) (fun h1=>?_)
  ·refine T.ite (fun h2=>?_) (fun h2=>?_)
   ·refine go1 _ ?_
    rw [Bool.eq_iff_iff,beq_iff_eq,decide_eq_true_eq]
    exact ⟨fun h=>⟨h1.symm,h2.symm,h.symm⟩,fun h=>h.2.2.symm⟩
   ·exact go1 _ (decide_eq_false (fun h:key p l[i]=>h2 h.2.1.symm)).symm
  ·exact go1 _ (decide_eq_false (fun h:key p l[i]=>h1 h.1.symm)).symm
theorem spec_put (l:List Pc) (hl:l.length≤1048577) (p:Pc):T (fun k=>spec_BlkPut.f k l p.f0 p.f1 p.f2 p.f3) (·=putB l p):=by
 simp only [spec_BlkPut.f,Option.bind_some]
 refine T.bind_eq (spec_ok_eq l) ?_
 unfold putB
 refine T.ite (fun h=>?_) (fun h=>?_)
 ·rw [if_pos h];simpa using spec_put_loop p l hl _ 0 [] false rfl (Nat.zero_le _) (fun _=>Nat.zero_le _) (Nat.zero_le _)
 ·rw [if_neg h];exact T.ret rfl
theorem putB_le (l:List Pc) (p:Pc):(putB l p).1.length≤l.length+1:=by
 have:=insL_le p l false
 simp only [Bool.false_eq_true,if_false] at this
 unfold putB
 split
 ·split<;>simp only<;>omega
 ·simp
theorem pieces_loop {b:List Int} (hc:Code b):∀ (d:Nat) (n:Int) (l:List Pc) (p:Int),n=d→n≤1000→l.length+d≤2000→0≤p→p≤100000000 - 4 * d →
  T (fun k=>spec_l72Pieces.l0 k l n b p) (fun r=>r.1.length≤l.length+d∧p≤r.2∧r.2≤p+4 * d):=by
 intro d
 induction d with
 | zero =>
  intro n l p hn _ _ h0 h1
  refine T.succ ?_
  simp only [spec_l72Pieces.l0]
  exact T.neg (by omega) (T.ret ⟨by simp,by simp,by simp⟩)
 | succ d ih =>
  intro n l p hn hn1 hl h0 h1
  refine T.succ ?_
  simp only [spec_l72Pieces.l0]
  refine T.pos (by omega) ?_
  refine T.bind (pick_T hc h0 (by omega) 3 (by omega) (by omega)) (fun q1 ⟨a1,b1,c1⟩=>?_)
  refine T.bind (pick_T hc (by omega) (by omega) 3 (by omega) (by omega)) (fun q2 ⟨a2,b2,c2⟩=>?_)
  refine T.bind (pick_T hc (by omega) (by omega) 3 (by omega) (by omega)) (fun q3 ⟨a3,b3,c3⟩=>?_)
  refine T.bind (pick_T hc (by omega) (by omega) 100 (by omega) (by omega)) (fun q4 ⟨a4,b4,c4⟩=>?_)
  refine T.bind_eq (spec_put l (by omega) ⟨wrap64 (1+q1.1),q2.1,wrap64 (1+q3.1),q4.1⟩) ?_
  have hp:=putB_le l ⟨wrap64 (1+q1.1),q2.1,wrap64 (1+q3.1),q4.1⟩
  rw [wrap64_id (x:=n - 1) (by omega) (by omega)]
  refine (ih (n - 1) _ q4.2 (by omega) (by omega) (by omega) (by omega) (by omega)).mono (fun r hr=>⟨by omega,by omega,by omega⟩)
theorem many_loop {b:List Int} (hc:Code b):∀ (d:Nat) (n:Int) (l:List Pc) (p:Int),(61 - n).toNat=d→0≤n→n≤61→l.length≤n→0≤p→p≤200000000 - d →
  T (fun k=>spec_l72PiecesAny.l0 k l n b p) (fun r=>r.1.length≤61∧p≤r.2∧r.2≤p+d+1):=by
 intro d
 induction d with
 | zero =>
  intro n l p hn hn0 hn1 hl h0 h1
  refine T.succ ?_
  simp only [spec_l72PiecesAny.l0]
  refine T.bind (pick_T hc h0 (by omega) 2 (by omega) (by omega)) (fun q ⟨a1,b1,c1⟩=>?_)
  have:=b1 (by omega)
  rw [wrap64_id (x:=60+q.1) (by omega) (by omega)]
  exact T.neg (by omega) (T.ret ⟨by show l.length≤61;omega,by show p≤q.2;omega,by show q.2≤_;omega⟩)
 | succ d ih =>
  intro n l p hn hn0 hn1 hl h0 h1
  refine T.succ ?_
  simp only [spec_l72PiecesAny.l0]
  refine T.bind (pick_T hc h0 (by omega) 2 (by omega) (by omega)) (fun q ⟨a1,b1,c1⟩=>?_)
  have:=b1 (by omega)
  rw [wrap64_id (x:=60+q.1) (by omega) (by omega)]
  refine T.ite (fun h=>?_) (fun h=>T.ret ⟨by show l.length≤61;omega,by show p≤q.2;omega,by show q.2≤_;omega⟩)
  refine T.pos (by omega) ?_
  rw [wrap64_id (x:=n+1) (by omega) (by omega)]
  exact (ih (n+1) _ q.2 (by omega) (by omega) (by omega) (by simp;omega) (by omega) (by omega)).mono (fun r hr=>⟨hr.1,by omega,by omega⟩)
theorem piecesAny_T {b:List Int} (hc:Code b) (p:Int) (h0:0≤p) (h1:p≤10000000):T (fun k=>spec_l72PiecesAny.f k b p) (fun r=>r.1.length≤1000∧p≤r.2∧r.2≤p+1000):=by
 simp only [spec_l72PiecesAny.f]
 have first:T (fun k=>spec_l72Pieces.f k b p 9) (fun r=>r.1.length≤9∧p≤r.2∧r.2≤p+100):=by
  simp only [spec_l72Pieces.f]
  refine T.bind (pick_T hc h0 (by omega) 9 (by omega) (by omega)) (fun q ⟨a1,b1,c1⟩=>?_)
  have:=b1 (by omega)
  exact (pieces_loop hc q.1.toNat q.1 [] q.2 (by omega) (by omega) (by simp;omega) (by omega) (by omega)).mono (fun r hr=>⟨by have:=hr.1;simp at this;omega,by omega,by omega⟩)
 refine T.bind first (fun l hl=>?_)
 refine T.bind (pick_T hc (by omega) (by omega) 14 (by omega) (by omega)) (fun q ⟨a1,b1,c1⟩=>?_)
 refine T.ite (fun _=>T.pos (by omega) (T.ret ⟨?_,?_,?_⟩)) (fun _=>?_)
 ·simp;omega
 ·show p≤q.2;omega
 ·show q.2≤_;omega
 refine T.ite (fun _=>T.pos (by omega) (T.ret ⟨?_,?_,?_⟩)) (fun _=>?_)
 ·simp;omega
 ·show p≤q.2;omega
 ·show q.2≤_;omega
 refine T.ite (fun _=>?_) (fun _=>T.ret ⟨?_,?_,?_⟩)
 ·exact (many_loop hc 61 0 [] q.2 (by omega) (by omega) (by omega) (by simp) (by omega) (by omega)).mono (fun r hr=>⟨by omega,by omega,by omega⟩)
 ·show l.1.length≤1000;omega
 ·show p≤q.2;omega
 ·show q.2≤_;omega
theorem num_T {b:List Int} (hc:Code b) (p:Int) (h0:0≤p) (h1:p≤1000000000):T (fun k=>spec_l72Num.f k b p) (fun r=>p≤r.2∧r.2≤p+3):=by
 simp only [spec_l72Num.f,Option.bind_some]
 refine T.bind (pick_T hc h0 (by omega) 200 (by omega) (by omega)) (fun q1 ⟨a1,b1,c1⟩=>?_)
 refine T.bind (pick_T hc (by omega) (by omega) 30000 (by omega) (by omega)) (fun q2 ⟨a2,b2,c2⟩=>?_)
 refine T.bind (pick_T hc (by omega) (by omega) 10 (by omega) (by omega)) (fun q3 ⟨a3,b3,c3⟩=>?_)
 have:=b3 (by omega)
 refine T.pos a3 (T.pos (by simpa using this) (T.ret ⟨?_,?_⟩))
 ·show p≤q3.2;omega
 ·show q3.2≤_;omega
end Go.Proofs.YtoieojmfkkidnaaX
