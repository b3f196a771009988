/-
 The builtin copy over a row of the call's own,for elements of any number of cells,as a law of the walk;a kind whose cells lead to no memory is 'flat'.
 Conditions: the row that is written and the row that is read have the same length.
-/
import Derived.Test.YtoieojmfkkidnaaVWGuardInvWordsMore
import Derived.Laws.Rows
import Derived.Laws.CopyRow
import Derived.Laws.CopyOwn
import Derived.WalkKit
namespace Go.Proofs.YtoieojmfkkidnaaX
open Go.RowKit Go.Proofs.YtoieojmfkkidnaaW.PrintWords Go.Proofs.YtoieojmfkkidnaaW.PrintLast Go.Proofs.YtoieojmfkkidnaaW.PrintMore
set_option linter.unusedVariables false
set_option linter.unusedSimpArgs false
/-! Short words for what the printed proofs say often. -/
inductive Peel (w:World):World→Prop
 | refl:Peel w w
 | alloc {w':World} (o:Obj) (h:Peel w w'):Peel w (w'.alloc o)
 | drewN {w':World} (n:Nat) (h:Peel w w'):Peel w (w'.drewN n)
 | drew {w':World} (h:Peel w w'):Peel w w'.drew
theorem pB {w0 w w':World} (h:Below w0.heap.size w0 w) (p:Peel w w':=by repeat (first|(with_reducible first|exact Peel.refl|apply Peel.alloc|apply Peel.drewN|apply Peel.drew)|exact Peel.refl)):Below w0.heap.size w0 w':=by
 induction p with
 | refl=>exact h
 | alloc o _ ih=>exact below_alloc ih o
 | drewN n _ ih=>exact pw_below_drewN ih n
 | drew _ ih=>exact below_drew1 ih
theorem pR {α:Type} {d:Kd α} {e:Nat} {w w':World} {base:Nat} {ok:Nat→Prop} {v:Value} {xs:List α} (h:d.R e w base ok v xs) (p:Peel w w':=by repeat (first|(with_reducible first|exact Peel.refl|apply Peel.alloc|apply Peel.drewN|apply Peel.drew)|exact Peel.refl)):d.R e w' base ok v xs:=by
 induction p with
 | refl=>exact h
 | alloc o _ ih=>exact Kd.R_alloc ih o
 | drewN n _ ih=>exact Kd.R_drewN ih n
 | drew _ ih=>exact Kd.R_drew ih
theorem pC {α:Type} {d:Kd α} {w w':World} {A:Option Addr} {n:Nat} {xs:List α} (h:d.C w A n xs) (p:Peel w w':=by repeat (first|(with_reducible first|exact Peel.refl|apply Peel.alloc|apply Peel.drewN|apply Peel.drew)|exact Peel.refl)):d.C w' A n xs:=by
 induction p with
 | refl=>exact h
 | alloc o _ ih=>exact Kd.C_alloc ih o
 | drewN n _ ih=>exact Kd.C_drewN ih n
 | drew _ ih=>exact Kd.C_drew ih
theorem pK {w w':World} {g:Nat} {o:Obj} (h:w.heap[g]?=some o) (p:Peel w w':=by repeat (first|(with_reducible first|exact Peel.refl|apply Peel.alloc|apply Peel.drewN|apply Peel.drew)|exact Peel.refl)):w'.heap[g]?=some o:=by
 induction p with
 | refl=>exact h
 | alloc o _ ih=>exact blk_alloc ih o
 | drewN n _ ih=>exact blk_drewN ih n
 | drew _ ih=>exact blk_drew ih
theorem bA {p:Prop} (h:p:=by first|(with_reducible assumption)|assumption):p:=h
inductive PeelS (B:Nat) (w:World):World→Prop
 | refl:PeelS B w w
 | alloc {w':World} (o:Obj) (h:PeelS B w w'):PeelS B w (w'.alloc o)
 | drewN {w':World} (n:Nat) (h:PeelS B w w'):PeelS B w (w'.drewN n)
 | drew {w':World} (h:PeelS B w w'):PeelS B w w'.drew
 | set {w':World} {g j:Nat} {v:Value} (h:PeelS B w w') (hg:B≤g):PeelS B w (w'.setCell ⟨g,j,none⟩ v)
theorem pS {w0 w w':World} (h:Below w0.heap.size w0 w) (p:PeelS w0.heap.size w w':=by repeat (first|(with_reducible first|exact PeelS.refl|apply PeelS.alloc|apply PeelS.drewN|apply PeelS.drew|refine PeelS.set ?_ (Aside0.out (by with_reducible assumption)))|exact PeelS.refl)):Below w0.heap.size w0 w':=by
 induction p with
 | refl=>exact h
 | alloc o _ ih=>exact below_alloc ih o
 | drewN n _ ih=>exact pw_below_drewN ih n
 | drew _ ih=>exact below_drew1 ih
 | set _ hg ih=>exact below_set ih hg
inductive PeelF (g:Nat) (w:World):World→Prop
 | refl:PeelF g w w
 | alloc {w':World} (o:Obj) (h:PeelF g w w'):PeelF g w (w'.alloc o)
 | drewN {w':World} (n:Nat) (h:PeelF g w w'):PeelF g w (w'.drewN n)
 | drew {w':World} (h:PeelF g w w'):PeelF g w w'.drew
 | far {w':World} {g2 j:Nat} {v:Value} (h:PeelF g w w') (hg:g≠g2):PeelF g w (w'.setCell ⟨g2,j,none⟩ v)
theorem pF {w w':World} {g:Nat} {t:TypeId} {cs:Array Value} (h:w.heap[g]?=some (.cells cs t (0,0))) (p:PeelF g w w':=by repeat (first|(with_reducible first|exact PeelF.refl|apply PeelF.alloc|apply PeelF.drewN|apply PeelF.drew|refine PeelF.far ?_ (Aside0.out (by with_reducible assumption)))|exact PeelF.refl)):w'.heap[g]?=some (.cells cs t (0,0)):=by
 induction p with
 | refl=>exact h
 | alloc o _ ih=>exact blk_alloc ih o
 | drewN n _ ih=>exact blk_drewN ih n
 | drew _ ih=>exact blk_drew ih
 | far _ hg ih=>exact blk_far ih hg _
theorem box2 {w:World} {g:Nat} {t:TypeId} {a0 a1:Value} (h:w.heap[g]?=some (.cells #[a0,a1] t (0,0))):w.cell? ⟨g,0,none⟩=some a0∧w.cell? ⟨g,1,none⟩=some a1∧w.frozen? ⟨g,0,none⟩=false∧w.frozen? ⟨g,1,none⟩=false :=
 ⟨(blk_cell h 0).trans rfl,(blk_cell h 1).trans rfl,blk_frozen h 0,blk_frozen h 1⟩
theorem box4 {w:World} {g:Nat} {t:TypeId} {a0 a1 a2 a3:Value} (h:w.heap[g]?=some (.cells #[a0,a1,a2,a3] t (0,0))):w.cell? ⟨g,0,none⟩=some a0∧w.cell? ⟨g,1,none⟩=some a1∧w.cell? ⟨g,2,none⟩=some a2∧w.cell? ⟨g,3,none⟩=some a3∧w.frozen? ⟨g,0,none⟩=false∧w.frozen? ⟨g,1,none⟩=false∧w.frozen? ⟨g,2,none⟩=false∧w.frozen? ⟨g,3,none⟩=false :=
 ⟨(blk_cell h 0).trans rfl,(blk_cell h 1).trans rfl,(blk_cell h 2).trans rfl,(blk_cell h 3).trans rfl,blk_frozen h 0,blk_frozen h 1,blk_frozen h 2,blk_frozen h 3⟩
/-! Shorter words still (sq.py): whole steps of the walk, their small goals closed by default. -/
theorem mA {p:Prop} (h:p):Aside0 p:=⟨h⟩
theorem aK {p:Prop} (h:p:=by kernel_rfl):p:=h
theorem aD {p:Prop} (h:p:=by decide):p:=h
theorem nFT:¬ (false=true):=by decide
theorem bZ {p:Prop} (h:p:=by first|rfl|(simp;done)|(simp [*];done)):p:=h
theorem aN {p:Prop} (h:p:=by first|exact Kd.R_nil _ _ _ _ _|exact Kd.N_nil _ _ _ _ _|exact Kd.V_nil _ _ _ _ _|exact Kd.Q_nil _ _ _ _ _|exact Kd.S_nil _ _ _ _ _):p:=h
theorem bI {α β:Type} {x:Option α} {f:α→Option β} {b:β} (h:x.bind f=some b):∃ a,Aside0 (x=some a)∧f a=some b:=by
 obtain ⟨a,h1,h2⟩:=Option.bind_eq_some_iff.mp h
 exact ⟨a,⟨h1⟩,h2⟩
theorem qH {α:Type} {x y:α} {p q:Prop} (e:x=y) (H:q) (t:x=y→q→p:=by
  intro e H
  first|(rw [e];with_reducible exact H)|(have H2_:=(Option.bind_some _ _).symm.trans H;rw [e];with_reducible exact H2_)|(have H2_:=(Option.bind_some _ _).symm.trans H;with_reducible exact H2_)|with_reducible exact H|(rw [e];exact H)|exact H):p:=t e H
theorem eqB {α:Type} [BEq α] [LawfulBEq α] {a b:α} (h:a=b):(a == b)=true∧(a != b)=false:=⟨beq_iff_eq.mpr h,bne_eq_false_iff_eq.mpr h⟩
theorem lG {a b c:Nat} (h:a≤b) (e:c=b):a≤c:=by omega
theorem lN {a b c:Nat} (h:a<b) (e:c=b):a≠c:=by omega
theorem nS {α:Type} {a b:α} (h:Aside0 (a≠b)):Aside0 (b≠a):=⟨h.out.symm⟩
theorem pH {w w1 w2:World} {g:Nat} {row:Option Nat} (h:Aside0 (KeepBut w w1 g row)) (t:KeepBut w w1 g row→KeepBut w w2 g row:=by
  intro h
  repeat (first|(with_reducible first|exact h|apply KeepBut.set_|apply keep_drewN|apply keep_drew|apply keep_alloc|refine keep_far ?_ (Aside0.out (by with_reducible assumption)) _)|exact h)):KeepBut w w2 g row:=t h.out
theorem kS {w w1 w2:World} {g:Nat} {row:Option Nat} (h:Aside0 (KeepBut w w1 g row)) (t:KeepBut w w1 g row→KeepBut w w2 g row:=by
  intro h
  repeat (first|(with_reducible first|exact h|apply KeepBut.set_|apply keep_drewN|apply keep_drew|apply keep_alloc|refine keep_far ?_ (Aside0.out (by with_reducible assumption)) _)|exact h)):w.heap.size≤w2.heap.size:=keep_size (t h.out)
theorem pQ {w w1 w2:World} {R:Prop} (h:Aside0 (Below w.heap.size w w1)) (ge:R) (t:R→Below w.heap.size w w1→Below w.heap.size w w2:=by
  intro ge h
  repeat (first|(with_reducible first|exact h|apply below_alloc|apply pw_below_drewN|apply below_drew1|refine below_set ?_ ge|refine below_set ?_ (Aside0.out (by with_reducible assumption)))|exact h)):Below w.heap.size w w2:=t ge h.out
inductive PeelD (E:List Nat) (w:World):World→Prop
 | refl:PeelD E w w
 | alloc {w':World} (o:Obj) (h:PeelD E w w'):PeelD E w (w'.alloc o)
 | drewN {w':World} (n:Nat) (h:PeelD E w w'):PeelD E w (w'.drewN n)
 | drew {w':World} (h:PeelD E w w'):PeelD E w w'.drew
 | set {w':World} {g j t:Nat} {cells:Array Value} {v:Value} (h:PeelD E w w') (hb:w.heap[g]?=some (.cells cells t (0,0))) (ht:∀ q,q ∈ E→q≠t):PeelD E w (w'.setCell ⟨g,j,none⟩ v)
theorem PeelD.at {E:List Nat} {w w':World} (p:PeelD E w w') (k:Nat) (hk:k<w.heap.size) (h:∃ q,q ∈ E∧∃ cells,w.heap[k]?=some (.cells cells q (0,0))):w'.heap[k]?=w.heap[k]?:=by
 induction p with
 | refl=>rfl
 | alloc o p ih=>exact (((below_alloc (Below.refl _ _) o).block k (by
   obtain ⟨q,_,cells,hc⟩:=h
   exact blk_lt (ih.trans hc)):_)).trans ih
 | drewN n p ih=>exact ih
 | drew p ih=>exact ih
 | set p hb ht ih =>
  refine (Below.heap_setCell _ _ _ k ?_).trans ih
  obtain ⟨q,hq,cells,hc⟩:=h
  rintro rfl
  rw [hc] at hb
  injection hb with hb
  injection hb with _ hb
  exact ht q hq hb
theorem pD {α:Type} {d:Kd α} {e base:Nat} {ok:Nat→Prop} {w w':World} {v:Value} {xs:List α} (h:d.R e w base ok v xs) (p:PeelD (e :: d.E) w w'):d.R e w' base ok v xs :=
 Kd.R_mono (Kd.R_move (Kd.R_bound h) (fun k hk=>p.at k hk.2.2.1 hk.2.2.2)) (fun _ hk=>hk.1)
theorem pG {α:Type} {d:Kd α} {e base:Nat} {ok:Nat→Prop} {w w':World} {v:Value} {xs:List α} {b:Prop} (h:Aside0 (d.R e w base ok v xs)) (_:Aside0 b) (p:PeelD (e :: d.E) w w':=by
  repeat (first|(with_reducible first|exact PeelD.refl|apply PeelD.alloc|apply PeelD.drewN|apply PeelD.drew)|refine PeelD.set ?_ (Aside0.out (by with_reducible assumption)) (by decide)|exact PeelD.refl)):d.R e w' base ok v xs:=pD h.out p
theorem pGG {α:Type} {d:Kd α} {e base:Nat} {ok:Nat→Prop} {w w':World} {v:Value} {xs:List α} {b b':Prop} (h:Aside0 (d.R e w base ok v xs)) (_:Aside0 b) (_:Aside0 b') (p:PeelD (e :: d.E) w w':=by
  repeat (first|(with_reducible first|exact PeelD.refl|apply PeelD.alloc|apply PeelD.drewN|apply PeelD.drew)|refine PeelD.set ?_ (Aside0.out (by with_reducible assumption)) (by decide)|exact PeelD.refl)):d.R e w' base ok v xs:=pD h.out p
theorem pU {α:Type} {d:Kd α} {e base:Nat} {ok:Nat→Prop} {w w':World} {v:Value} {xs:List α} {b:Prop} (h:Aside0 (d.R e w base ok v xs)) (_:Aside0 b) (p:PeelD (e :: d.E) w w':=by
  repeat (first|(with_reducible first|exact PeelD.refl|apply PeelD.alloc|apply PeelD.drewN|apply PeelD.drew)|refine PeelD.set ?_ (Aside0.out (by with_reducible assumption)) (by decide)|exact PeelD.refl)):d.R e w' base (fun _=>True) v xs:=Kd.R_mono (pD h.out p) (fun _ _=>trivial)
theorem pUU {α:Type} {d:Kd α} {e base:Nat} {ok:Nat→Prop} {w w':World} {v:Value} {xs:List α} {b b':Prop} (h:Aside0 (d.R e w base ok v xs)) (_:Aside0 b) (_:Aside0 b') (p:PeelD (e :: d.E) w w':=by
  repeat (first|(with_reducible first|exact PeelD.refl|apply PeelD.alloc|apply PeelD.drewN|apply PeelD.drew)|refine PeelD.set ?_ (Aside0.out (by with_reducible assumption)) (by decide)|exact PeelD.refl)):d.R e w' base (fun _=>True) v xs:=Kd.R_mono (pD h.out p) (fun _ _=>trivial)
inductive PeelP (g:Nat) (w:World) (cs:Array Value):World→Array Value→Prop
 | refl:PeelP g w cs w cs
 | alloc {w':World} {c:Array Value} (o:Obj) (h:PeelP g w cs w' c):PeelP g w cs (w'.alloc o) c
 | drewN {w':World} {c:Array Value} (n:Nat) (h:PeelP g w cs w' c):PeelP g w cs (w'.drewN n) c
 | drew {w':World} {c:Array Value} (h:PeelP g w cs w' c):PeelP g w cs w'.drew c
 | set {w':World} {c c':Array Value} {j:Nat} {v:Value} (h:PeelP g w cs w' c) (e:c.setIfInBounds j v=c'):PeelP g w cs (w'.setCell ⟨g,j,none⟩ v) c'
 | far {w':World} {c:Array Value} {g2 j:Nat} {v:Value} (h:PeelP g w cs w' c) (hg:g≠g2):PeelP g w cs (w'.setCell ⟨g2,j,none⟩ v) c
theorem PeelP.out {w w':World} {g:Nat} {t:TypeId} {cs cs':Array Value} (p:PeelP g w cs w' cs') (h:w.heap[g]?=some (.cells cs t (0,0))):w'.heap[g]?=some (.cells cs' t (0,0)):=by
 induction p with
 | refl=>exact h
 | alloc o _ ih=>exact blk_alloc ih o
 | drewN n _ ih=>exact blk_drewN ih n
 | drew _ ih=>exact blk_drew ih
 | set _ e ih=>exact blk_put ih _ _ e
 | far _ hg ih=>exact blk_far ih hg _
theorem pP {w w':World} {g:Nat} {t:TypeId} {cs cs':Array Value} (h:Aside0 (w.heap[g]?=some (.cells cs t (0,0)))) (p:PeelP g w cs w' cs':=by
  repeat (first|(with_reducible first|exact PeelP.refl|apply PeelP.alloc|apply PeelP.drewN|apply PeelP.drew|apply PeelP.set|(apply PeelP.far;rotate_left;exact Aside0.out (by with_reducible assumption);rotate_right))|exact PeelP.refl|(simp only [List.setIfInBounds_toArray,List.set_cons_zero,List.set_cons_succ];done)|(simp only [List.setIfInBounds_toArray,List.set_cons_zero,List.set_cons_succ];rfl)|rfl)):w'.heap[g]?=some (.cells cs' t (0,0)):=p.out h.out
theorem kB {w w1:World} {g g':Nat} {row:Option Nat} {o:Obj} (hk:KeepBut w w1 g row) (hb:w.heap[g']?=some o) (ne:Aside0 (g'≠g)) (hr:some g'≠row:=by simp):w1.heap[g']?=some o:=hk.blk hb ne.out hr
theorem kP {w0 w w1:World} {g g':Nat} {row:Option Nat} {t:TypeId} {cs:Array Value} (hk:KeepBut w w1 g row) (cs':Array Value) (h:Aside0 (w0.heap[g']?=some (.cells cs t (0,0)))) (ne:Aside0 (g'≠g)) (p:PeelP g' w0 cs w cs':=by
  repeat (first|(with_reducible first|exact PeelP.refl|apply PeelP.alloc|apply PeelP.drewN|apply PeelP.drew|apply PeelP.set|(apply PeelP.far;rotate_left;exact Aside0.out (by with_reducible assumption);rotate_right))|exact PeelP.refl|(simp only [List.setIfInBounds_toArray,List.set_cons_zero,List.set_cons_succ];done)|(simp only [List.setIfInBounds_toArray,List.set_cons_zero,List.set_cons_succ];rfl)|rfl)) (hr:some g'≠row:=by simp):w1.heap[g']?=some (.cells cs' t (0,0)):=hk.blk (p.out h.out) ne.out hr
theorem rN {α:Type} {d:Kd α} {e base g t:Nat} {ok:Nat→Prop} {w:World} {v:Value} {xs:List α} {cells:Array Value} (h:Aside0 (d.R e w base ok v xs)) (hb:Aside0 (w.heap[g]?=some (.cells cells t (0,0)))) (ht:e≠t:=by decide):some g≠v.ownBlock:=Kd.R_ne h.out hb.out ht
theorem eC {w:World} {g:Nat} {t:TypeId} {cs:Array Value} {v:Value} (h:Aside0 (w.heap[g]?=some (.cells cs t (0,0)))) (i:Nat) (e:cs[i]?=some v:=by exact rfl):w.cell? ⟨g,i,none⟩=some v:=(blk_cell h.out i).trans e
theorem cB {α:Type} {d:Kd α} {w w1 w2:World} {A:Option Addr} {n:Nat} {xs:List α} (h:Aside0 (d.C w A n xs)) (hb:Aside0 (Below w.heap.size w w1)) (p:Peel w1 w2:=by repeat (first|(with_reducible first|exact Peel.refl|apply Peel.alloc|apply Peel.drewN|apply Peel.drew)|exact Peel.refl)):d.C w2 A n xs:=pC (Kd.C_below h.out hb.out) p
theorem cL {α:Type} {d:Kd α} {e base:Nat} {ok:Nat→Prop} {w:World} {A:Option Addr} {n c:Nat} {xs:List α} (h:Aside0 (d.R e w base ok (.slice A n c) xs)):n≤c:=(Kd.R_reads' h.out).2.1
theorem cR {α:Type} {d:Kd α} {e base:Nat} {ok:Nat→Prop} {w w':World} {A:Option Addr} {n c:Nat} {xs:List α} (h:Aside0 (d.R e w base ok (.slice A n c) xs)) (p:Peel w w':=by repeat (first|(with_reducible first|exact Peel.refl|apply Peel.alloc|apply Peel.drewN|apply Peel.drew)|exact Peel.refl)):d.C w' A xs.length xs:=pC (Kd.R_reads' h.out).2.2 p
theorem rL {α:Type} {d:Kd α} {e base:Nat} {ok:Nat→Prop} {w w':World} {v:Value} {xs:List α} (h:Aside0 (d.R e w base ok v xs)) (p:Peel w w':=by repeat (first|(with_reducible first|exact Peel.refl|apply Peel.alloc|apply Peel.drewN|apply Peel.drew)|exact Peel.refl)):∀ k,v.ownBlock=some k→k<w'.heap.size:=Kd.R_lt (pR h.out p)
theorem rD {α:Type} {d:Kd α} {e base:Nat} {ok:Nat→Prop} {w:World} {v:Value} {xs:List α} (h:Aside0 (d.R e w base ok v xs)):Aside0 (d.R e w.drew base ok v xs):=⟨Kd.R_drew h.out⟩
theorem rB {α:Type} {d:Kd α} {e base:Nat} {ok:Nat→Prop} {w w' w1:World} {v:Value} {xs:List α} (h:Aside0 (d.R e w base ok v xs)) (hb:Below w'.heap.size w' w1) (p:Peel w w':=by repeat (first|(with_reducible first|exact Peel.refl|apply Peel.alloc|apply Peel.drewN|apply Peel.drew)|exact Peel.refl)):Aside0 (d.R e w1 base ok v xs):=⟨Kd.R_below (pR h.out p) hb⟩
theorem rE {α β:Type} {d:Kd α} {d2:Kd β} {e base e2:Nat} {ok ok2:Nat→Prop} {w w' w1 w2:World} {u v:Value} {xs:List α} {ys:List β} (h:Aside0 (d.R e w base ok u xs)) (ho:d2.R e2 w2 w'.heap.size ok2 v ys) (hb:Below w'.heap.size w' w1) (p:Peel w w':=by repeat (first|(with_reducible first|exact Peel.refl|apply Peel.alloc|apply Peel.drewN|apply Peel.drew)|exact Peel.refl)):Aside0 (d.R e w1 base (fun k=>ok k∧some k≠v.ownBlock) u xs):=⟨Kd.R_elder' (pR h.out p) (Kd.R_base ho) hb⟩
theorem rK {α:Type} {d:Kd α} {e base g:Nat} {ok:Nat→Prop} {w w1:World} {v:Value} {xs:List α} (h:d.R e w base (fun k=>ok k∧k≠g) v xs) (hk:KeepBut w w1 g none):d.R e w1 base ok v xs:=Kd.R_mono (Kd.R_keep h hk (fun _ h=>h.2)) (fun _ h=>h.1)
theorem bK {w w' w1:World} {g:Nat} {o:Obj} (h:Aside0 (w.heap[g]?=some o)) (hb:Below w'.heap.size w' w1) (p:Peel w w':=by repeat (first|(with_reducible first|exact Peel.refl|apply Peel.alloc|apply Peel.drewN|apply Peel.drew)|exact Peel.refl)):Aside0 (w1.heap[g]?=some o):=⟨blk_below (pK h.out p) hb⟩
theorem bF {w w' w1:World} {g:Nat} {t:TypeId} {cs:Array Value} (h:Aside0 (w.heap[g]?=some (.cells cs t (0,0)))) (hb:Below w'.heap.size w' w1) (p:PeelF g w w':=by repeat (first|(with_reducible first|exact PeelF.refl|apply PeelF.alloc|apply PeelF.drewN|apply PeelF.drew|refine PeelF.far ?_ (Aside0.out (by with_reducible assumption)))|exact PeelF.refl)):Aside0 (w1.heap[g]?=some (.cells cs t (0,0))):=⟨blk_below (pF h.out p) hb⟩
theorem bpB {w0 w w':World} (h:Aside0 (Below w0.heap.size w0 w)) (p:Peel w w':=by repeat (first|(with_reducible first|exact Peel.refl|apply Peel.alloc|apply Peel.drewN|apply Peel.drew)|exact Peel.refl)):w0.heap.size≤w'.heap.size:=below_size (pB h.out p)
theorem bpS {w0 w w':World} (h:Aside0 (Below w0.heap.size w0 w)) (p:PeelS w0.heap.size w w':=by repeat (first|(with_reducible first|exact PeelS.refl|apply PeelS.alloc|apply PeelS.drewN|apply PeelS.drew|refine PeelS.set ?_ (Aside0.out (by with_reducible assumption)))|exact PeelS.refl)):w0.heap.size≤w'.heap.size:=below_size (pS h.out p)
theorem spB {w0 w w' w1:World} (h:Aside0 (Below w0.heap.size w0 w)) (hb:Below w'.heap.size w' w1) (p:Peel w w':=by repeat (first|(with_reducible first|exact Peel.refl|apply Peel.alloc|apply Peel.drewN|apply Peel.drew)|exact Peel.refl)):Aside0 (Below w0.heap.size w0 w1):=⟨below_step (pB h.out p) hb⟩
theorem spS {w0 w w' w1:World} (h:Aside0 (Below w0.heap.size w0 w)) (hb:Below w'.heap.size w' w1) (p:PeelS w0.heap.size w w':=by repeat (first|(with_reducible first|exact PeelS.refl|apply PeelS.alloc|apply PeelS.drewN|apply PeelS.drew|refine PeelS.set ?_ (Aside0.out (by with_reducible assumption)))|exact PeelS.refl)):Aside0 (Below w0.heap.size w0 w1):=⟨below_step (pS h.out p) hb⟩
theorem gbpB {w0 w w':World} {g:Nat} (h:Aside0 (Below w0.heap.size w0 w)) (hg:g=w'.heap.size) (p:Peel w w':=by repeat (first|(with_reducible first|exact Peel.refl|apply Peel.alloc|apply Peel.drewN|apply Peel.drew)|exact Peel.refl)):Aside0 (w0.heap.size≤g):=⟨lG (below_size (pB h.out p)) hg⟩
theorem gbpS {w0 w w':World} {g:Nat} (h:Aside0 (Below w0.heap.size w0 w)) (hg:g=w'.heap.size) (p:PeelS w0.heap.size w w':=by repeat (first|(with_reducible first|exact PeelS.refl|apply PeelS.alloc|apply PeelS.drewN|apply PeelS.drew|refine PeelS.set ?_ (Aside0.out (by with_reducible assumption)))|exact PeelS.refl)):Aside0 (w0.heap.size≤g):=⟨lG (below_size (pS h.out p)) hg⟩
theorem hC {w W:World} {a:Addr} {v:Value} (HB:Aside0 (Below w.heap.size w W)) (h:w.cell? a=some v):W.cell? a=some v:=(HB.out.cell (World.block_lt_of_cell? w _ h)).trans h
section
variable {P:Program} {ops:Array Oper} {Q:Exit→Act→World→Prop} {md:Region.Mode} {S:World→Prop} {ds:List Nat}
theorem aT {T:Bool × List (List Nat × List Nat)} {l l':Array Bool} {i:Nat} (hT:Aside0 (rtab md ops=T)) (h:anyT T l.toList l'.toList i=true:=by kernel_rfl):anyB md ops l l' i=true:=any_of hT.out h
theorem oT {T:Bool × List (List Nat × List Nat)} {l l':Array Bool} {i:Nat} (hT:Aside0 (rtab md ops=T)) (h:(readyT T.2 l.toList == [i] && l.toList.set i true == l'.toList)=true:=by kernel_rfl):readyB md ops l l' i=true:=one_of hT.out h
theorem tT {T:Bool × List (List Nat × List Nat)} {l l':Array Bool} {i:Nat} {B:List Nat} (hT:Aside0 (rtab md ops=T)) (hB:Aside0 (waitsOk T.2 B=true)) (h:takeW T B ds l.toList l'.toList i=true:=by kernel_rfl):takeB md ops ds l l' i=true:=take_ofW hT.out hB.out h
theorem pu_ (i:Nat) (N:Option Tmp) {oi:Oper} {v:Value} {fuel:Nat} {l:Array Bool} {a a':Act} {w:World} (hc:anyB md ops l (l.setIfInBounds i true) i=true) (h:wpAnyLast P md ops Q S ds fuel (l.setIfInBounds i true) a' w)
  (hi:ops[i]?=some oi:=by exact rfl) (hN:oi.dst=N:=by exact rfl) (hQ:∀ c a w,Q (.panic c) (a.put oi.dst v) w→Q (.panic c) a w:=by exact fun _ _ _ h=>h) (hy:Yields P ops oi v a:=by (refine Or.inl ⟨by rfl,?_⟩);intro w';go_simp;with_reducible rfl)
  (ha:a.put N v=a':=by simp only [Act.put,List.setIfInBounds_toArray,List.set_cons_zero,List.set_cons_succ,i64_w,i32_w];rfl):wpAnyLast P md ops Q S ds (fuel+1) l a w:=pure_ _ hi hN hc hQ hy ha h
theorem pul_ (i:Nat) (N:Option Tmp) (l':Array Bool) {oi:Oper} {v:Value} {fuel:Nat} {l:Array Bool} {a a':Act} {w:World} (hc:anyB md ops l l' i=true) (h:wpAnyLast P md ops Q S ds fuel l' a' w)
  (hi:ops[i]?=some oi:=by exact rfl) (hN:oi.dst=N:=by exact rfl) (hQ:∀ c a w,Q (.panic c) (a.put oi.dst v) w→Q (.panic c) a w:=by exact fun _ _ _ h=>h) (hy:Yields P ops oi v a:=by (refine Or.inl ⟨by rfl,?_⟩);intro w';go_simp;with_reducible rfl)
  (ha:a.put N v=a':=by simp only [Act.put,List.setIfInBounds_toArray,List.set_cons_zero,List.set_cons_succ,i64_w,i32_w];rfl):wpAnyLast P md ops Q S ds (fuel+1) l a w:=pure_ _ hi hN hc hQ hy ha h
theorem on_ (i:Nat) (N:Option Tmp) {oi:Oper} {fuel:Nat} {l:Array Bool} {a:Act} {w:World} (hc:readyB md ops l (l.setIfInBounds i true) i=true)
  (h:∀ K:Act→World→Prop,Shut (∀ a' w',S w'→(S w'→wpAnyLast P md ops Q S ds fuel (l.setIfInBounds i true) a' w')→K a' w')→if Region.wanted oi (yielded ops a.tmps)=true then Oper.wp P oi a w K Q else K (a.put N undef) w)
  (hi:ops[i]?=some oi:=by exact rfl) (hN:oi.dst=N:=by exact rfl) (hd:i ∉ ds:=by decide):wpAnyLast P md ops Q S ds (fuel+1) l a w:=one_ _ hi hN hc hd h
theorem no_ (N:Option Tmp) {v:Value} {fuel:Nat} {l:Array Bool} {a b a':Act} {w:World} (h:wpAnyLast P md ops Q S ds fuel l a' w) (e:a=Act.put b N v:=by exact rfl) (ha:Act.put b N v=a':=by simp only [Act.put,List.setIfInBounds_toArray,List.set_cons_zero,List.set_cons_succ,i64_w,i32_w];rfl):wpAnyLast P md ops Q S ds fuel l a w:=norm_ (e.trans ha) h
theorem bE {rest:List Oper} {o:Oper} {a:Act} {W:World} (N:Tmp) (cs:Array Value) (t:TypeId) (h:∀ g,g=W.heap.size→∀ w1,w1.heap[g]?=some (.cells cs t (0,0))→Below W.heap.size W w1→wpList P ops Q rest (a.put o.dst (.pointer (some ⟨g,0,none⟩))) w1)
  (hd:o.dst=some N:=by with_reducible exact rfl) (hgd:o.guard=none:=by exact rfl) (hrun:(execOp a.eval o).run P W=.ok (.value (.pointer (some ⟨W.heap.size,0,none⟩))) (W.alloc (.cells cs t (0,0))):=by first|(go_simp;done)|(go_simp;rfl)):wpList P ops Q (o :: rest) a W:=box_event hgd hd hrun h
end
def isRow:TypeDesc→Bool|.struct _|.array _ _=>true|_=>false
def stAll (g:Nat):List Value→Nat→World→World
 | [],_,w=>w
 | v :: r,i,w=>stAll g r (i+1) (w.setCell ⟨g,i,none⟩ v)
/-- A kind whose cells lead to no memory: what is read is made anywhere. -/
def Flat {α:Type} (d:Kd α):Prop:=∀ w x cs,d.K w x cs→∀ w' base ok,d.M w' base ok x cs
theorem flat_scalar {α:Type} (enc:α→Value) (h1:∀ x,(enc x).oneCell'=true):Flat (Kd.scalar enc h1):=fun _ _ _ h _ _ _=>h
theorem flat_int (k:IntKind):Flat (Kd.int k):=flat_scalar _ _
/-- A slice that is nil always. -/
theorem flat_pair {α β:Type} {a:Kd α} {b:Kd β} (ha:Flat a) (hb:Flat b):Flat (Kd.pair a b):=by
 rintro w x cs ⟨c0,c1,rfl,h0,h1⟩ w' base ok
 exact ⟨c0,c1,rfl,ha _ _ _ h0 _ _ _,hb _ _ _ h1 _ _ _⟩
theorem flat_iso {α β:Type} {d:Kd α} (f:β→α) (h:Flat d):Flat (Kd.iso d f):=fun w x cs hk w' base ok=>h w (f x) cs hk w' base ok
theorem run_copyN {P:Program} (w:World) (dT sT ty elem:TypeId) (g dLen dCap:Nat) (a:Addr) (sLen sCap:Nat) (cur:Array Value) (t:TypeId) (cs:List Value) (n sz:Nat)
  (hu:P.underlying dT=some (.slice elem)) (hs:(P.info? elem).map (·.size)=some sz)
  (hg:w.heap[g]?=some (.cells cur t (0,0))) (hn:n=Nat.min sLen dLen) (hc:cs.length=n * sz)
  (hsrc:∀ j v,cs[j]?=some v→w.cell? (a.add j)=some v) (hfit:cs.length≤cur.size) (h1:∀ v ∈ cs,v.oneCell'=true) :
  (Builtin.copy_ #[dT,sT] ty #[.slice (some ⟨g,0,none⟩) dLen dCap,.slice (some a) sLen sCap]).run P w =
   .ok (goInt n) (w.setRow g (cs ++ cur.toList.drop cs.length).toArray):=by
 have hl:=run_loadCells_list (P:=P) w a cs hsrc
 have hst:=run_storeCells_at P g 0 t cs 0 cur w hg (by simpa using hfit) h1
 cases hq:P.info? elem with
 | none=>simp [hq] at hs
 | some i =>
  have hi:i.size=sz:=by simpa [hq] using hs
  simp [Builtin.copy_,run_underlying hu,Builtin.lenOf,Builtin.firstCells,sizeOf,typeInfo,hq,hi,← hn,← hc,hl,hst]
theorem run_copyN_none {P:Program} (w:World) (dT sT ty elem:TypeId) (d a:Option Addr) (dLen dCap sLen sCap:Nat) (hu:P.underlying dT=some (.slice elem)) (hs:((P.info? elem).map (·.size)).isSome=true) (hn:Nat.min sLen dLen=0) :
  (Builtin.copy_ #[dT,sT] ty #[.slice d dLen dCap,.slice a sLen sCap]).run P w=.ok (goInt 0) w:=by
 cases hq:P.info? elem with
 | none=>simp [hq] at hs
 | some i =>
  have hl:∀ (x:Addr),(loadCells x 0).run P w=.ok #[] w:=fun x=>by simpa using run_loadCells_list (P:=P) w x [] (by simp)
  cases d<;>cases a<;>simp [Builtin.copy_,run_underlying hu,Builtin.lenOf,Builtin.firstCells,sizeOf,typeInfo,hq,hn,storeCells,hl]
/-- What is read, cell by cell, in line. -/
theorem cells_of_C {α:Type} {d:Kd α} {w:World} {ad:Addr}:∀ (ys:List α) (j0:Nat),
  (∀ j p,ys[j]?=some p→∃ c,c.length=d.sz∧d.K w p c∧∀ i u,c[i]?=some u→w.cell? (ad.add ((j0+j) * d.sz+i))=some u) →
  ∃ cs:List Value,Reps (d.K w) d.sz ys cs∧∀ i u,cs[i]?=some u→w.cell? (ad.add (j0 * d.sz+i))=some u
 | [],j0,_=>⟨[],Reps.none _ _,fun i u h=>by simp at h⟩
 | y :: ys,j0,h=>by
  obtain ⟨c,hc,hK,hcell⟩:=h 0 y rfl
  obtain ⟨cs,hr,hcs⟩:=cells_of_C ys (j0+1) (fun j p hp=>by
   obtain ⟨c,h1,h2,h3⟩:=h (j+1) p hp
   exact ⟨c,h1,h2,fun i u hu=>by rw [show j0+1+j=j0+(j+1) by omega];exact h3 i u hu⟩)
  refine ⟨c ++ cs,⟨?_,fun j p hp=>?_⟩,fun i u hu=>?_⟩
  ·rw [List.length_append,hc,hr.1,List.length_cons,Nat.succ_mul];omega
  ·cases j with
   | zero =>
    obtain rfl:y=p:=by simpa using hp
    rw [Nat.zero_mul,List.drop_zero,List.take_append_of_le_length (by omega),← hc,List.take_length]
    exact hK
   | succ j =>
    have:=hr.2 j p (by simpa using hp)
    rw [Nat.succ_mul,Nat.add_comm,← List.drop_drop,← hc,List.drop_left,hc]
    exact this
  ·rcases Nat.lt_or_ge i c.length with hi|hi
   ·rw [List.getElem?_append_left hi] at hu
    have:=hcell i u hu
    simpa using this
   ·rw [List.getElem?_append_right hi] at hu
    have:=hcs _ _ hu
    rw [Nat.succ_mul] at this
    rw [show j0 * d.sz+i=j0 * d.sz+d.sz+(i - c.length) by omega]
    exact this
theorem below_of_grown {W w1:World} (h:W.grownBy w1 none):Below W.heap.size W w1:=⟨h.os,h.tape,h.output,h.size,fun k hk=>h.block k hk (by simp)⟩
section
variable {P:Program} {ops:Array Oper} {rest:List Oper} {o:Oper} {a:Act} {Q:Exit→Act→World→Prop}
variable {α:Type}
/-- 'copy(out, list)': out is a row of the call's own, as long as list; behind it out reads as list. -/
theorem R_copy (d:Kd α) (hflat:Flat d) {w0 W:World} (base:Nat) (hgd:o.guard=none) (x y:Operand) (t t' e:TypeId)
  (ho:o.op=.call { callee:=.builtin .copy,args:=#[x,y],argTypes:=#[t,t'] })
  (ht:P.underlying t=some (.slice e)) (hinfo:(P.info? e).map (·.size)=some d.sz)
  (v:Value) (A:Option Addr) (m c:Nat) (xs ys:List α) (ok:Nat→Prop) (hx:a.eval x=v) (hy:a.eval y=.slice A m c)
  (hm:m=ys.length) (hlen:xs.length=ys.length)
  (HO:d.R e W base ok v xs) (HC:d.C W A m ys) (HB:Below base w0 W)
  (h:∀ w1,d.R e w1 base ok v ys→Below base w0 w1→W.grownBy w1 v.ownBlock→wpList P ops Q rest (a.put o.dst (.int .i64 (ys.length:Int))) w1) :
  wpList P ops Q (o :: rest) a W:=by
 subst hm
 obtain ⟨h0,inner,ho1,hr⟩:=HO
 refine wpList_plain hgd fun K hK=>?_
 have hs':((P.info? e).map (·.size)).isSome=true:=by rw [hinfo];rfl
 by_cases hz:ys.length=0
 ·obtain rfl:ys=[]:=List.eq_nil_of_length_eq_zero hz
  obtain rfl:xs=[]:=List.eq_nil_of_length_eq_zero (by simpa using hlen)
  obtain ⟨A',c',rfl⟩:=own_slice ho1
  have hrun:=run_copyN_none (P:=P) W t t' o.type e A' A 0 c' 0 c ht hs' rfl
  unfold Oper.wp
  simp only [List.length_nil] at hx hy hK h
  simp [execOp,ho,resolve,invoke,builtin,hx,hy,hrun,Result.andThen]
  exact hK _ _ (h W ⟨h0,inner,ho1,hr⟩ HB ⟨rfl,rfl,rfl,Nat.le_refl _,fun _ _ _=>rfl⟩)
 ·have hpos:0<ys.length:=Nat.pos_of_ne_zero hz
  obtain ⟨ad,rfl,hcs⟩:=HC.2.2 hpos
  obtain ⟨cs,hcr,hcell⟩:=cells_of_C (d:=d) ys 0 (fun j p hp=>by
   obtain ⟨c,h1,h2,h3⟩:=hcs j p hp
   exact ⟨c,h1,h2,fun i u hu=>by rw [Nat.zero_add];exact h3 i u hu⟩)
  rcases ho1 with ⟨hl1,⟨_,hn0⟩|⟨g,cap,cur,rfl,hbg,hg,hncap,hcm,hsz,htk⟩⟩
  ·omega
  have hlcs:cs.length=ys.length * d.sz:=hcr.1
  have hle:cs.length≤cur.size:=by rw [hlcs,hsz,← hlen];exact Nat.mul_le_mul_right _ hncap
  have hone:∀ v ∈ cs,v.oneCell'=true:=by
   intro v hv
   obtain ⟨i,hi⟩:=List.getElem?_of_mem hv
   have hil:=(List.getElem?_eq_some_iff.1 hi).1
   have hsz0:0<d.sz:=by
    rcases Nat.eq_zero_or_pos d.sz with h0|h0
    ·rw [h0,Nat.mul_zero] at hlcs;omega
    ·exact h0
   have hj:i / d.sz<ys.length:=by rw [Nat.div_lt_iff_lt_mul hsz0,← hlcs];exact hil
   have hp:=hcr.2 (i / d.sz) _ (List.getElem?_eq_getElem hj)
   refine d.K_one hp v ?_
   have hmod:=Nat.mod_lt i hsz0
   have hdm:=Nat.div_add_mod i d.sz
   have:((cs.drop (i / d.sz * d.sz)).take d.sz)[i % d.sz]?=some v:=by
    rw [List.getElem?_take,if_pos hmod,List.getElem?_drop,show i / d.sz * d.sz+i % d.sz=i by rw [Nat.mul_comm];exact hdm]
    exact hi
   exact List.mem_of_getElem? this
  have hrun:=run_copyN (P:=P) W t t' o.type e g xs.length cap ad ys.length c cur e cs ys.length d.sz ht hinfo hg (by rw [hlen];exact (Nat.min_self _).symm) hlcs
   (fun j v hv=>by have:=hcell j v hv;simpa using this) hle hone
  unfold Oper.wp
  simp [execOp,ho,resolve,invoke,builtin,hx,hy,hrun,Result.andThen]
  have hnew:=setRow_heap W g cur (cs ++ cur.toList.drop cs.length).toArray e (0,0) hg
  have hgrow:W.grownBy (W.setRow g (cs ++ cur.toList.drop cs.length).toArray) (some g) :=
   ⟨rfl,rfl,rfl,by simp [World.setRow],fun k _ hne=>setRow_other W g k _ (by rintro rfl;exact hne rfl)⟩
  refine hK _ _ (h _ ⟨h0,cs,⟨by rw [hlcs],.inr ⟨g,cap,_,by rw [hlen],hbg,hnew,by omega,hcm,?_,?_⟩⟩,?_⟩ ?_ hgrow)
  ·simp;omega
  ·simp [← hlcs]
  ·exact hcr.imp_ (fun p c hp=>hflat _ _ _ hp _ _ _)
  ·exact HB.trans ⟨rfl,rfl,rfl,by simp [World.setRow],fun k hk=>setRow_other W g k _ (by omega)⟩
end
section
variable {P:Program} {ops:Array Oper} {Q:Exit→Act→World→Prop}
/-- Stands only where the operation that fills this slot comes next. -/
theorem gT (N:Tmp) {rest:List Oper} {o:Oper} {a:Act} {W:World} (hd:o.dst=some N) (h:wpList P ops Q (o :: rest) a W):wpList P ops Q (o :: rest) a W:=h
/-- Stands only where a struct is read, or stored, next. -/
theorem gLg {rest:List Oper} {o:Oper} {a:Act} {W:World} {ty:TypeId} {p:Tmp} {d:TypeDesc} (ho:o.op=.load ty (.tmp p)) (hu:P.underlying ty=some d) (h:wpList P ops Q (o :: rest) a W):wpList P ops Q (o :: rest) a W:=h
theorem gSt {rest:List Oper} {o:Oper} {a:Act} {W:World} {ty:TypeId} {p:Tmp} {x:Operand} {d:TypeDesc} (ho:o.op=.store ty (.tmp p) x) (hu:P.underlying ty=some d) (h:wpList P ops Q (o :: rest) a W):wpList P ops Q (o :: rest) a W:=h
/-- A struct, or a struct within a struct, read at once; a guard ahead of it is known to let it be. -/
theorem ldV {rest:List Oper} {o:Oper} {a:Act} {W:World} {t ty:TypeId} {p:Tmp} {g off n:Nat} {cs l:List Value} {d:TypeDesc} (h:wpList P ops Q rest (a.put o.dst (.agg l.toArray)) W)
  (ho:o.op=.load ty (.tmp p):=by with_reducible exact rfl) (hw:Region.wanted o (yielded ops a.tmps)=true:=by rfl) (hp:a.eval (.tmp p)=.pointer (some ⟨g,off,none⟩):=by exact rfl)
  (hb:Aside0 (W.heap[g]?=some (.cells cs.toArray t (0,0))):=by first|(with_reducible assumption)|exact ⟨pP (by with_reducible assumption)⟩) (hu:P.underlying ty=some d:=by with_reducible assumption)
  (hd:isRow d=true:=by exact rfl) (hi:(P.info? ty).map (·.size)=some n:=by first|exact (rfl:_=some 26)|exact (rfl:_=some 12)|exact (rfl:_=some 10)|exact (rfl:_=some 2)|exact (rfl:_=some 3)|exact (rfl:_=some 4)|exact (rfl:_=some 5)|exact (rfl:_=some 15)|exact (rfl:_=some 6)|exact (rfl:_=some 7)|exact (rfl:_=some 8)|exact (rfl:_=some 9)|exact (rfl:_=some 11)|exact (rfl:_=some 13)|exact (rfl:_=some 14)|exact (rfl:_=some 1)) (hl:(cs.drop off).take n=l:=by simp only [List.drop_succ_cons,List.drop_zero,List.take_succ_cons,List.take_zero];rfl) (hn:l.length=n:=by exact rfl):wpList P ops Q (o :: rest) a W:=by
 have hl2:(loadCells ⟨g,off,none⟩ l.length).run P W=.ok l.toArray W:=run_loadCells_list (P:=P) W ⟨g,off,none⟩ l (fun j v hv=>by
  have hadd:(⟨g,off,none⟩:Addr).add j=⟨g,off+j,none⟩:=by unfold Addr.add;split<;>simp_all
  rw [hadd,blk_cell hb.out (off+j)]
  rw [← hl,List.getElem?_take] at hv
  split at hv
  ·rw [List.getElem?_drop] at hv
   simpa using hv
  ·cases hv)
 have hrun:(execOp a.eval o).run P W=.ok (.value (.agg l.toArray)) W:=by
  cases hq:P.info? ty with
  | none=>simp [hq] at hi
  | some i =>
   have hs:i.size=n:=by simpa [hq] using hi
   have hagg:(isAgg ty).run P W=.ok true W:=by
    unfold isAgg
    rw [Sem.run_bind,run_underlying hu W]
    cases d<;>first|rfl|exact Bool.noConfusion hd
   rw [hn] at hl2
   have hr:(loadVar ty ⟨g,off,none⟩).run P W=.ok (.agg l.toArray) W:=by simp [loadVar,Sem.run_bind,hagg,sizeOf,typeInfo,hq,hs,hl2]
   unfold execOp
   simp [ho,Instr.loadAt,Instr.sureAddr,hp,hr]
 refine wpList_step fun K hK=>?_
 rw [if_pos hw]
 unfold Oper.wp
 rw [hrun]
 exact hK _ _ h
theorem run_stAllO {P:Program} (g off:Nat) (t:TypeId):∀ (vs:List Value) (i:Nat) (cur:Array Value) (w:World),w.heap[g]?=some (.cells cur t (0,0))→off+i+vs.length≤cur.size→(∀ v ∈ vs,v.oneCell'=true) →
  (storeCells ⟨g,off,none⟩ vs i).run P w=.ok () (stAll g vs (off+i) w)
 | [],i,cur,w,hg,_,_=>rfl
 | v :: r,i,cur,w,hg,hl,h1=>by
  have hadd:(⟨g,off,none⟩:Addr).add i=⟨g,off+i,none⟩:=by unfold Addr.add;split<;>simp_all
  simp only [List.length_cons] at hl
  have hlt:off+i<cur.size:=by omega
  have hcell:w.cell? ⟨g,off+i,none⟩=some cur[off+i]:=(blk_cell hg (off+i)).trans (Array.getElem?_eq_getElem hlt)
  have hst:(store ⟨g,off+i,none⟩ v).run P w=.ok () (w.setCell ⟨g,off+i,none⟩ v):=by
   rw [run_store P w _ v _ (h1 v (by simp)),hcell,blk_frozen hg (off+i)]
   rfl
  have ih:=run_stAllO (P:=P) g off t r (i+1) (cur.setIfInBounds (off+i) v) (w.setCell ⟨g,off+i,none⟩ v) (blk_put hg (off+i) v rfl) (by rw [Array.size_setIfInBounds];omega) (fun x hx=>h1 x (by simp [hx]))
  simp [storeCells,hadd,hst,ih,stAll,Nat.add_assoc]
/-- A struct, or a struct within a struct, stored at once. -/
theorem stV {rest:List Oper} {o:Oper} {a:Act} {W W':World} {t ty:TypeId} {p:Tmp} {x:Operand} {g off:Nat} {cur:Array Value} {l:List Value} (h:wpList P ops Q rest a W')
  (ho:o.op=.store ty (.tmp p) x:=by with_reducible exact rfl) (hg:o.guard=none:=by exact rfl) (hN:o.dst=none:=by exact rfl) (hp:a.eval (.tmp p)=.pointer (some ⟨g,off,none⟩):=by exact rfl) (hx:a.eval x=.agg l.toArray:=by exact rfl)
  (hb:Aside0 (W.heap[g]?=some (.cells cur t (0,0))):=by first|(with_reducible assumption)|exact ⟨pP (by with_reducible assumption)⟩)
  (hs:Nat.ble (off+l.length) cur.size=true:=by kernel_rfl) (hi:(P.info? ty).map (·.size)=some l.length:=by kernel_rfl) (h1:(l.all fun v=>v.oneCell')=true:=by kernel_rfl)
  (e:stAll g l off W=W':=by simp only [stAll,Nat.reduceAdd];rfl):wpList P ops Q (o :: rest) a W:=by
 have hr:=run_stAllO (P:=P) g off t l 0 cur W hb.out (by have:=Nat.le_of_ble_eq_true hs;omega) (fun v hv=>List.all_eq_true.1 h1 v hv)
 refine store_event hg ho hN (w1:=W') ?_ (fun w' hw=>by rw [hw];exact h)
 rw [← e]
 unfold execOp
 cases hq:P.info? ty with
 | none=>rw [hq] at hi;cases hi
 | some i =>
  have hsz:i.size=l.length:=by rw [hq] at hi;simpa using hi
  simp [ho,Instr.storeAt,Instr.sureAddr,hp,hx,storeVar,Value.cells,sizeOf,typeInfo,hq,hsz,hr]
end
/-! Third set of short words: whole calls, steps that are off, boxes read in a region that draws. -/
section
variable {P:Program} {ops:Array Oper} {Q:Exit→Act→World→Prop} {md:Region.Mode} {S:World→Prop} {ds:List Nat}
theorem gC {rest:List Oper} {oi:Oper} {a:Act} {w:World} (N:Option Tmp) {f:FuncId} {fn:Func} {args:Array Value} {as:Array Operand} {ts:Array TypeId} {R:Ending→World→Prop} (hf:P.funcs[f]?=some fn) (hc:Calls P f args w R) (h:∀ e w',R e w'→∃ v,e=.returned v∧wpList P ops Q rest (a.put N v) w')
    (hop : oi.op = .call { callee := .value (.func f), args := as, argTypes := ts } := by with_reducible exact rfl) (hd : oi.dst = N := by exact rfl) (hg : oi.guard = none := by exact rfl) (hname : (fn.name == "runtime.NumGoroutine") = false := by kernel_rfl) (hb : fn.body.isSome = true := by exact rfl)
  (hargs:as.map a.eval=args:=by (try simp only [List.map_toArray,List.map_cons,List.map_nil]);first|done|rfl|(simp only [List.length_drop,List.length_take];rfl)):wpList P ops Q (oi :: rest) a w:=goesL_ N hd hg hf hname hb args hop hargs (hc.mono h)
theorem gD {oi:Oper} {N:Option Tmp} {a:Act} {w:World} {K:Act→World→Prop} {f:FuncId} {fn:Func} {args:Array Value} {as:Array Operand} {ts:Array TypeId} {R:Ending→World→Prop} (hf:P.funcs[f]?=some fn) (hc:Calls P f args w R) (h:∀ e w',R e w'→∃ v,e=.returned v∧K (a.put N v) w')
    (hname : (fn.name == "runtime.NumGoroutine") = false := by kernel_rfl) (hb : fn.body.isSome = true := by exact rfl) (hw : Region.wanted oi (yielded ops a.tmps) = true := by rfl) (hN : oi.dst = N := by exact rfl) (hop : oi.op = .call { callee := .value (.func f), args := as, argTypes := ts } := by exact rfl)
  (hargs:as.map a.eval=args:=by (try simp only [List.map_toArray,List.map_cons,List.map_nil]);first|done|rfl|(simp only [List.length_drop,List.length_take];rfl)):if Region.wanted oi (yielded ops a.tmps)=true then Oper.wp P oi a w K Q else K (a.put N undef) w:=goes_ hf hname hb args hw hN hop hargs (hc.mono h)
/-- A step that its guard leaves out. -/
theorem ldRun {o:Oper} {a:Act} {W:World} {t ty:TypeId} {p:Tmp} {g:Nat} {cs:Array Value} {d:TypeDesc}
  (ho:o.op=.load ty (.tmp p):=by exact rfl) (hp:a.eval (.tmp p)=.pointer (some ⟨g,0,none⟩):=by exact rfl)
  (hb:W.heap[g]?=some (.cells cs t (0,0)):=by with_reducible assumption) (hu:P.underlying ty=some d:=by with_reducible assumption)
  (hd:isRow d=true:=by exact rfl) (hi:(P.info? ty).map (·.size)=some cs.size:=by kernel_rfl):(execOp a.eval o).run P W=.ok (.value (.agg cs)) W:=by
 have hr:(loadVar ty ⟨g,0,none⟩).run P W=.ok (.agg cs) W:=by
  cases d<;>first|exact run_loadVar_row W g t ty cs (0,0) _ hb hu rfl hi|exact Bool.noConfusion hd
 unfold execOp
 simp [ho,Instr.loadAt,Instr.sureAddr,hp,hr]
theorem tb1_ (i:Nat) (N:Option Tmp) {oi:Oper} {v:Value} {fuel:Nat} {l:Array Bool} {a a':Act} {w:World} (hc:takeB md ops ds l (l.setIfInBounds i true) i=true) (hS:S w) (h:wpAnyLast P md ops Q S ds fuel (l.setIfInBounds i true) a' w)
  (hi:ops[i]?=some oi:=by exact rfl) (hN:oi.dst=N:=by exact rfl) (hQ:∀ c a w,Q (.panic c) (a.put oi.dst v) w→Q (.panic c) a w:=by exact fun _ _ _ h=>h) (hy:YieldsIf P ops S oi v a:=by (refine Or.inl ⟨by rfl,?_⟩);rintro w' s0;first|exact ldRun|((try have c0_:=fun i_=>blk_cell s0 i_);(try have f0_:=fun i_=>blk_frozen s0 i_);go_simp;with_reducible rfl))
  (ha:a.put N v=a':=by simp only [Act.put,List.setIfInBounds_toArray,List.set_cons_zero,List.set_cons_succ,i64_w,i32_w];rfl):wpAnyLast P md ops Q S ds (fuel+1) l a w:=take_ _ hi hN hc hQ hy hS ha h
theorem tb1l_ (i:Nat) (N:Option Tmp) (l':Array Bool) {oi:Oper} {v:Value} {fuel:Nat} {l:Array Bool} {a a':Act} {w:World} (hc:takeB md ops ds l l' i=true) (hS:S w) (h:wpAnyLast P md ops Q S ds fuel l' a' w)
  (hi:ops[i]?=some oi:=by exact rfl) (hN:oi.dst=N:=by exact rfl) (hQ:∀ c a w,Q (.panic c) (a.put oi.dst v) w→Q (.panic c) a w:=by exact fun _ _ _ h=>h) (hy:YieldsIf P ops S oi v a:=by (refine Or.inl ⟨by rfl,?_⟩);rintro w' s0;first|exact ldRun|((try have c0_:=fun i_=>blk_cell s0 i_);(try have f0_:=fun i_=>blk_frozen s0 i_);go_simp;with_reducible rfl))
  (ha:a.put N v=a':=by simp only [Act.put,List.setIfInBounds_toArray,List.set_cons_zero,List.set_cons_succ,i64_w,i32_w];rfl):wpAnyLast P md ops Q S ds (fuel+1) l a w:=take_ _ hi hN hc hQ hy hS ha h
theorem tb2_ (i:Nat) (N:Option Tmp) {oi:Oper} {v:Value} {fuel:Nat} {l:Array Bool} {a a':Act} {w:World} (hc:takeB md ops ds l (l.setIfInBounds i true) i=true) (hS:S w) (h:wpAnyLast P md ops Q S ds fuel (l.setIfInBounds i true) a' w)
  (hi:ops[i]?=some oi:=by exact rfl) (hN:oi.dst=N:=by exact rfl) (hQ:∀ c a w,Q (.panic c) (a.put oi.dst v) w→Q (.panic c) a w:=by exact fun _ _ _ h=>h) (hy:YieldsIf P ops S oi v a:=by (refine Or.inl ⟨by rfl,?_⟩);rintro w' ⟨s0,s1⟩;first|exact ldRun|((try have c0_:=fun i_=>blk_cell s0 i_);(try have f0_:=fun i_=>blk_frozen s0 i_);(try have c1_:=fun i_=>blk_cell s1 i_);(try have f1_:=fun i_=>blk_frozen s1 i_);go_simp;with_reducible rfl))
  (ha:a.put N v=a':=by simp only [Act.put,List.setIfInBounds_toArray,List.set_cons_zero,List.set_cons_succ,i64_w,i32_w];rfl):wpAnyLast P md ops Q S ds (fuel+1) l a w:=take_ _ hi hN hc hQ hy hS ha h
theorem tb2l_ (i:Nat) (N:Option Tmp) (l':Array Bool) {oi:Oper} {v:Value} {fuel:Nat} {l:Array Bool} {a a':Act} {w:World} (hc:takeB md ops ds l l' i=true) (hS:S w) (h:wpAnyLast P md ops Q S ds fuel l' a' w)
  (hi:ops[i]?=some oi:=by exact rfl) (hN:oi.dst=N:=by exact rfl) (hQ:∀ c a w,Q (.panic c) (a.put oi.dst v) w→Q (.panic c) a w:=by exact fun _ _ _ h=>h) (hy:YieldsIf P ops S oi v a:=by (refine Or.inl ⟨by rfl,?_⟩);rintro w' ⟨s0,s1⟩;first|exact ldRun|((try have c0_:=fun i_=>blk_cell s0 i_);(try have f0_:=fun i_=>blk_frozen s0 i_);(try have c1_:=fun i_=>blk_cell s1 i_);(try have f1_:=fun i_=>blk_frozen s1 i_);go_simp;with_reducible rfl))
  (ha:a.put N v=a':=by simp only [Act.put,List.setIfInBounds_toArray,List.set_cons_zero,List.set_cons_succ,i64_w,i32_w];rfl):wpAnyLast P md ops Q S ds (fuel+1) l a w:=take_ _ hi hN hc hQ hy hS ha h
end
theorem rZ {p q:Prop} (h:q) (e:p:=by first|rfl|(simp [errW_none,errW_some]<;>rfl)|(simp [*,errW_none,errW_some]<;>rfl)):p∧q:=⟨e,h⟩
theorem pF2 {w w':World} {g:Nat} {t:TypeId} {cs:Array Value} (h:Aside0 (w.heap[g]?=some (.cells cs t (0,0)))) (p:PeelF g w w':=by repeat (first|(with_reducible first|exact PeelF.refl|apply PeelF.alloc|apply PeelF.drewN|apply PeelF.drew|refine PeelF.far ?_ (Aside0.out (by with_reducible assumption)))|exact PeelF.refl)):w'.heap[g]?=some (.cells cs t (0,0)):=pF h.out p
/-- The cells of a struct from its second on, each at its place. -/
def CS (w:World) (a:Addr):List Nat→List Value→Prop→Prop
 | [n],v :: _,Q=>w.cell? ⟨a.block,a.off+n,none⟩=some v∧Q
 | n :: ns,v :: vs,Q=>w.cell? ⟨a.block,a.off+n,none⟩=some v∧CS w a ns vs Q
 | _,_,Q=>Q
theorem CS_aux {w:World} {a:Addr} {c:List Value} {Q:Prop} (hQ:Q) (hc:∀ s v,0<s→c[s]?=some v→w.cell? ⟨a.block,a.off+s,none⟩=some v):∀ (k s:Nat) (d:List Value),0<s→(∀ j u,d[j]?=some u→c[s+j]?=some u)→CS w a (List.range' s k) d Q:=by
 intro k
 induction k with
 | zero=>intro s d _ _;exact hQ
 | succ k ih =>
  intro s d hs h
  cases d with
  | nil=>cases k<;>exact hQ
  | cons v d =>
   have h1:=hc s v hs (h 0 v rfl)
   have h2:=ih (s+1) d (by omega) (fun j u hj=>by rw [show s+1+j=s+(j+1) by omega];exact h (j+1) u hj)
   cases k with
   | zero=>exact ⟨h1,hQ⟩
   | succ k=>exact ⟨h1,h2⟩
theorem CS_mk {w:World} {ad:Addr} {m:Nat} {c:List Value} {ns:List Nat} {Q:Prop} (hc:∀ j u,c[j]?=some u→w.cell? (ad.add (m+j))=some u) (hn:ns=List.range' 1 ns.length) (hQ:Q):CS w (ad.add m) ns c.tail Q:=by
 have e:=CS_aux (w:=w) (a:=ad.add m) (c:=c) hQ (fun s v hs hv=>by rw [← add_field _ _ s hs];exact hc s v hv) ns.length 1 c.tail (by omega) (fun j u h=>by cases c with|nil=>cases h|cons v c=>rw [show 1+j=j+1 by omega];exact h)
 rw [← hn] at e
 exact e
section
variable {α:Type} {d:Kd α} {e base:Nat} {ok:Nat→Prop} {w w' w1:World} {v:Value} {xs:List α} {b:Prop} {A:Option Addr} {n c:Nat}
theorem rY (h:Aside0 (d.R e w base ok v xs)) (hk:Aside0 b) (hb:Below w'.heap.size w' w1) (p:PeelD (e :: d.E) w w':=by
  repeat (first|(with_reducible first|exact PeelD.refl|apply PeelD.alloc|apply PeelD.drewN|apply PeelD.drew)|refine PeelD.set ?_ (Aside0.out (by with_reducible assumption)) (by decide)|exact PeelD.refl)):Aside0 (d.R e w1 base ok v xs):=⟨Kd.R_below (pG h hk p) hb⟩
theorem cG (h:Aside0 (d.R e w base ok (.slice A n c) xs)) (hk:Aside0 b) (p:PeelD (e :: d.E) w w':=by
  repeat (first|(with_reducible first|exact PeelD.refl|apply PeelD.alloc|apply PeelD.drewN|apply PeelD.drew)|refine PeelD.set ?_ (Aside0.out (by with_reducible assumption)) (by decide)|exact PeelD.refl)):d.C w' A xs.length xs:=(Kd.R_reads' (pG h hk p)).2.2
end
/-- The cells of a type's zero value; a row of values to name them by. -/
def ZV (_:TypeId) (_:Array Value):Prop:=True
section
variable {P:Program} {ops:Array Oper} {Q:Exit→Act→World→Prop}
theorem bJ {rest:List Oper} {o:Oper} {a:Act} {W:World} {cs:Array Value} {t:TypeId} (N:Tmp) (_:ZV t cs) (h:∀ g,g=W.heap.size→∀ w1,w1.heap[g]?=some (.cells cs t (0,0))→Below W.heap.size W w1→wpList P ops Q rest (a.put o.dst (.pointer (some ⟨g,0,none⟩))) w1)
  (hd:o.dst=some N:=by with_reducible exact rfl) (hgd:o.guard=none:=by exact rfl) (hrun:(execOp a.eval o).run P W=.ok (.value (.pointer (some ⟨W.heap.size,0,none⟩))) (W.alloc (.cells cs t (0,0))):=by first|(go_simp;done)|(go_simp;rfl)):wpList P ops Q (o :: rest) a W:=box_event hgd hd hrun h
theorem bX {rest:List Oper} {o:Oper} {a:Act} {W:World} {cs:Array Value} {t:TypeId} {x:Operand} (N:Tmp) (h:∀ g,g=W.heap.size→∀ w1,w1.heap[g]?=some (.cells cs t (0,0))→Below W.heap.size W w1→wpList P ops Q rest (a.put o.dst (.pointer (some ⟨g,0,none⟩))) w1)
  (ho:o.op=.box t x:=by with_reducible exact rfl) (hx:a.eval x=.agg cs:=by exact rfl)
  (hd:o.dst=some N:=by with_reducible exact rfl) (hgd:o.guard=none:=by exact rfl) (hrun:(execOp a.eval o).run P W=.ok (.value (.pointer (some ⟨W.heap.size,0,none⟩))) (W.alloc (.cells cs t (0,0))):=by first|(go_simp;done)|(go_simp;rfl)):wpList P ops Q (o :: rest) a W:=box_event hgd hd hrun h
end
/-- A struct's cells, from an address on. -/
def RS (w:World) (A:Addr) (cs:List Value):Prop:=∀ j u,cs[j]?=some u→w.cell? (A.add j)=some u
def NL:List Nat:=[1,2,3,4,5,6,7,8,9,10,11,12,13,14,15,16,17,18,19,20,21,22,23,24,25,26,27,28,29,30]
theorem RS.hd {w:World} {A:Addr} {cs:List Value} {v:Value} (h:RS w A cs) (e:cs[0]?=some v):w.cell? A=some v:=h 0 v e
theorem RS.cs {w:World} {A:Addr} {c:List Value} (h:RS w A c):CS w A NL c.tail True :=
 CS_aux trivial (fun s v hs hv=>by
  have q:=h s v hv
  unfold Addr.add at q
  rwa [if_neg (by omega)] at q) 30 1 c.tail (by omega) (fun j u h=>by cases c with|nil=>cases h|cons v c=>rw [show 1+j=j+1 by omega];exact h)
theorem rS {w W W':World} {A:Addr} {cs:List Value} (HB:Aside0 (Below w.heap.size w W)) (h:RS w A cs) (q:∀ a,W'.cell? a=W.cell? a:=by exact fun _=>rfl):RS W' A cs:=fun j u e=>(q _).trans (hC HB (h j u e))
theorem rI {w:World} {ad:Addr} {m:Nat} {c:List Value} (hc:∀ j u,c[j]?=some u→w.cell? (ad.add (m+j))=some u):RS w (ad.add m) c:=fun j u e=>by rw [Addr.add_add];exact hc j u e
section
variable {P:Program} {ops:Array Oper} {Q:Exit→Act→World→Prop} {md:Region.Mode} {S:World→Prop} {ds:List Nat}
theorem ldRS {o:Oper} {a:Act} {W:World} {ty:TypeId} {p:Tmp} {A:Addr} {cs:List Value} {d:TypeDesc}
  (ho:o.op=.load ty (.tmp p):=by exact rfl) (hp:a.eval (.tmp p)=.pointer (some A):=by exact rfl)
  (hb:RS W A cs:=by with_reducible assumption) (hu:P.underlying ty=some d:=by with_reducible assumption)
  (hd:isRow d=true:=by exact rfl) (hi:(P.info? ty).map (·.size)=some cs.length:=by kernel_rfl):(execOp a.eval o).run P W=.ok (.value (.agg cs.toArray)) W:=by
 have hl:=run_loadCells_list (P:=P) W A cs hb
 have hr:(loadVar ty A).run P W=.ok (.agg cs.toArray) W:=by
  cases hq:P.info? ty with
  | none=>simp [hq] at hi
  | some i =>
   have hs:i.size=cs.length:=by simpa [hq] using hi
   have hagg:(isAgg ty).run P W=.ok true W:=by
    unfold isAgg
    rw [Sem.run_bind,run_underlying hu W]
    cases d<;>first|rfl|exact Bool.noConfusion hd
   simp [loadVar,Sem.run_bind,hagg,sizeOf,typeInfo,hq,hs,hl]
 unfold execOp
 simp [ho,Instr.loadAt,Instr.sureAddr,hp,hr]
theorem qu (i:Nat) {T:Bool × List (List Nat × List Nat)} {N:Option Tmp} {op:Op} {ty:TypeId} {pos:String} {af:Array Edge} {gd:Option (Nat × Bool)} {v:Value} {fuel:Nat} {l:Array Bool} {a a':Act} {w:World} (h:wpAnyLast P md ops Q S ds fuel (l.setIfInBounds i true) a' w)
  (hT:Aside0 (rtab md ops=T):=by with_reducible assumption) (hc:anyT T l.toList (l.setIfInBounds i true).toList i=true:=by kernel_rfl) (hi:ops[i]?=some ⟨N,op,ty,pos,af,gd⟩:=by exact rfl) (hQ:∀ c a w,Q (.panic c) (a.put N v) w→Q (.panic c) a w:=by exact fun _ _ _ h=>h) (hy:Yields P ops ⟨N,op,ty,pos,af,gd⟩ v a:=by (refine Or.inl ⟨by rfl,?_⟩);intro w';go_simp;with_reducible rfl)
  (ha:a.put N v=a':=by simp only [Act.put,List.setIfInBounds_toArray,List.set_cons_zero,List.set_cons_succ,i64_w,i32_w];rfl):wpAnyLast P md ops Q S ds (fuel+1) l a w:=pure_ _ hi rfl (any_of hT.out hc) hQ hy ha h
theorem qd (i:Nat) {T:Bool × List (List Nat × List Nat)} {N:Option Tmp} {op:Op} {ty:TypeId} {pos:String} {af:Array Edge} {gd:Option (Nat × Bool)} {fuel:Nat} {l:Array Bool} {a a':Act} {w:World} (h:wpAnyLast P md ops Q S ds fuel (l.setIfInBounds i true) a' w)
  (hT:Aside0 (rtab md ops=T):=by with_reducible assumption) (hc:anyT T l.toList (l.setIfInBounds i true).toList i=true:=by kernel_rfl) (hi:ops[i]?=some ⟨N,op,ty,pos,af,gd⟩:=by exact rfl) (hQ:∀ c a w,Q (.panic c) (a.put N undef) w→Q (.panic c) a w:=by exact fun _ _ _ h=>h) (hy:Region.wanted ⟨N,op,ty,pos,af,gd⟩ (yielded ops a.tmps)=false:=by rfl)
  (ha:a.put N undef=a':=by simp only [Act.put,List.setIfInBounds_toArray,List.set_cons_zero,List.set_cons_succ,i64_w,i32_w];rfl):wpAnyLast P md ops Q S ds (fuel+1) l a w:=pure_ _ hi rfl (any_of hT.out hc) hQ (Or.inr ⟨hy,rfl⟩) ha h
theorem qt (i:Nat) {T:Bool × List (List Nat × List Nat)} {B:List Nat} {N:Option Tmp} {op:Op} {ty:TypeId} {pos:String} {af:Array Edge} {gd:Option (Nat × Bool)} {v:Value} {fuel:Nat} {l:Array Bool} {a a':Act} {w:World} (h:wpAnyLast P md ops Q S ds fuel (l.setIfInBounds i true) a' w)
  (hT:Aside0 (rtab md ops=T):=by with_reducible assumption) (hW:Aside0 (waitsOk T.2 B=true):=by with_reducible assumption) (hS:S w:=by with_reducible assumption) (hc:takeW T B ds l.toList (l.setIfInBounds i true).toList i=true:=by kernel_rfl) (hi:ops[i]?=some ⟨N,op,ty,pos,af,gd⟩:=by exact rfl) (hQ:∀ c a w,Q (.panic c) (a.put N v) w→Q (.panic c) a w:=by exact fun _ _ _ h=>h)
  (hy:YieldsIf P ops S ⟨N,op,ty,pos,af,gd⟩ v a:=by
   (refine Or.inl ⟨by rfl,?_⟩);intro w' s0
   first
    | ((repeat (obtain ⟨s,s0⟩:=s0));first|exact ldRun|exact ldRS)
    | ((repeat (obtain ⟨s,s0⟩:=s0;(try have sc:=fun i_=>blk_cell s i_);(try have sf:=fun i_=>blk_frozen s i_);(try (have t0:=RS.hd s rfl;have tc:=RS.cs s;repeat (obtain ⟨_,tc⟩:=tc)))));(try have sc:=fun i_=>blk_cell s0 i_);(try have sf:=fun i_=>blk_frozen s0 i_);(try (have t0:=RS.hd s0 rfl;have tc:=RS.cs s0;repeat (obtain ⟨_,tc⟩:=tc)));go_simp;with_reducible rfl))
  (ha:a.put N v=a':=by simp only [Act.put,List.setIfInBounds_toArray,List.set_cons_zero,List.set_cons_succ,i64_w,i32_w];rfl):wpAnyLast P md ops Q S ds (fuel+1) l a w:=take_ _ hi rfl (take_ofW hT.out hW.out hc) hQ hy hS ha h
theorem qo (i:Nat) {T:Bool × List (List Nat × List Nat)} {N:Option Tmp} {op:Op} {ty:TypeId} {pos:String} {af:Array Edge} {gd:Option (Nat × Bool)} {fuel:Nat} {l:Array Bool} {a:Act} {w:World}
  (h:∀ K:Act→World→Prop,Shut (∀ a' w',S w'→(S w'→wpAnyLast P md ops Q S ds fuel (l.setIfInBounds i true) a' w')→K a' w')→if Region.wanted ⟨N,op,ty,pos,af,gd⟩ (yielded ops a.tmps)=true then Oper.wp P ⟨N,op,ty,pos,af,gd⟩ a w K Q else K (a.put N undef) w)
  (hT:Aside0 (rtab md ops=T):=by with_reducible assumption) (hc:(readyT T.2 l.toList == [i] && l.toList.set i true == (l.setIfInBounds i true).toList)=true:=by kernel_rfl) (hi:ops[i]?=some ⟨N,op,ty,pos,af,gd⟩:=by exact rfl) (hd:i ∉ ds:=by decide):wpAnyLast P md ops Q S ds (fuel+1) l a w:=one_ _ hi rfl (one_of hT.out hc) hd h
theorem qe {T:Bool × List (List Nat × List Nat)} {l:Array Bool} {a:Act} {w:World} {n:Nat} (h:Q .normal a w) (hT:Aside0 (rtab md ops=T):=by with_reducible assumption) (hr:(readyT T.2 l.toList == [])=true:=by kernel_rfl):wpAnyLast P md ops Q S ds n l a w:=done_ (done_of hT.out hr) h
end
theorem pRS {w W:World} {A:Addr} {cs:List Value} (h:RS w A cs) (p:Peel w W:=by repeat (first|(with_reducible first|exact Peel.refl|apply Peel.alloc|apply Peel.drewN|apply Peel.drew)|exact Peel.refl)):RS W A cs:=rS ⟨pB (Below.refl _ _) p⟩ h
theorem RS.sub {w:World} {A:Addr} {cs:List Value} (h:RS w A cs) (j n:Nat) (hj:0<j):RS w ⟨A.block,A.off+j,none⟩ ((cs.drop j).take n):=fun i u e=>by
 rw [List.getElem?_take] at e
 split at e
 ·rw [List.getElem?_drop] at e
  have q:=h (j+i) u e
  have e1:(⟨A.block,A.off+j,none⟩:Addr)=A.add j:=by unfold Addr.add;rw [if_neg (by omega)]
  rw [e1,Addr.add_add];exact q
 ·cases e
section
variable {P:Program} {ops:Array Oper} {Q:Exit→Act→World→Prop}
/-- A row's struct, read at once. -/
theorem ldW {rest:List Oper} {o:Oper} {a:Act} {W:World} {ty:TypeId} {p:Tmp} {A:Addr} {cs:List Value} {d:TypeDesc} (h:wpList P ops Q rest (a.put o.dst (.agg cs.toArray)) W)
  (ho:o.op=.load ty (.tmp p):=by with_reducible exact rfl) (hw:Region.wanted o (yielded ops a.tmps)=true:=by rfl) (hp:a.eval (.tmp p)=.pointer (some A):=by exact rfl)
  (hb:RS W A cs:=by first|(with_reducible assumption)|exact pRS (by with_reducible assumption)) (hu:P.underlying ty=some d:=by with_reducible assumption)
  (hd:isRow d=true:=by exact rfl) (hi:(P.info? ty).map (·.size)=some cs.length:=by kernel_rfl):wpList P ops Q (o :: rest) a W:=by
 refine wpList_step fun K hK=>?_
 rw [if_pos hw]
 unfold Oper.wp
 rw [ldRS ho hp hb hu hd hi]
 exact hK _ _ h
/-- A struct within a row's struct, read at once. -/
theorem ldX {rest:List Oper} {o:Oper} {a:Act} {W:World} {ty:TypeId} {p:Tmp} {A:Addr} {j n:Nat} {cs l:List Value} {d:TypeDesc} (h:wpList P ops Q rest (a.put o.dst (.agg l.toArray)) W)
  (ho:o.op=.load ty (.tmp p):=by with_reducible exact rfl) (hw:Region.wanted o (yielded ops a.tmps)=true:=by rfl) (hp:a.eval (.tmp p)=.pointer (some ⟨A.block,A.off+j,none⟩):=by exact rfl)
  (hb:RS W A cs:=by first|(with_reducible assumption)|exact pRS (by with_reducible assumption)) (hu:P.underlying ty=some d:=by with_reducible assumption)
  (hd:isRow d=true:=by exact rfl) (hj:Nat.blt 0 j=true:=by exact rfl) (hi:(P.info? ty).map (·.size)=some n:=by first|exact (rfl:_=some 10)|exact (rfl:_=some 12)|exact (rfl:_=some 26)|exact (rfl:_=some 2)|exact (rfl:_=some 4))
  (hl:(cs.drop j).take n=l:=by exact rfl) (hn:l.length=n:=by exact rfl):wpList P ops Q (o :: rest) a W:=by
 subst hl
 exact ldW h ho hw hp (RS.sub hb j n (by simpa using hj)) hu hd (by rw [hn];exact hi)
end
/-- A struct stored at once, within a region. -/
theorem stG {P:Program} {o:Oper} {a:Act} {W W':World} {t ty:TypeId} {p:Tmp} {x:Operand} {g off:Nat} {cur:Array Value} {l:List Value}
  (ho:o.op=.store ty (.tmp p) x:=by exact rfl) (hp:a.eval (.tmp p)=.pointer (some ⟨g,off,none⟩):=by exact rfl) (hx:a.eval x=.agg l.toArray:=by exact rfl)
  (hb:Aside0 (W.heap[g]?=some (.cells cur t (0,0))):=by first|(with_reducible assumption)|exact ⟨pP (by with_reducible assumption)⟩)
  (hs:Nat.ble (off+l.length) cur.size=true:=by kernel_rfl) (hi:(P.info? ty).map (·.size)=some l.length:=by kernel_rfl) (h1:(l.all fun v=>v.oneCell')=true:=by kernel_rfl)
  (e:stAll g l off W=W':=by simp only [stAll,Nat.reduceAdd];rfl):(execOp a.eval o).run P W=.ok .skip W':=by
 have hr:=run_stAllO (P:=P) g off t l 0 cur W hb.out (by have:=Nat.le_of_ble_eq_true hs;omega) (fun v hv=>List.all_eq_true.1 h1 v hv)
 rw [← e]
 unfold execOp
 cases hq:P.info? ty with
 | none=>rw [hq] at hi;cases hi
 | some i =>
  have hsz:i.size=l.length:=by rw [hq] at hi;simpa using hi
  simp [ho,Instr.storeAt,Instr.sureAddr,hp,hx,storeVar,Value.cells,sizeOf,typeInfo,hq,hsz,hr]
theorem off2 {w:World} {b o:Nat} {v:Option Value} (i j:Nat) (h:w.cell? ⟨b,o+(i+j),none⟩=v):w.cell? ⟨b,o+i+j,none⟩=v:=by rwa [Nat.add_assoc]
theorem drew_set (w:World) (n:Nat) (p:Addr) (v:Value):(w.drewN n).setCell p v=(w.setCell p v).drewN n:=rfl
end Go.Proofs.YtoieojmfkkidnaaX
