-- printed by pprint.py (this session's program over the kit's printer) out of the translation. Lean checks it.
import Derived.Test.YtoieojmfkkidnaaProg
import Derived.Below
import Derived.Deep.Draws
import Derived.Deep.AppendLies
import Derived.Maps.AppendAt
import Derived.OwnWalk
import Derived.Laws.BytesArg
import Derived.Laws.MakeOwn
import Derived.Laws.OwnMore
import Derived.Deep.OwnRows
import Derived.Tactics
import Derived.Lib.ConvBytes
import Derived.Laws.Slices
import Derived.WalkKit
import Derived.KernelRfl
import Derived.RowKit3
import Derived.Deep.LoopGhost
import Derived.Deep.QuietTactic
import Derived.BigQuiet
import Derived.WideLaws
import Derived.Deep.DeepCutAuto
import Derived.Deep.CutBlock
import Derived.Deep.RegionHeld3
import Derived.Laws.Rows
import Derived.Lib.AppendStr
import Derived.ArgAppend
import Derived.Laws.IdiomCopy
import Derived.OrdersHeld
import Derived.Laws.BitsLemmas
import Derived.RowKit
import Derived.Test.YtoieojmfkkidnaaXCopy
import Derived.Test.YtoieojmfkkidnaaXNil
import Derived.Test.YtoieojmfkkidnaaVWGuardInvWordsMore
namespace Go.Proofs.Ytoieojmfkkidnaa.P
open Go.RowKit Go.Proofs.YtoieojmfkkidnaaX Go.Proofs.YtoieojmfkkidnaaW.PrintWords Go.Proofs.YtoieojmfkkidnaaW.PrintLast Go.Proofs.YtoieojmfkkidnaaW.PrintMore
attribute [local go_sem] max2_int min2_int max_two min_two max_three min_three max_four min_four   -- for this text's walks alone
set_option linter.unusedVariables false
set_option linter.unusedSimpArgs false
def errW:Option Int→Value
 | none=>.nilIface
 | some c=>.iface 0 (.int .i64 c)
theorem errW_none:errW none=.nilIface:=rfl
theorem errW_some (c:Int):errW (some c)=.iface 0 (.int .i64 c):=rfl
theorem info3:(Try.prog.info? 3).map (fun i=>(i.zero,i.size,i.bytes))=some (some (.int .i64 0),1,8):=by kernel_rfl
theorem info64:(Try.prog.info? 64).map (fun i=>(i.zero,i.size,i.bytes))=some (some (.agg #[(.int .i64 0),(.int .i64 0),(.int .i64 0),(.int .i64 0),(.int .i64 0),(.int .i64 0),(.int .i64 0),(.int .i64 0),(.int .i64 0),(.int .i64 0),(.int .i64 0),(.int .i64 0)]),12,96):=by kernel_rfl
theorem info138:(Try.prog.info? 138).map (fun i=>(i.zero,i.size,i.bytes))=some (some (.agg #[(.int .i64 0),(.int .i64 0),(.int .i64 0),(.int .i64 0)]),4,32):=by kernel_rfl
theorem info140:(Try.prog.info? 140).map (fun i=>(i.zero,i.size,i.bytes))=some (some (.agg #[(.int .i64 0),(.int .i64 0)]),2,16):=by kernel_rfl
theorem y138:ZV 138 #[.int .i64 0,.int .i64 0,.int .i64 0,.int .i64 0]:=trivial
theorem y24:ZV 24 #[.int .i64 0,.int .i64 0,.int .i64 0,.int .i64 0,.int .i64 0,.int .i64 0,.int .i64 0,.int .i64 0,.int .i64 0,.int .i64 0]:=trivial
theorem y28:ZV 28 #[.int .i64 0,.int .i64 0,.int .i64 0,.int .i64 0,.int .i64 0,.int .i64 0,.int .i64 0,.int .i64 0,.int .i64 0,.int .i64 0,.int .i64 0,.int .i64 0,.int .i64 0,.int .i64 0,.int .i64 0,.int .i64 0,.int .i64 0,.int .i64 0,.int .i64 0,.int .i64 0,.int .i64 0,.int .i64 0,.int .i64 0,.int .i64 0,.slice none 0 0,.slice none 0 0]:=trivial
theorem y64:ZV 64 #[.int .i64 0,.int .i64 0,.int .i64 0,.int .i64 0,.int .i64 0,.int .i64 0,.int .i64 0,.int .i64 0,.int .i64 0,.int .i64 0,.int .i64 0,.int .i64 0]:=trivial
-- the values' own types
abbrev N_2:List Nat:=[1,2]
abbrev N_10:List Nat:=[1,2,3,4,5,6,7,8,9,10]
/-! #### struct type 146 -/
structure S146 where
 f0:Int
 f1:Int
 f2:Int
 f3:Int
def z146:S146:=⟨(0:Int),(0:Int),(0:Int),(0:Int)⟩
def k146:Kd S146:=Kd.iso (Kd.pair (Kd.int .i64) (Kd.pair (Kd.int .i64) (Kd.pair (Kd.int .i64) (Kd.int .i64)))) (fun x:S146=>(x.f0,x.f1,x.f2,x.f3))
theorem k146_open {w:World} {x:S146} {cs:List Value} (h:k146.K w x cs):cs=[.int .i64 x.f0,.int .i64 x.f1,.int .i64 x.f2,.int .i64 x.f3]:=by
 obtain ⟨_,_,rfl,rfl,⟨_,_,rfl,rfl,⟨_,_,rfl,rfl,rfl⟩⟩⟩:=h
 exact rfl
abbrev d146 (x:S146):List Value:=[.int .i64 x.f0,.int .i64 x.f1,.int .i64 x.f2,.int .i64 x.f3]
def rd_T146 (xs:List S146) (i:Int):S146:=xs.getD i.toNat z146
theorem at_T146 {w:World} {A:Option Addr} {n:Nat} {xs:List S146} (h:Kd.C k146 w A n xs) (i:Int) (h0:0≤i) (h1:i<n):∃ ad ,A=some ad∧w.cell? (ad.add (i.toNat * 4))=some (.int .i64 (rd_T146 xs i).f0)∧CS w (ad.add (i.toNat * 4)) N_2 (d146 (rd_T146 xs i)).tail (w.cell? ⟨(ad.add (i.toNat * 4)).block,(ad.add (i.toNat * 4)).off+3,none⟩=some (.int .i64 (rd_T146 xs i).f3)):=by
 obtain ⟨ad,c,e,_,hK,hc0⟩:=Kd.C_get h z146 i h0 h1
 have hc:∀ j u,c[j]?=some u→w.cell? (ad.add (i.toNat * 4+j))=some u:=hc0
 obtain rfl:=k146_open hK
 exact ⟨ad,e,hc 0 _ rfl,CS_mk hc rfl (by rw [← add_field _ _ 3 (by omega)];exact hc 3 _ rfl)⟩
/-! #### struct type 148 -/
structure S148 where
 f0:Int
 f1:Int
def z148:S148:=⟨(0:Int),(0:Int)⟩
def k148:Kd S148:=Kd.iso (Kd.pair (Kd.int .i64) (Kd.int .i64)) (fun x:S148=>(x.f0,x.f1))
theorem k148_open {w:World} {x:S148} {cs:List Value} (h:k148.K w x cs):cs=[.int .i64 x.f0,.int .i64 x.f1]:=by
 obtain ⟨_,_,rfl,rfl,rfl⟩:=h
 exact rfl
def rd_T148 (xs:List S148) (i:Int):S148:=xs.getD i.toNat z148
theorem at_T148 {w:World} {A:Option Addr} {n:Nat} {xs:List S148} (h:Kd.C k148 w A n xs) (i:Int) (h0:0≤i) (h1:i<n):∃ ad ,A=some ad∧w.cell? (ad.add (i.toNat * 2))=some (.int .i64 (rd_T148 xs i).f0)∧w.cell? ⟨(ad.add (i.toNat * 2)).block,(ad.add (i.toNat * 2)).off+1,none⟩=some (.int .i64 (rd_T148 xs i).f1):=by
 obtain ⟨ad,c,e,_,hK,hc0⟩:=Kd.C_get h z148 i h0 h1
 have hc:∀ j u,c[j]?=some u→w.cell? (ad.add (i.toNat * 2+j))=some u:=hc0
 obtain rfl:=k148_open hK
 exact ⟨ad,e,hc 0 _ rfl,by rw [← add_field _ _ 1 (by omega)];exact hc 1 _ rfl⟩
/-! #### struct type 138 -/
structure S138 where
 f0:Int
 f1:Int
 f2:Int
 f3:Int
def z138:S138:=⟨(0:Int),(0:Int),(0:Int),(0:Int)⟩
def k138:Kd S138:=Kd.iso (Kd.pair (Kd.int .i64) (Kd.pair (Kd.int .i64) (Kd.pair (Kd.int .i64) (Kd.int .i64)))) (fun x:S138=>(x.f0,x.f1,x.f2,x.f3))
theorem k138_open {w:World} {x:S138} {cs:List Value} (h:k138.K w x cs):cs=[.int .i64 x.f0,.int .i64 x.f1,.int .i64 x.f2,.int .i64 x.f3]:=by
 obtain ⟨_,_,rfl,rfl,⟨_,_,rfl,rfl,⟨_,_,rfl,rfl,rfl⟩⟩⟩:=h
 exact rfl
theorem k138_openM {w:World} {base:Nat} {ok:Nat→Prop} {x:S138} {cs:List Value} (h:k138.M w base ok x cs):cs=[.int .i64 x.f0,.int .i64 x.f1,.int .i64 x.f2,.int .i64 x.f3]:=by
 obtain ⟨_,_,rfl,rfl,⟨_,_,rfl,rfl,⟨_,_,rfl,rfl,rfl⟩⟩⟩:=h
 exact rfl
abbrev d138 (x:S138):List Value:=[.int .i64 x.f0,.int .i64 x.f1,.int .i64 x.f2,.int .i64 x.f3]
theorem k138_mkM (w:World) (base:Nat) (ok:Nat→Prop) (x:S138) :k138.M w base ok x (d138 x):=⟨[_],_,rfl,rfl,⟨[_],_,rfl,rfl,⟨[_],_,rfl,rfl,rfl⟩⟩⟩
def rd_T138 (xs:List S138) (i:Int):S138:=xs.getD i.toNat z138
theorem at_T138 {w:World} {A:Option Addr} {n:Nat} {xs:List S138} (h:Kd.C k138 w A n xs) (i:Int) (h0:0≤i) (h1:i<n):∃ ad ,A=some ad∧w.cell? (ad.add (i.toNat * 4))=some (.int .i64 (rd_T138 xs i).f0)∧CS w (ad.add (i.toNat * 4)) N_2 (d138 (rd_T138 xs i)).tail (w.cell? ⟨(ad.add (i.toNat * 4)).block,(ad.add (i.toNat * 4)).off+3,none⟩=some (.int .i64 (rd_T138 xs i).f3)):=by
 obtain ⟨ad,c,e,_,hK,hc0⟩:=Kd.C_get h z138 i h0 h1
 have hc:∀ j u,c[j]?=some u→w.cell? (ad.add (i.toNat * 4+j))=some u:=hc0
 obtain rfl:=k138_open hK
 exact ⟨ad,e,hc 0 _ rfl,CS_mk hc rfl (by rw [← add_field _ _ 3 (by omega)];exact hc 3 _ rfl)⟩
theorem at_R138 {w:World} {A:Option Addr} {n:Nat} {xs:List S138} (h:Kd.C k138 w A n xs) (i:Int) (h0:0≤i) (h1:i<n):∃ ad ,A=some ad∧RS w (ad.add (i.toNat * 4)) (d138 (rd_T138 xs i)):=by
 obtain ⟨ad,c,e,_,hK,hc0⟩:=Kd.C_get h z138 i h0 h1
 have hc:∀ j u,c[j]?=some u→w.cell? (ad.add (i.toNat * 4+j))=some u:=hc0
 obtain rfl:=k138_open hK
 exact ⟨ad,e,rI hc⟩
/-! #### struct type 140 -/
structure S140 where
 f0:Int
 f1:Int
def z140:S140:=⟨(0:Int),(0:Int)⟩
def k140:Kd S140:=Kd.iso (Kd.pair (Kd.int .i64) (Kd.int .i64)) (fun x:S140=>(x.f0,x.f1))
theorem k140_open {w:World} {x:S140} {cs:List Value} (h:k140.K w x cs):cs=[.int .i64 x.f0,.int .i64 x.f1]:=by
 obtain ⟨_,_,rfl,rfl,rfl⟩:=h
 exact rfl
theorem k140_openM {w:World} {base:Nat} {ok:Nat→Prop} {x:S140} {cs:List Value} (h:k140.M w base ok x cs):cs=[.int .i64 x.f0,.int .i64 x.f1]:=by
 obtain ⟨_,_,rfl,rfl,rfl⟩:=h
 exact rfl
abbrev d140 (x:S140):List Value:=[.int .i64 x.f0,.int .i64 x.f1]
theorem k140_mkM (w:World) (base:Nat) (ok:Nat→Prop) (x:S140) :k140.M w base ok x (d140 x):=⟨[_],_,rfl,rfl,rfl⟩
def rd_T140 (xs:List S140) (i:Int):S140:=xs.getD i.toNat z140
theorem at_T140 {w:World} {A:Option Addr} {n:Nat} {xs:List S140} (h:Kd.C k140 w A n xs) (i:Int) (h0:0≤i) (h1:i<n):∃ ad ,A=some ad∧w.cell? (ad.add (i.toNat * 2))=some (.int .i64 (rd_T140 xs i).f0)∧w.cell? ⟨(ad.add (i.toNat * 2)).block,(ad.add (i.toNat * 2)).off+1,none⟩=some (.int .i64 (rd_T140 xs i).f1):=by
 obtain ⟨ad,c,e,_,hK,hc0⟩:=Kd.C_get h z140 i h0 h1
 have hc:∀ j u,c[j]?=some u→w.cell? (ad.add (i.toNat * 2+j))=some u:=hc0
 obtain rfl:=k140_open hK
 exact ⟨ad,e,hc 0 _ rfl,by rw [← add_field _ _ 1 (by omega)];exact hc 1 _ rfl⟩
theorem at_R140 {w:World} {A:Option Addr} {n:Nat} {xs:List S140} (h:Kd.C k140 w A n xs) (i:Int) (h0:0≤i) (h1:i<n):∃ ad ,A=some ad∧RS w (ad.add (i.toNat * 2)) (d140 (rd_T140 xs i)):=by
 obtain ⟨ad,c,e,_,hK,hc0⟩:=Kd.C_get h z140 i h0 h1
 have hc:∀ j u,c[j]?=some u→w.cell? (ad.add (i.toNat * 2+j))=some u:=hc0
 obtain rfl:=k140_open hK
 exact ⟨ad,e,rI hc⟩
/-! #### struct type 32 -/
structure S32 where
 f0:Int
 f1:Int
 f2:Int
 f3:Int
 f4:Int
 f5:Int
 f6:Int
 f7:Int
 f8:Int
 f9:Int
def z32:S32:=⟨(0:Int),(0:Int),(0:Int),(0:Int),(0:Int),(0:Int),(0:Int),(0:Int),(0:Int),(0:Int)⟩
def k32:Kd S32:=Kd.iso (Kd.pair (Kd.int .i64) (Kd.pair (Kd.int .i64) (Kd.pair (Kd.int .i64) (Kd.pair (Kd.int .i64) (Kd.pair (Kd.int .i64) (Kd.pair (Kd.int .i64) (Kd.pair (Kd.int .i64) (Kd.pair (Kd.int .i64) (Kd.pair (Kd.int .i64) (Kd.int .i64)))))))))) (fun x:S32=>(x.f0,x.f1,x.f2,x.f3,x.f4,x.f5,x.f6,x.f7,x.f8,x.f9))
theorem k32_open {w:World} {x:S32} {cs:List Value} (h:k32.K w x cs):cs=[.int .i64 x.f0,.int .i64 x.f1,.int .i64 x.f2,.int .i64 x.f3,.int .i64 x.f4,.int .i64 x.f5,.int .i64 x.f6,.int .i64 x.f7,.int .i64 x.f8,.int .i64 x.f9]:=by
 obtain ⟨_,_,rfl,rfl,⟨_,_,rfl,rfl,⟨_,_,rfl,rfl,⟨_,_,rfl,rfl,⟨_,_,rfl,rfl,⟨_,_,rfl,rfl,⟨_,_,rfl,rfl,⟨_,_,rfl,rfl,⟨_,_,rfl,rfl,rfl⟩⟩⟩⟩⟩⟩⟩⟩⟩:=h
 exact rfl
/-! #### struct type 57 -/
structure S57 where
 f0:Int
 f1:Int
 f2:S32
def z57:S57:=⟨(0:Int),(0:Int),z32⟩
def k57:Kd S57:=Kd.iso (Kd.pair (Kd.int .i64) (Kd.pair (Kd.int .i64) k32)) (fun x:S57=>(x.f0,x.f1,x.f2))
theorem k57_open {w:World} {x:S57} {cs:List Value} (h:k57.K w x cs):cs=[.int .i64 x.f0,.int .i64 x.f1,.int .i64 x.f2.f0,.int .i64 x.f2.f1,.int .i64 x.f2.f2,.int .i64 x.f2.f3,.int .i64 x.f2.f4,.int .i64 x.f2.f5,.int .i64 x.f2.f6,.int .i64 x.f2.f7,.int .i64 x.f2.f8,.int .i64 x.f2.f9]:=by
 obtain ⟨_,_,rfl,rfl,⟨_,_,rfl,rfl,s2⟩⟩:=h
 obtain rfl:=k32_open s2
 exact rfl
abbrev d57 (x:S57):List Value:=[.int .i64 x.f0,.int .i64 x.f1,.int .i64 x.f2.f0,.int .i64 x.f2.f1,.int .i64 x.f2.f2,.int .i64 x.f2.f3,.int .i64 x.f2.f4,.int .i64 x.f2.f5,.int .i64 x.f2.f6,.int .i64 x.f2.f7,.int .i64 x.f2.f8,.int .i64 x.f2.f9]
def rd_T57 (xs:List S57) (i:Int):S57:=xs.getD i.toNat z57
theorem at_R57 {w:World} {A:Option Addr} {n:Nat} {xs:List S57} (h:Kd.C k57 w A n xs) (i:Int) (h0:0≤i) (h1:i<n):∃ ad ,A=some ad∧RS w (ad.add (i.toNat * 12)) (d57 (rd_T57 xs i)):=by
 obtain ⟨ad,c,e,_,hK,hc0⟩:=Kd.C_get h z57 i h0 h1
 have hc:∀ j u,c[j]?=some u→w.cell? (ad.add (i.toNat * 12+j))=some u:=hc0
 obtain rfl:=k57_open hK
 exact ⟨ad,e,rI hc⟩
/-! #### struct type 24 -/
structure S24 where
 f0:Int
 f1:Int
 f2:Int
 f3:Int
 f4:Int
 f5:Int
 f6:Int
 f7:Int
 f8:Int
 f9:Int
def z24:S24:=⟨(0:Int),(0:Int),(0:Int),(0:Int),(0:Int),(0:Int),(0:Int),(0:Int),(0:Int),(0:Int)⟩
def k24:Kd S24:=Kd.iso (Kd.pair (Kd.int .i64) (Kd.pair (Kd.int .i64) (Kd.pair (Kd.int .i64) (Kd.pair (Kd.int .i64) (Kd.pair (Kd.int .i64) (Kd.pair (Kd.int .i64) (Kd.pair (Kd.int .i64) (Kd.pair (Kd.int .i64) (Kd.pair (Kd.int .i64) (Kd.int .i64)))))))))) (fun x:S24=>(x.f0,x.f1,x.f2,x.f3,x.f4,x.f5,x.f6,x.f7,x.f8,x.f9))
theorem k24_open {w:World} {x:S24} {cs:List Value} (h:k24.K w x cs):cs=[.int .i64 x.f0,.int .i64 x.f1,.int .i64 x.f2,.int .i64 x.f3,.int .i64 x.f4,.int .i64 x.f5,.int .i64 x.f6,.int .i64 x.f7,.int .i64 x.f8,.int .i64 x.f9]:=by
 obtain ⟨_,_,rfl,rfl,⟨_,_,rfl,rfl,⟨_,_,rfl,rfl,⟨_,_,rfl,rfl,⟨_,_,rfl,rfl,⟨_,_,rfl,rfl,⟨_,_,rfl,rfl,⟨_,_,rfl,rfl,⟨_,_,rfl,rfl,rfl⟩⟩⟩⟩⟩⟩⟩⟩⟩:=h
 exact rfl
theorem k24_openM {w:World} {base:Nat} {ok:Nat→Prop} {x:S24} {cs:List Value} (h:k24.M w base ok x cs):cs=[.int .i64 x.f0,.int .i64 x.f1,.int .i64 x.f2,.int .i64 x.f3,.int .i64 x.f4,.int .i64 x.f5,.int .i64 x.f6,.int .i64 x.f7,.int .i64 x.f8,.int .i64 x.f9]:=by
 obtain ⟨_,_,rfl,rfl,⟨_,_,rfl,rfl,⟨_,_,rfl,rfl,⟨_,_,rfl,rfl,⟨_,_,rfl,rfl,⟨_,_,rfl,rfl,⟨_,_,rfl,rfl,⟨_,_,rfl,rfl,⟨_,_,rfl,rfl,rfl⟩⟩⟩⟩⟩⟩⟩⟩⟩:=h
 exact rfl
abbrev d24 (x:S24):List Value:=[.int .i64 x.f0,.int .i64 x.f1,.int .i64 x.f2,.int .i64 x.f3,.int .i64 x.f4,.int .i64 x.f5,.int .i64 x.f6,.int .i64 x.f7,.int .i64 x.f8,.int .i64 x.f9]
theorem k24_mkM (w:World) (base:Nat) (ok:Nat→Prop) (x:S24) :k24.M w base ok x (d24 x):=⟨[_],_,rfl,rfl,⟨[_],_,rfl,rfl,⟨[_],_,rfl,rfl,⟨[_],_,rfl,rfl,⟨[_],_,rfl,rfl,⟨[_],_,rfl,rfl,⟨[_],_,rfl,rfl,⟨[_],_,rfl,rfl,⟨[_],_,rfl,rfl,rfl⟩⟩⟩⟩⟩⟩⟩⟩⟩
/-! #### struct type 64 -/
structure S64 where
 f0:Int
 f1:Int
 f2:S24
def z64:S64:=⟨(0:Int),(0:Int),z24⟩
def k64:Kd S64:=Kd.iso (Kd.pair (Kd.int .i64) (Kd.pair (Kd.int .i64) k24)) (fun x:S64=>(x.f0,x.f1,x.f2))
theorem k64_open {w:World} {x:S64} {cs:List Value} (h:k64.K w x cs):cs=[.int .i64 x.f0,.int .i64 x.f1,.int .i64 x.f2.f0,.int .i64 x.f2.f1,.int .i64 x.f2.f2,.int .i64 x.f2.f3,.int .i64 x.f2.f4,.int .i64 x.f2.f5,.int .i64 x.f2.f6,.int .i64 x.f2.f7,.int .i64 x.f2.f8,.int .i64 x.f2.f9]:=by
 obtain ⟨_,_,rfl,rfl,⟨_,_,rfl,rfl,s2⟩⟩:=h
 obtain rfl:=k24_open s2
 exact rfl
theorem k64_openM {w:World} {base:Nat} {ok:Nat→Prop} {x:S64} {cs:List Value} (h:k64.M w base ok x cs):cs=[.int .i64 x.f0,.int .i64 x.f1,.int .i64 x.f2.f0,.int .i64 x.f2.f1,.int .i64 x.f2.f2,.int .i64 x.f2.f3,.int .i64 x.f2.f4,.int .i64 x.f2.f5,.int .i64 x.f2.f6,.int .i64 x.f2.f7,.int .i64 x.f2.f8,.int .i64 x.f2.f9]:=by
 obtain ⟨_,_,rfl,rfl,⟨_,_,rfl,rfl,s2⟩⟩:=h
 obtain rfl:=k24_openM s2
 exact rfl
abbrev d64 (x:S64):List Value:=[.int .i64 x.f0,.int .i64 x.f1,.int .i64 x.f2.f0,.int .i64 x.f2.f1,.int .i64 x.f2.f2,.int .i64 x.f2.f3,.int .i64 x.f2.f4,.int .i64 x.f2.f5,.int .i64 x.f2.f6,.int .i64 x.f2.f7,.int .i64 x.f2.f8,.int .i64 x.f2.f9]
theorem k64_mkM (w:World) (base:Nat) (ok:Nat→Prop) (x:S64) :k64.M w base ok x (d64 x):=⟨[_],_,rfl,rfl,⟨[_],_,rfl,rfl,(k24_mkM w base ok x.f2 )⟩⟩
def rd_T64 (xs:List S64) (i:Int):S64:=xs.getD i.toNat z64
theorem at_T64 {w:World} {A:Option Addr} {n:Nat} {xs:List S64} (h:Kd.C k64 w A n xs) (i:Int) (h0:0≤i) (h1:i<n):∃ ad ,A=some ad∧w.cell? (ad.add (i.toNat * 12))=some (.int .i64 (rd_T64 xs i).f0)∧CS w (ad.add (i.toNat * 12)) N_10 (d64 (rd_T64 xs i)).tail (w.cell? ⟨(ad.add (i.toNat * 12)).block,(ad.add (i.toNat * 12)).off+11,none⟩=some (.int .i64 (rd_T64 xs i).f2.f9)):=by
 obtain ⟨ad,c,e,_,hK,hc0⟩:=Kd.C_get h z64 i h0 h1
 have hc:∀ j u,c[j]?=some u→w.cell? (ad.add (i.toNat * 12+j))=some u:=hc0
 obtain rfl:=k64_open hK
 exact ⟨ad,e,hc 0 _ rfl,CS_mk hc rfl (by rw [← add_field _ _ 11 (by omega)];exact hc 11 _ rfl)⟩
theorem at_R64 {w:World} {A:Option Addr} {n:Nat} {xs:List S64} (h:Kd.C k64 w A n xs) (i:Int) (h0:0≤i) (h1:i<n):∃ ad ,A=some ad∧RS w (ad.add (i.toNat * 12)) (d64 (rd_T64 xs i)):=by
 obtain ⟨ad,c,e,_,hK,hc0⟩:=Kd.C_get h z64 i h0 h1
 have hc:∀ j u,c[j]?=some u→w.cell? (ad.add (i.toNat * 12+j))=some u:=hc0
 obtain rfl:=k64_open hK
 exact ⟨ad,e,rI hc⟩
/-! #### struct type 155 -/
structure S155 where
 f0:Int
 f1:Int
def z155:S155:=⟨(0:Int),(0:Int)⟩
def k155:Kd S155:=Kd.iso (Kd.pair (Kd.int .i64) (Kd.int .i64)) (fun x:S155=>(x.f0,x.f1))
theorem k155_open {w:World} {x:S155} {cs:List Value} (h:k155.K w x cs):cs=[.int .i64 x.f0,.int .i64 x.f1]:=by
 obtain ⟨_,_,rfl,rfl,rfl⟩:=h
 exact rfl
abbrev d155 (x:S155):List Value:=[.int .i64 x.f0,.int .i64 x.f1]
theorem k155_mkM (w:World) (base:Nat) (ok:Nat→Prop) (x:S155) :k155.M w base ok x (d155 x):=⟨[_],_,rfl,rfl,rfl⟩
def rd_T155 (xs:List S155) (i:Int):S155:=xs.getD i.toNat z155
theorem at_T155 {w:World} {A:Option Addr} {n:Nat} {xs:List S155} (h:Kd.C k155 w A n xs) (i:Int) (h0:0≤i) (h1:i<n):∃ ad ,A=some ad∧w.cell? (ad.add (i.toNat * 2))=some (.int .i64 (rd_T155 xs i).f0)∧w.cell? ⟨(ad.add (i.toNat * 2)).block,(ad.add (i.toNat * 2)).off+1,none⟩=some (.int .i64 (rd_T155 xs i).f1):=by
 obtain ⟨ad,c,e,_,hK,hc0⟩:=Kd.C_get h z155 i h0 h1
 have hc:∀ j u,c[j]?=some u→w.cell? (ad.add (i.toNat * 2+j))=some u:=hc0
 obtain rfl:=k155_open hK
 exact ⟨ad,e,hc 0 _ rfl,by rw [← add_field _ _ 1 (by omega)];exact hc 1 _ rfl⟩
/-! #### struct type 47 -/
structure S47 where
 f0:Int
 f1:(List S57)
def k47:Kd S47:=Kd.iso (Kd.pair (Kd.int .i64) (Kd.slice 57 k57)) (fun x:S47=>(x.f0,x.f1))
theorem k47_open {w:World} {x:S47} {cs:List Value} (h:k47.K w x cs):∃ A1 c1,cs=[.int .i64 x.f0,.slice A1 x.f1.length c1]∧x.f1.length≤c1∧k57.C w A1 x.f1.length x.f1:=by
 obtain ⟨_,_,rfl,rfl,⟨A1,c1,rfl,l1,g1⟩⟩:=h
 exact ⟨A1,c1,rfl,l1,g1⟩
/-! #### struct type 36 -/
structure S36 where
 f0:Int
 f1:Int
 f2:Int
 f3:Int
 f4:Int
 f5:Int
 f6:S32
 f7:Int
 f8:Int
 f9:Int
 f10:Int
 f11:Int
 f12:Int
 f13:Int
 f14:Int
 f15:(List S146)
 f16:(List S148)
def k36:Kd S36:=Kd.iso (Kd.pair (Kd.int .i64) (Kd.pair (Kd.int .i64) (Kd.pair (Kd.int .i64) (Kd.pair (Kd.int .i64) (Kd.pair (Kd.int .i64) (Kd.pair (Kd.int .i64) (Kd.pair k32 (Kd.pair (Kd.int .i64) (Kd.pair (Kd.int .i64) (Kd.pair (Kd.int .i64) (Kd.pair (Kd.int .i64) (Kd.pair (Kd.int .i64) (Kd.pair (Kd.int .i64) (Kd.pair (Kd.int .i64) (Kd.pair (Kd.int .i64) (Kd.pair (Kd.slice 146 k146) (Kd.slice 148 k148))))))))))))))))) (fun x:S36=>(x.f0,x.f1,x.f2,x.f3,x.f4,x.f5,x.f6,x.f7,x.f8,x.f9,x.f10,x.f11,x.f12,x.f13,x.f14,x.f15,x.f16))
theorem k36_open {w:World} {x:S36} {cs:List Value} (h:k36.K w x cs):∃ A24 c24 A25 c25,cs=[.int .i64 x.f0,.int .i64 x.f1,.int .i64 x.f2,.int .i64 x.f3,.int .i64 x.f4,.int .i64 x.f5,.int .i64 x.f6.f0,.int .i64 x.f6.f1,.int .i64 x.f6.f2,.int .i64 x.f6.f3,.int .i64 x.f6.f4,.int .i64 x.f6.f5,.int .i64 x.f6.f6,.int .i64 x.f6.f7,.int .i64 x.f6.f8,.int .i64 x.f6.f9,.int .i64 x.f7,.int .i64 x.f8,.int .i64 x.f9,.int .i64 x.f10,.int .i64 x.f11,.int .i64 x.f12,.int .i64 x.f13,.int .i64 x.f14,.slice A24 x.f15.length c24,.slice A25 x.f16.length c25]∧x.f15.length≤c24∧k146.C w A24 x.f15.length x.f15∧x.f16.length≤c25∧k148.C w A25 x.f16.length x.f16:=by
 obtain ⟨_,_,rfl,rfl,⟨_,_,rfl,rfl,⟨_,_,rfl,rfl,⟨_,_,rfl,rfl,⟨_,_,rfl,rfl,⟨_,_,rfl,rfl,⟨_,_,rfl,s6,⟨_,_,rfl,rfl,⟨_,_,rfl,rfl,⟨_,_,rfl,rfl,⟨_,_,rfl,rfl,⟨_,_,rfl,rfl,⟨_,_,rfl,rfl,⟨_,_,rfl,rfl,⟨_,_,rfl,rfl,⟨_,_,rfl,⟨A24,c24,rfl,l24,g24⟩,⟨A25,c25,rfl,l25,g25⟩⟩⟩⟩⟩⟩⟩⟩⟩⟩⟩⟩⟩⟩⟩⟩⟩:=h
 obtain rfl:=k32_open s6
 exact ⟨A24,c24,A25,c25,rfl,l24,g24,l25,g25⟩
def put64 (x:S64) (j:Nat) (u:Int):S64:=match j with
 | 0=>(⟨u,x.f1,(⟨x.f2.f0,x.f2.f1,x.f2.f2,x.f2.f3,x.f2.f4,x.f2.f5,x.f2.f6,x.f2.f7,x.f2.f8,x.f2.f9⟩:S24)⟩:S64)
 | 1=>(⟨x.f0,u,(⟨x.f2.f0,x.f2.f1,x.f2.f2,x.f2.f3,x.f2.f4,x.f2.f5,x.f2.f6,x.f2.f7,x.f2.f8,x.f2.f9⟩:S24)⟩:S64)
 | 2=>(⟨x.f0,x.f1,(⟨u,x.f2.f1,x.f2.f2,x.f2.f3,x.f2.f4,x.f2.f5,x.f2.f6,x.f2.f7,x.f2.f8,x.f2.f9⟩:S24)⟩:S64)
 | 3=>(⟨x.f0,x.f1,(⟨x.f2.f0,u,x.f2.f2,x.f2.f3,x.f2.f4,x.f2.f5,x.f2.f6,x.f2.f7,x.f2.f8,x.f2.f9⟩:S24)⟩:S64)
 | 4=>(⟨x.f0,x.f1,(⟨x.f2.f0,x.f2.f1,u,x.f2.f3,x.f2.f4,x.f2.f5,x.f2.f6,x.f2.f7,x.f2.f8,x.f2.f9⟩:S24)⟩:S64)
 | 5=>(⟨x.f0,x.f1,(⟨x.f2.f0,x.f2.f1,x.f2.f2,u,x.f2.f4,x.f2.f5,x.f2.f6,x.f2.f7,x.f2.f8,x.f2.f9⟩:S24)⟩:S64)
 | 6=>(⟨x.f0,x.f1,(⟨x.f2.f0,x.f2.f1,x.f2.f2,x.f2.f3,u,x.f2.f5,x.f2.f6,x.f2.f7,x.f2.f8,x.f2.f9⟩:S24)⟩:S64)
 | 7=>(⟨x.f0,x.f1,(⟨x.f2.f0,x.f2.f1,x.f2.f2,x.f2.f3,x.f2.f4,u,x.f2.f6,x.f2.f7,x.f2.f8,x.f2.f9⟩:S24)⟩:S64)
 | 8=>(⟨x.f0,x.f1,(⟨x.f2.f0,x.f2.f1,x.f2.f2,x.f2.f3,x.f2.f4,x.f2.f5,u,x.f2.f7,x.f2.f8,x.f2.f9⟩:S24)⟩:S64)
 | 9=>(⟨x.f0,x.f1,(⟨x.f2.f0,x.f2.f1,x.f2.f2,x.f2.f3,x.f2.f4,x.f2.f5,x.f2.f6,u,x.f2.f8,x.f2.f9⟩:S24)⟩:S64)
 | 10=>(⟨x.f0,x.f1,(⟨x.f2.f0,x.f2.f1,x.f2.f2,x.f2.f3,x.f2.f4,x.f2.f5,x.f2.f6,x.f2.f7,u,x.f2.f9⟩:S24)⟩:S64)
 | 11=>(⟨x.f0,x.f1,(⟨x.f2.f0,x.f2.f1,x.f2.f2,x.f2.f3,x.f2.f4,x.f2.f5,x.f2.f6,x.f2.f7,x.f2.f8,u⟩:S24)⟩:S64)
 | _=>x
set_option maxRecDepth 100000 in
set_option maxHeartbeats 4000000 in
theorem put64_M {W:World} {base:Nat} {okp:Nat→Prop} {y:S64} {c:List Value} {j:Nat} {u:Int} (hj:j<12) (h:k64.M W base okp y c):k64.M W base okp (put64 y j u) (c.take j ++ [.int .i64 u] ++ c.drop (j+1)):=by
 obtain rfl:=k64_openM h
 match j,hj with
 | 0,_=>exact k64_mkM _ _ _ (put64 y 0 u)
 | 1,_=>exact k64_mkM _ _ _ (put64 y 1 u)
 | 2,_=>exact k64_mkM _ _ _ (put64 y 2 u)
 | 3,_=>exact k64_mkM _ _ _ (put64 y 3 u)
 | 4,_=>exact k64_mkM _ _ _ (put64 y 4 u)
 | 5,_=>exact k64_mkM _ _ _ (put64 y 5 u)
 | 6,_=>exact k64_mkM _ _ _ (put64 y 6 u)
 | 7,_=>exact k64_mkM _ _ _ (put64 y 7 u)
 | 8,_=>exact k64_mkM _ _ _ (put64 y 8 u)
 | 9,_=>exact k64_mkM _ _ _ (put64 y 9 u)
 | 10,_=>exact k64_mkM _ _ _ (put64 y 10 u)
 | 11,_=>exact k64_mkM _ _ _ (put64 y 11 u)
 | j_+12,h_=>exact absurd h_ (by omega)
def put138 (x:S138) (j:Nat) (u:Int):S138:=match j with
 | 0=>(⟨u,x.f1,x.f2,x.f3⟩:S138)
 | 1=>(⟨x.f0,u,x.f2,x.f3⟩:S138)
 | 2=>(⟨x.f0,x.f1,u,x.f3⟩:S138)
 | 3=>(⟨x.f0,x.f1,x.f2,u⟩:S138)
 | _=>x
set_option maxRecDepth 100000 in
set_option maxHeartbeats 4000000 in
theorem put138_M {W:World} {base:Nat} {okp:Nat→Prop} {y:S138} {c:List Value} {j:Nat} {u:Int} (hj:j<4) (h:k138.M W base okp y c):k138.M W base okp (put138 y j u) (c.take j ++ [.int .i64 u] ++ c.drop (j+1)):=by
 obtain rfl:=k138_openM h
 match j,hj with
 | 0,_=>exact k138_mkM _ _ _ (put138 y 0 u)
 | 1,_=>exact k138_mkM _ _ _ (put138 y 1 u)
 | 2,_=>exact k138_mkM _ _ _ (put138 y 2 u)
 | 3,_=>exact k138_mkM _ _ _ (put138 y 3 u)
 | j_+4,h_=>exact absurd h_ (by omega)
theorem flat24:Flat k24:=flat_iso _ (flat_pair (flat_int _) (flat_pair (flat_int _) (flat_pair (flat_int _) (flat_pair (flat_int _) (flat_pair (flat_int _) (flat_pair (flat_int _) (flat_pair (flat_int _) (flat_pair (flat_int _) (flat_pair (flat_int _) (flat_int _))))))))))
theorem flat64:Flat k64:=flat_iso _ (flat_pair (flat_int _) (flat_pair (flat_int _) flat24))
def wf32 (x:S32):Prop:=(Lit.int .i64 x.f0).wf=true∧(Lit.int .i64 x.f1).wf=true∧(Lit.int .i64 x.f2).wf=true∧(Lit.int .i64 x.f3).wf=true∧(Lit.int .i64 x.f4).wf=true∧(Lit.int .i64 x.f5).wf=true∧(Lit.int .i64 x.f6).wf=true∧(Lit.int .i64 x.f7).wf=true∧(Lit.int .i64 x.f8).wf=true∧(Lit.int .i64 x.f9).wf=true
def wf57 (x:S57):Prop:=(Lit.int .i64 x.f0).wf=true∧(Lit.int .i64 x.f1).wf=true∧wf32 x.f2
def wf47 (x:S47):Prop:=(Lit.int .i64 x.f0).wf=true∧(x.f1.length≤maxLen∧∀ z_ ∈ x.f1,wf57 z_)
def wf146 (x:S146):Prop:=(Lit.int .i64 x.f0).wf=true∧(Lit.int .i64 x.f1).wf=true∧(Lit.int .i64 x.f2).wf=true∧(Lit.int .i64 x.f3).wf=true
def wf148 (x:S148):Prop:=(Lit.int .i64 x.f0).wf=true∧(Lit.int .i64 x.f1).wf=true
def wf36 (x:S36):Prop:=(Lit.int .i64 x.f0).wf=true∧(Lit.int .i64 x.f1).wf=true∧(Lit.int .i64 x.f2).wf=true∧(Lit.int .i64 x.f3).wf=true∧(Lit.int .i64 x.f4).wf=true∧(Lit.int .i64 x.f5).wf=true∧wf32 x.f6∧(Lit.int .i64 x.f7).wf=true∧(Lit.int .i64 x.f8).wf=true∧(Lit.int .i64 x.f9).wf=true∧(Lit.int .i64 x.f10).wf=true∧(Lit.int .i64 x.f11).wf=true∧(Lit.int .i64 x.f12).wf=true∧(Lit.int .i64 x.f13).wf=true∧(Lit.int .i64 x.f14).wf=true∧(x.f15.length≤maxLen∧∀ z_ ∈ x.f15,wf146 z_)∧(x.f16.length≤maxLen∧∀ z_ ∈ x.f16,wf148 z_)
end Go.Proofs.Ytoieojmfkkidnaa.P
