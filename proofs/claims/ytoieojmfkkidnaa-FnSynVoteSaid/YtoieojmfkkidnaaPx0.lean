-- printed by pprint.py (this session's program over the kit's printer) out of the translation. Lean checks it.
import Derived.Test.YtoieojmfkkidnaaProg
import Derived.Below
import Derived.Deep.Draws
import Derived.Deep.AppendLies
import Derived.Maps.AppendAt
import Derived.OwnWalk
import Derived.Laws.BytesArg
import Derived.Laws.MakeOwn
import Derived.Laws.OwnMore
import Derived.Deep.OwnRows
import Derived.Tactics
import Derived.Lib.ConvBytes
import Derived.Laws.Slices
import Derived.WalkKit
import Derived.KernelRfl
import Derived.RowKit3
import Derived.Deep.LoopGhost
import Derived.Deep.QuietTactic
import Derived.BigQuiet
import Derived.WideLaws
import Derived.Deep.DeepCutAuto
import Derived.Deep.CutBlock
import Derived.Deep.RegionHeld3
import Derived.Laws.Rows
import Derived.Lib.AppendStr
import Derived.ArgAppend
import Derived.Laws.IdiomCopy
import Derived.OrdersHeld
import Derived.Laws.BitsLemmas
import Derived.RowKit
import Derived.Test.YtoieojmfkkidnaaXCopy
import Derived.Test.YtoieojmfkkidnaaVWGuardInvWordsMore
namespace Go.Proofs.Ytoieojmfkkidnaa.P
open Go.RowKit Go.Proofs.YtoieojmfkkidnaaX Go.Proofs.YtoieojmfkkidnaaW.PrintWords Go.Proofs.YtoieojmfkkidnaaW.PrintLast Go.Proofs.YtoieojmfkkidnaaW.PrintMore
attribute [local go_sem] max2_int min2_int max_two min_two max_three min_three max_four min_four   -- for this text's walks alone
set_option linter.unusedVariables false
set_option linter.unusedSimpArgs false
def errW:Option Int→Value
 | none=>.nilIface
 | some c=>.iface 0 (.int .i64 c)
theorem errW_none:errW none=.nilIface:=rfl
theorem errW_some (c:Int):errW (some c)=.iface 0 (.int .i64 c):=rfl
theorem info3:(Try.prog.info? 3).map (fun i=>(i.zero,i.size,i.bytes))=some (some (.int .i64 0),1,8):=by kernel_rfl
theorem info5:(Try.prog.info? 5).map (fun i=>(i.zero,i.size,i.bytes))=some (some (.int .u8 0),1,1):=by kernel_rfl
theorem info64:(Try.prog.info? 64).map (fun i=>(i.zero,i.size,i.bytes))=some (some (.agg #[(.int .i64 0),(.int .i64 0),(.int .i64 0),(.int .i64 0),(.int .i64 0),(.int .i64 0),(.int .i64 0),(.int .i64 0),(.int .i64 0),(.int .i64 0),(.int .i64 0),(.int .i64 0)]),12,96):=by kernel_rfl
theorem info138:(Try.prog.info? 138).map (fun i=>(i.zero,i.size,i.bytes))=some (some (.agg #[(.int .i64 0),(.int .i64 0),(.int .i64 0),(.int .i64 0)]),4,32):=by kernel_rfl
theorem info140:(Try.prog.info? 140).map (fun i=>(i.zero,i.size,i.bytes))=some (some (.agg #[(.int .i64 0),(.int .i64 0)]),2,16):=by kernel_rfl
theorem y138:ZV 138 #[.int .i64 0,.int .i64 0,.int .i64 0,.int .i64 0]:=trivial
theorem y24:ZV 24 #[.int .i64 0,.int .i64 0,.int .i64 0,.int .i64 0,.int .i64 0,.int .i64 0,.int .i64 0,.int .i64 0,.int .i64 0,.int .i64 0]:=trivial
theorem y28:ZV 28 #[.int .i64 0,.int .i64 0,.int .i64 0,.int .i64 0,.int .i64 0,.int .i64 0,.int .i64 0,.int .i64 0,.int .i64 0,.int .i64 0,.int .i64 0,.int .i64 0,.int .i64 0,.int .i64 0,.int .i64 0,.int .i64 0,.int .i64 0,.int .i64 0,.int .i64 0,.int .i64 0,.int .i64 0,.int .i64 0,.int .i64 0,.int .i64 0,.slice none 0 0,.slice none 0 0]:=trivial
theorem y64:ZV 64 #[.int .i64 0,.int .i64 0,.int .i64 0,.int .i64 0,.int .i64 0,.int .i64 0,.int .i64 0,.int .i64 0,.int .i64 0,.int .i64 0,.int .i64 0,.int .i64 0]:=trivial
-- the values' own types
abbrev N_2:List Nat:=[1,2]
abbrev N_10:List Nat:=[1,2,3,4,5,6,7,8,9,10]
/-! #### struct type 24 -/
structure S24 where
 f0:Int
 f1:Int
 f2:Int
 f3:Int
 f4:Int
 f5:Int
 f6:Int
 f7:Int
 f8:Int
 f9:Int
def z24:S24:=⟨(0:Int),(0:Int),(0:Int),(0:Int),(0:Int),(0:Int),(0:Int),(0:Int),(0:Int),(0:Int)⟩
def k24:Kd S24:=Kd.iso (Kd.pair (Kd.int .i64) (Kd.pair (Kd.int .i64) (Kd.pair (Kd.int .i64) (Kd.pair (Kd.int .i64) (Kd.pair (Kd.int .i64) (Kd.pair (Kd.int .i64) (Kd.pair (Kd.int .i64) (Kd.pair (Kd.int .i64) (Kd.pair (Kd.int .i64) (Kd.int .i64)))))))))) (fun x:S24=>(x.f0,x.f1,x.f2,x.f3,x.f4,x.f5,x.f6,x.f7,x.f8,x.f9))
theorem k24_open {w:World} {x:S24} {cs:List Value} (h:k24.K w x cs):cs=[.int .i64 x.f0,.int .i64 x.f1,.int .i64 x.f2,.int .i64 x.f3,.int .i64 x.f4,.int .i64 x.f5,.int .i64 x.f6,.int .i64 x.f7,.int .i64 x.f8,.int .i64 x.f9]:=by
 obtain ⟨_,_,rfl,rfl,⟨_,_,rfl,rfl,⟨_,_,rfl,rfl,⟨_,_,rfl,rfl,⟨_,_,rfl,rfl,⟨_,_,rfl,rfl,⟨_,_,rfl,rfl,⟨_,_,rfl,rfl,⟨_,_,rfl,rfl,rfl⟩⟩⟩⟩⟩⟩⟩⟩⟩:=h
 exact rfl
abbrev d24 (x:S24):List Value:=[.int .i64 x.f0,.int .i64 x.f1,.int .i64 x.f2,.int .i64 x.f3,.int .i64 x.f4,.int .i64 x.f5,.int .i64 x.f6,.int .i64 x.f7,.int .i64 x.f8,.int .i64 x.f9]
theorem k24_mkM (w:World) (base:Nat) (ok:Nat→Prop) (x:S24) :k24.M w base ok x (d24 x):=⟨[_],_,rfl,rfl,⟨[_],_,rfl,rfl,⟨[_],_,rfl,rfl,⟨[_],_,rfl,rfl,⟨[_],_,rfl,rfl,⟨[_],_,rfl,rfl,⟨[_],_,rfl,rfl,⟨[_],_,rfl,rfl,⟨[_],_,rfl,rfl,rfl⟩⟩⟩⟩⟩⟩⟩⟩⟩
/-! #### struct type 64 -/
structure S64 where
 f0:Int
 f1:Int
 f2:S24
def z64:S64:=⟨(0:Int),(0:Int),z24⟩
def k64:Kd S64:=Kd.iso (Kd.pair (Kd.int .i64) (Kd.pair (Kd.int .i64) k24)) (fun x:S64=>(x.f0,x.f1,x.f2))
theorem k64_open {w:World} {x:S64} {cs:List Value} (h:k64.K w x cs):cs=[.int .i64 x.f0,.int .i64 x.f1,.int .i64 x.f2.f0,.int .i64 x.f2.f1,.int .i64 x.f2.f2,.int .i64 x.f2.f3,.int .i64 x.f2.f4,.int .i64 x.f2.f5,.int .i64 x.f2.f6,.int .i64 x.f2.f7,.int .i64 x.f2.f8,.int .i64 x.f2.f9]:=by
 obtain ⟨_,_,rfl,rfl,⟨_,_,rfl,rfl,s2⟩⟩:=h
 obtain rfl:=k24_open s2
 exact rfl
abbrev d64 (x:S64):List Value:=[.int .i64 x.f0,.int .i64 x.f1,.int .i64 x.f2.f0,.int .i64 x.f2.f1,.int .i64 x.f2.f2,.int .i64 x.f2.f3,.int .i64 x.f2.f4,.int .i64 x.f2.f5,.int .i64 x.f2.f6,.int .i64 x.f2.f7,.int .i64 x.f2.f8,.int .i64 x.f2.f9]
theorem k64_mkM (w:World) (base:Nat) (ok:Nat→Prop) (x:S64) :k64.M w base ok x (d64 x):=⟨[_],_,rfl,rfl,⟨[_],_,rfl,rfl,(k24_mkM w base ok x.f2 )⟩⟩
def rd_T64 (xs:List S64) (i:Int):S64:=xs.getD i.toNat z64
theorem at_T64 {w:World} {A:Option Addr} {n:Nat} {xs:List S64} (h:Kd.C k64 w A n xs) (i:Int) (h0:0≤i) (h1:i<n):∃ ad ,A=some ad∧w.cell? (ad.add (i.toNat * 12))=some (.int .i64 (rd_T64 xs i).f0)∧CS w (ad.add (i.toNat * 12)) N_10 (d64 (rd_T64 xs i)).tail (w.cell? ⟨(ad.add (i.toNat * 12)).block,(ad.add (i.toNat * 12)).off+11,none⟩=some (.int .i64 (rd_T64 xs i).f2.f9)):=by
 obtain ⟨ad,c,e,_,hK,hc0⟩:=Kd.C_get h z64 i h0 h1
 have hc:∀ j u,c[j]?=some u→w.cell? (ad.add (i.toNat * 12+j))=some u:=hc0
 obtain rfl:=k64_open hK
 exact ⟨ad,e,hc 0 _ rfl,CS_mk hc rfl (by rw [← add_field _ _ 11 (by omega)];exact hc 11 _ rfl)⟩
theorem at_R64 {w:World} {A:Option Addr} {n:Nat} {xs:List S64} (h:Kd.C k64 w A n xs) (i:Int) (h0:0≤i) (h1:i<n):∃ ad ,A=some ad∧RS w (ad.add (i.toNat * 12)) (d64 (rd_T64 xs i)):=by
 obtain ⟨ad,c,e,_,hK,hc0⟩:=Kd.C_get h z64 i h0 h1
 have hc:∀ j u,c[j]?=some u→w.cell? (ad.add (i.toNat * 12+j))=some u:=hc0
 obtain rfl:=k64_open hK
 exact ⟨ad,e,rI hc⟩
/-! #### struct type 138 -/
structure S138 where
 f0:Int
 f1:Int
 f2:Int
 f3:Int
def z138:S138:=⟨(0:Int),(0:Int),(0:Int),(0:Int)⟩
def k138:Kd S138:=Kd.iso (Kd.pair (Kd.int .i64) (Kd.pair (Kd.int .i64) (Kd.pair (Kd.int .i64) (Kd.int .i64)))) (fun x:S138=>(x.f0,x.f1,x.f2,x.f3))
theorem k138_open {w:World} {x:S138} {cs:List Value} (h:k138.K w x cs):cs=[.int .i64 x.f0,.int .i64 x.f1,.int .i64 x.f2,.int .i64 x.f3]:=by
 obtain ⟨_,_,rfl,rfl,⟨_,_,rfl,rfl,⟨_,_,rfl,rfl,rfl⟩⟩⟩:=h
 exact rfl
abbrev d138 (x:S138):List Value:=[.int .i64 x.f0,.int .i64 x.f1,.int .i64 x.f2,.int .i64 x.f3]
theorem k138_mkM (w:World) (base:Nat) (ok:Nat→Prop) (x:S138) :k138.M w base ok x (d138 x):=⟨[_],_,rfl,rfl,⟨[_],_,rfl,rfl,⟨[_],_,rfl,rfl,rfl⟩⟩⟩
def rd_T138 (xs:List S138) (i:Int):S138:=xs.getD i.toNat z138
theorem at_T138 {w:World} {A:Option Addr} {n:Nat} {xs:List S138} (h:Kd.C k138 w A n xs) (i:Int) (h0:0≤i) (h1:i<n):∃ ad ,A=some ad∧w.cell? (ad.add (i.toNat * 4))=some (.int .i64 (rd_T138 xs i).f0)∧CS w (ad.add (i.toNat * 4)) N_2 (d138 (rd_T138 xs i)).tail (w.cell? ⟨(ad.add (i.toNat * 4)).block,(ad.add (i.toNat * 4)).off+3,none⟩=some (.int .i64 (rd_T138 xs i).f3)):=by
 obtain ⟨ad,c,e,_,hK,hc0⟩:=Kd.C_get h z138 i h0 h1
 have hc:∀ j u,c[j]?=some u→w.cell? (ad.add (i.toNat * 4+j))=some u:=hc0
 obtain rfl:=k138_open hK
 exact ⟨ad,e,hc 0 _ rfl,CS_mk hc rfl (by rw [← add_field _ _ 3 (by omega)];exact hc 3 _ rfl)⟩
theorem at_R138 {w:World} {A:Option Addr} {n:Nat} {xs:List S138} (h:Kd.C k138 w A n xs) (i:Int) (h0:0≤i) (h1:i<n):∃ ad ,A=some ad∧RS w (ad.add (i.toNat * 4)) (d138 (rd_T138 xs i)):=by
 obtain ⟨ad,c,e,_,hK,hc0⟩:=Kd.C_get h z138 i h0 h1
 have hc:∀ j u,c[j]?=some u→w.cell? (ad.add (i.toNat * 4+j))=some u:=hc0
 obtain rfl:=k138_open hK
 exact ⟨ad,e,rI hc⟩
/-! #### struct type 140 -/
structure S140 where
 f0:Int
 f1:Int
def z140:S140:=⟨(0:Int),(0:Int)⟩
def k140:Kd S140:=Kd.iso (Kd.pair (Kd.int .i64) (Kd.int .i64)) (fun x:S140=>(x.f0,x.f1))
theorem k140_open {w:World} {x:S140} {cs:List Value} (h:k140.K w x cs):cs=[.int .i64 x.f0,.int .i64 x.f1]:=by
 obtain ⟨_,_,rfl,rfl,rfl⟩:=h
 exact rfl
abbrev d140 (x:S140):List Value:=[.int .i64 x.f0,.int .i64 x.f1]
theorem k140_mkM (w:World) (base:Nat) (ok:Nat→Prop) (x:S140) :k140.M w base ok x (d140 x):=⟨[_],_,rfl,rfl,rfl⟩
def rd_T140 (xs:List S140) (i:Int):S140:=xs.getD i.toNat z140
theorem at_T140 {w:World} {A:Option Addr} {n:Nat} {xs:List S140} (h:Kd.C k140 w A n xs) (i:Int) (h0:0≤i) (h1:i<n):∃ ad ,A=some ad∧w.cell? (ad.add (i.toNat * 2))=some (.int .i64 (rd_T140 xs i).f0)∧w.cell? ⟨(ad.add (i.toNat * 2)).block,(ad.add (i.toNat * 2)).off+1,none⟩=some (.int .i64 (rd_T140 xs i).f1):=by
 obtain ⟨ad,c,e,_,hK,hc0⟩:=Kd.C_get h z140 i h0 h1
 have hc:∀ j u,c[j]?=some u→w.cell? (ad.add (i.toNat * 2+j))=some u:=hc0
 obtain rfl:=k140_open hK
 exact ⟨ad,e,hc 0 _ rfl,by rw [← add_field _ _ 1 (by omega)];exact hc 1 _ rfl⟩
theorem at_R140 {w:World} {A:Option Addr} {n:Nat} {xs:List S140} (h:Kd.C k140 w A n xs) (i:Int) (h0:0≤i) (h1:i<n):∃ ad ,A=some ad∧RS w (ad.add (i.toNat * 2)) (d140 (rd_T140 xs i)):=by
 obtain ⟨ad,c,e,_,hK,hc0⟩:=Kd.C_get h z140 i h0 h1
 have hc:∀ j u,c[j]?=some u→w.cell? (ad.add (i.toNat * 2+j))=some u:=hc0
 obtain rfl:=k140_open hK
 exact ⟨ad,e,rI hc⟩
/-! #### struct type 155 -/
structure S155 where
 f0:Int
 f1:Int
def z155:S155:=⟨(0:Int),(0:Int)⟩
def k155:Kd S155:=Kd.iso (Kd.pair (Kd.int .i64) (Kd.int .i64)) (fun x:S155=>(x.f0,x.f1))
theorem k155_open {w:World} {x:S155} {cs:List Value} (h:k155.K w x cs):cs=[.int .i64 x.f0,.int .i64 x.f1]:=by
 obtain ⟨_,_,rfl,rfl,rfl⟩:=h
 exact rfl
abbrev d155 (x:S155):List Value:=[.int .i64 x.f0,.int .i64 x.f1]
theorem k155_mkM (w:World) (base:Nat) (ok:Nat→Prop) (x:S155) :k155.M w base ok x (d155 x):=⟨[_],_,rfl,rfl,rfl⟩
def rd_T155 (xs:List S155) (i:Int):S155:=xs.getD i.toNat z155
theorem at_T155 {w:World} {A:Option Addr} {n:Nat} {xs:List S155} (h:Kd.C k155 w A n xs) (i:Int) (h0:0≤i) (h1:i<n):∃ ad ,A=some ad∧w.cell? (ad.add (i.toNat * 2))=some (.int .i64 (rd_T155 xs i).f0)∧w.cell? ⟨(ad.add (i.toNat * 2)).block,(ad.add (i.toNat * 2)).off+1,none⟩=some (.int .i64 (rd_T155 xs i).f1):=by
 obtain ⟨ad,c,e,_,hK,hc0⟩:=Kd.C_get h z155 i h0 h1
 have hc:∀ j u,c[j]?=some u→w.cell? (ad.add (i.toNat * 2+j))=some u:=hc0
 obtain rfl:=k155_open hK
 exact ⟨ad,e,hc 0 _ rfl,by rw [← add_field _ _ 1 (by omega)];exact hc 1 _ rfl⟩
theorem flat24:Flat k24:=flat_iso _ (flat_pair (flat_int _) (flat_pair (flat_int _) (flat_pair (flat_int _) (flat_pair (flat_int _) (flat_pair (flat_int _) (flat_pair (flat_int _) (flat_pair (flat_int _) (flat_pair (flat_int _) (flat_pair (flat_int _) (flat_int _))))))))))
theorem flat64:Flat k64:=flat_iso _ (flat_pair (flat_int _) (flat_pair (flat_int _) flat24))
end Go.Proofs.Ytoieojmfkkidnaa.P
