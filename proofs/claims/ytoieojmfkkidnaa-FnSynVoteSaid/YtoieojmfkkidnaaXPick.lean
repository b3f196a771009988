/-
 The reader of drawn inputs: each pick is a number below its bound,and goes on by one.
 Conditions: a code of at most 2000 bytes;a place below a million millions.
-/
import Derived.Test.YtoieojmfkkidnaaXPure
import Derived.Test.YtoieojmfkkidnaaPx12
import Derived.Test.YtoieojmfkkidnaaPx13
import Derived.Laws.Bits64
namespace Go.Proofs.YtoieojmfkkidnaaX
open Go.RowKit Go.Proofs.Ytoieojmfkkidnaa.P Go.Proofs.YtoieojmfkkidnaaW.PrintWords Go.Proofs.YtoieojmfkkidnaaW.PrintLast Go.Proofs.YtoieojmfkkidnaaW.PrintMore
set_option linter.unusedVariables false
set_option linter.unusedSimpArgs false
theorem xor_nat (a b:Nat) (ha:a<4611686018427387904) (hb:b<4611686018427387904):Go.bits .xor .i64 (a:Int) (b:Int)=((a ^^^ b:Nat):Int):=by
 have e1:(a ^^^ b)<4611686018427387904:=by
  have:=Nat.xor_lt_two_pow (x:=a) (y:=b) (n:=62) (by simpa using ha) (by simpa using hb)
  simpa using this
 have ea:(BitVec.ofInt IntKind.i64.bits (a:Int)).toNat=a:=by simp [IntKind.bits];omega
 have eb:(BitVec.ofInt IntKind.i64.bits (b:Int)).toNat=b:=by simp [IntKind.bits];omega
 have e4:(BitVec.ofInt IntKind.i64.bits (a:Int) ^^^ BitVec.ofInt IntKind.i64.bits (b:Int)).toNat=a ^^^ b:=by rw [BitVec.toNat_xor,ea,eb]
 show IntKind.i64.wrap ((BitVec.ofInt IntKind.i64.bits (a:Int) ^^^ BitVec.ofInt IntKind.i64.bits (b:Int)).toNat:Int)=_
 rw [e4,IntKind.wrap_i64]
 omega
theorem xor_range (a b:Int) (ha:0≤a) (ha':a<4611686018427387904) (hb:0≤b) (hb':b<4611686018427387904):0≤Go.bits .xor .i64 a b:=by
 obtain ⟨m,rfl⟩:=Int.eq_ofNat_of_zero_le ha
 obtain ⟨n,rfl⟩:=Int.eq_ofNat_of_zero_le hb
 rw [xor_nat m n (by omega) (by omega)]
 omega
/-- A code that is read: bytes, at most 2000. -/
def Code (b:List Int):Prop:=b.length≤2000∧∀ x ∈ b,0≤x∧x≤255
/-- What a pick of n comes to. -/
def Pk (n p:Int) (r:Int × Int):Prop:=0≤r.1∧(1≤n→r.1<n)∧r.2=p+1
theorem rd_byte {b:List Int} (h:Code b) (i:Int):0≤rd b i∧rd b i≤255:=by
 unfold rd
 rw [List.getD_eq_getElem?_getD]
 cases hi:b[i.toNat]? with
 | none=>simp
 | some x=>simpa using h.2 x (List.mem_of_getElem? hi)
theorem tmod_range {a n:Int} (ha:0≤a) (hn:1≤n):0≤a.tmod n∧a.tmod n<n:=by
 rw [Int.tmod_eq_emod_of_nonneg ha]
 exact ⟨Int.emod_nonneg _ (by omega),Int.emod_lt_of_pos _ (by omega)⟩
theorem pick_T {b:List Int} (h:Code b) {p:Int} (hp0:0≤p) (hp1:p≤1000000000000) (n:Int) (hn:n≤9223372036854775807) (hn0:-9223372036854775808≤n) :
  T (fun k=>spec_l6Rd_pick.f k b p n) (Pk n p):=by
 have hw:wrap64 (p+1)=p+1:=wrap64_id (by omega) (by omega)
 have hw2:wrap64 (p+1 - 1)=p:=by rw [show p+1 - 1=p by omega];exact wrap64_id (by omega) (by omega)
 simp only [spec_l6Rd_pick.f,hw]
 refine T.ite (fun hn1=>?_) (fun hn1=>?_)
 ·refine T.succ ?_
  simp only [spec_l6Rd_pick.j0,if_true]
  exact T.ret ⟨Int.le_refl _,fun h=>by omega,rfl⟩
 refine T.succ ?_
 simp only [spec_l6Rd_pick.j0,hw2]
 have hl0:(0:Int)≤(b.length:Int):=Int.natCast_nonneg _
 refine T.ite (fun _=>T.ret ⟨Int.le_refl _,fun _=>by show (0:Int)<n;omega,rfl⟩) (fun hl=>?_)
 have hl1:(1:Int)≤(b.length:Int):=by
  have:¬ (b.length:Int)=0:=by simpa using hl
  omega
 refine T.ite (fun hp=>?_) (fun hp=>?_)
 ·refine T.pos hp0 ?_
  refine T.neg (by omega) ?_
  have hb:=rd_byte h p
  rw [wrap64_id (x:=rd b p) (by omega) (by omega)]
  have:=tmod_range (a:=rd b p) (n:=n) (by omega) (by omega)
  exact T.ret ⟨this.1,fun _=>this.2,rfl⟩
 ·have hlen:(b.length:Int)≤2000:=by have:=h.1;omega
  refine T.neg (by omega) ?_
  have t1:=tmod_range (a:=p) (n:=(b.length:Int)) hp0 hl1
  refine T.pos t1.1 (T.pos t1.2 ?_)
  have e7:wrap64 (p * 7)=p * 7:=wrap64_id (by omega) (by omega)
  have e3:wrap64 (p * 7+3)=p * 7+3:=wrap64_id (by omega) (by omega)
  simp only [e7,e3]
  have t2:=tmod_range (a:=p * 7+3) (n:=(b.length:Int)) (by omega) hl1
  refine T.pos t2.1 (T.pos t2.2 ?_)
  refine T.neg (by omega) ?_
  have b1:=rd_byte h (p.tmod b.length)
  have b2:=rd_byte h ((p * 7+3).tmod b.length)
  generalize rd b (p.tmod b.length)=u at b1 ⊢
  generalize rd b ((p * 7+3).tmod b.length)=v at b2 ⊢
  have hd:0≤p.tdiv b.length∧p.tdiv b.length≤p:=by
   rw [Int.tdiv_eq_ediv_of_nonneg hp0]
   exact ⟨Int.ediv_nonneg hp0 hl0,Int.ediv_le_self _ hp0⟩
  generalize p.tdiv b.length=q at hd ⊢
  rw [wrap64_id (x:=u) (by omega) (by omega),wrap64_id (x:=v) (by omega) (by omega),wrap64_id (x:=q) (by omega) (by omega),wrap64_id (x:=u * 131) (by omega) (by omega),wrap64_id (x:=v * 1117) (by omega) (by omega),wrap64_id (x:=p * 29) (by omega) (by omega),
   wrap64_id (x:=q * 53) (by omega) (by omega),wrap64_id (x:=u * 131+v * 1117) (by omega) (by omega),wrap64_id (x:=u * 131+v * 1117+p * 29) (by omega) (by omega),wrap64_id (x:=u * 131+v * 1117+p * 29+q * 53) (by omega) (by omega)]
  have hx:0≤u * 131+v * 1117+p * 29+q * 53∧u * 131+v * 1117+p * 29+q * 53≤1000000000000000:=by omega
  generalize u * 131+v * 1117+p * 29+q * 53=x at hx ⊢
  have hd2:0≤x.tdiv 64∧x.tdiv 64≤x:=by
   rw [Int.tdiv_eq_ediv_of_nonneg hx.1]
   omega
  rw [wrap64_id (x:=x.tdiv 64) (by omega) (by omega)]
  have hxor:=xor_range x (x.tdiv 64) hx.1 (by omega) hd2.1 (by omega)
  have:=tmod_range (a:=Go.bits .xor .i64 x (x.tdiv 64)) (n:=n) hxor (by omega)
  exact T.ret ⟨this.1,fun _=>this.2,rfl⟩
theorem open_code {l:List Int} (hw:∀ x ∈ l,(Lit.int .u8 x).wf=true) (hl:l.length≤9223372036854775807):∃ b,Code b∧spec_l6Open.f l=some (b,0):=by
 have hb:∀ x ∈ l,0≤x∧x≤255:=fun x hx=>by
  have:=hw x hx
  simp [Lit.wf,IntKind.min,IntKind.max,IntKind.signed,IntKind.bits] at this
  omega
 unfold spec_l6Open.f
 by_cases h:(l.length:Int) > 2000
 ·rw [if_pos h,if_pos (by omega)]
  exact ⟨_,⟨by rw [List.length_take];omega,fun x hx=>hb x (List.mem_of_mem_take hx)⟩,rfl⟩
 ·rw [if_neg h]
  exact ⟨_,⟨by omega,hb⟩,rfl⟩
end Go.Proofs.YtoieojmfkkidnaaX
