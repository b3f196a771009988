import Derived.Test.YthjocaegapchaaaPx24
import Derived.Test.YthjocaegapchaaaXWalLaw
import Derived.Test.YthjocaegapchaaaXDrawWal3
import Derived.Test.YthjocaegapchaaaXLpTexts
namespace Go.Proofs.Ythjocaegapchaaa.Pure
open Go.RowKit Go.Proofs.Ythjocaegapchaaa.P Go.Proofs.YthjocaegapchaaaX Go.Proofs.YthjocaegapchaaaW.PrintWords Go.Proofs.YthjocaegapchaaaW.PrintLast Go.Proofs.YthjocaegapchaaaW.PrintMore
set_option linter.unusedVariables false
set_option linter.unusedSimpArgs false

theorem mend_read (K:Bs) (W:List Sw):(mendB K W).2=(wreadB K W).2:=by
 unfold mendB wreadB
 cases logB K W with
 | none=>rfl
 | some L=>simp only;split<;>rfl
theorem FnWalMend:laws_FnWalMend.Pure:=by
 intro l hl _ hw
 refine T.rounds (g:=fun k=>laws_FnWalMend.f k l) ?_
 simp only [laws_FnWalMend.f]
 refine T.ite (fun _=>T.ret rfl) (fun _=>?_)
 refine T.bind (P:=fun r:Bs × List Sw=>r.1.length≤1000∧r.2.length≤300) ?_ (fun d hd=>?_)
 ·simp only [spec_DrawWalMend.f]
  obtain ⟨b,hc,hb⟩:=open_code hw hl
  simp only [hb,Option.bind_some]
  exact T.bind (walAny_T hc (by omega) (by omega)) (fun d hd=>T.ret hd)
 obtain ⟨K,W⟩:=d
 have hK:K.length≤1000:=hd.1
 have hW:W.length≤300:=hd.2
 refine T.bind_eq (spec_mend K W (by omega)) ?_
 refine T.bind_eq (spec_wread K W (by omega)) ?_
 refine T.bind_eq (impl_mend K W (by omega) (by omega)) ?_
 refine T.neg (by simp) (T.pos (by simp) ?_)
 have hlen:=wreadB_le K W
 have j1:∀ b:Bool,b=true→T (fun k=>laws_FnWalMend.j1 k b) (·=true):=fun b hb=>by
  refine T.succ ?_
  simp only [laws_FnWalMend.j1]
  exact T.ret hb
 refine T.succ ?_
 simp only [laws_FnWalMend.j0]
 refine T.neg (by rw [mend_read];simp) ?_
 cases hL:logB K W with
 | none =>
  have e:mendB K W=([],false):=by unfold mendB;rw [hL]
  rw [e]
  exact T.neg (by simp) (T.ret rfl)
 | some L =>
  obtain ⟨h1,h2,h3,h4,h5⟩:=logB_good hL
  have fin:∀ (K2:Bs) (W2:List Sw) (S:List Ss),(mendB K W)=(S,true)→doB K W S false 0 []=(K2,W2)→K2.length≤1000→W2.length≤1000→wreadB K2 W2=wreadB K W→mendB K2 W2=([],true) →
    T (fun k=>if (mendB K W).2=true then ((impl_WalDo.f k K W (mendB K W).1 false 0 ([]:List Int)).bind fun bt1015=>((impl_WalRead.f k bt1015.1 bt1015.2).bind fun bt1022=>((impl_WalMend.f k bt1015.1 bt1015.2).bind fun bt1026=>(if bt1022.2=true then (if bt1026.2=true then (if (bt1026.1.length:Int)=0 then ((laws_lpTexts.f k bt1022.1 (wreadB K W).1).bind fun t1030=>(laws_FnWalMend.j1 k t1030)) else (laws_FnWalMend.j1 k false)) else (laws_FnWalMend.j1 k false)) else (laws_FnWalMend.j1 k false))))) else (some (((mendB K W).1.length:Int) == 0))) (·=true):=fun K2 W2 S e1 e2 k1 k2 e3 e4=>by
   have e5:(wreadB K W).2=true:=by rw [← mend_read,e1]
   rw [e1]
   refine T.pos rfl ?_
   refine T.bind_eq (impl_do K W S (by omega) (by omega) false 0 []) ?_
   rw [e2]
   refine T.bind_eq (impl_wread K2 W2 (by omega) (by omega)) ?_
   refine T.bind_eq (impl_mend K2 W2 (by omega) (by omega)) ?_
   rw [e3,e4]
   refine T.pos e5 (T.pos rfl (T.pos (by simp) ?_))
   exact T.bind (lpTexts_T2 _ _ (by omega)) (fun r hr=>j1 r (hr.2 rfl))
  by_cases hz:((wr K W).getD 0 ByteArray.empty).size=0
  ·have e:mendB K W=([],true):=by unfold mendB;rw [hL];simp only;rw [if_pos hz]
   have e2:doB K W [] false 0 []=(K,W):=by
    unfold doB
    rw [if_pos ⟨h1,by simp⟩]
    simp [runB]
   exact fin K W [] e e2 (by omega) (by omega) rfl e
  ·have e:mendB K W=(applyL L,true):=by unfold mendB;rw [hL];simp only;rw [if_neg hz]
   obtain ⟨e2,ok⟩:=do_apply hL hW []
   exact fin _ _ _ e e2 (by rw [wr_length,wr_length];omega) (by simp) (mended_read hL ok) (mended_mend hL ok)
end Go.Proofs.Ythjocaegapchaaa.Pure
