import Derived.Test.YtnkgeongfneafaaT1
import Derived.Test.YtnkgeongfneafaaTab1
set_option linter.unusedVariables false
set_option linter.unusedSimpArgs false
namespace Go.Proofs.Ytnkgeongfneafaa.AE
open Go Go.AE Go.Proofs
set_option linter.unusedVariables false
set_option maxHeartbeats 4000000
set_option maxRecDepth 100000
noncomputable section
theorem gD.k (F:Nat):Ok Try.prog 11 (gD.mk (gD.tw F)):=by
 intro args H v H' h
 unfold gD.mk at h
 split at h
 ·exact okT (TB:=gD.tb) Try.func11 (bG (gT.k F) (bG (fF.k F) (bG (gW.k F) (bG (gK.k F) (bG (ia.k F) (bG (ic.k F) (bG (ig.k F) (bG (iV.k F) (bG (iq.k F) cK))))))))) ah.no ((gD.eqX F (gT.tw F) (fF.tw F) (gW.tw F) (gK.tw F) (ia.tw F) (ic.tw F) (ig.tw F) (iV.tw F) (iq.tw F) _ _ _ _ _ _ H).trans h) (by kernel_rfl)
 ·cases h
theorem gD.mkE (g:Int->Int->Sl->Int->Int->Sl->Hp->OA) (aa:Int) (af:Int) (aC:Sl) (aj:Int) (aJ:Int) (df:Sl) (H:Hp):gD.mk g [(.agg [(.int .i64 aa),(.int .i64 af),(.sl aC)]),(.agg [(.int .i64 aj),(.int .i64 aJ),(.sl df)])] H=g aa af aC aj aJ df H:=rfl
theorem gD.T {F:Nat} {aa:Int} {af:Int} {aC:Sl} {aj:Int} {aJ:Int} {df:Sl} {H:Hp} {v:AV} {H':Hp} (h:gD.tw F aa af aC aj aJ df H=some (v,H')):Go.AE.T Try.prog 11 [(.agg [(.int .i64 aa),(.int .i64 af),(.sl aC)]),(.agg [(.int .i64 aj),(.int .i64 aJ),(.sl df)])] H v H':=gD.k F _ _ _ _ ((gD.mkE (gD.tw F) aa af aC aj aJ df H).trans h)
end
end Go.Proofs.Ytnkgeongfneafaa.AE
