import Derived.Test.YtnkgeongfneafaaT1
import Derived.Test.YtnkgeongfneafaaTab1
set_option linter.unusedVariables false
set_option linter.unusedSimpArgs false
namespace Go.Proofs.Ytnkgeongfneafaa.AE
open Go Go.AE Go.Proofs
set_option linter.unusedVariables false
set_option maxHeartbeats 4000000
set_option maxRecDepth 100000
noncomputable section
theorem ia.k (F:Nat):Ok Try.prog 11 (ia.mk (ia.tw F)):=by
 intro args H v H' h
 unfold ia.mk at h
 split at h
 ·exact okT (TB:=ia.tb) Try.func11 (bG (gS.k F) (bG (fF.k F) (bG (gV.k F) (bG (gJ.k F) (bG (h_.k F) (bG (ic.k F) (bG (ig.k F) (bG (iV.k F) (bG (iq.k F) cK))))))))) ah.no ((ia.eqX F (gS.tw F) (fF.tw F) (gV.tw F) (gJ.tw F) (h_.tw F) (ic.tw F) (ig.tw F) (iV.tw F) (iq.tw F) _ _ _ _ _ _ H).trans h) (by kernel_rfl)
 ·cases h
theorem ia.T {F:Nat} {aa:Int} {af:Int} {aE:Sl} {ak:Int} {aK:Int} {dB:Sl} {H:Hp} {v:AV} {H':Hp} (h:ia.tw F aa af aE ak aK dB H=some (v,H')):Go.AE.T Try.prog 11 [(.agg [(.int .i64 aa),(.int .i64 af),(.sl aE)]),(.agg [(.int .i64 ak),(.int .i64 aK),(.sl dB)])] H v H':=ia.k F _ _ _ _ h
end
end Go.Proofs.Ytnkgeongfneafaa.AE
