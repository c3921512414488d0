/- Plain law: the law RegionOf answers true, whatever it is given. No condition. -/
import Derived.Test.YtdcelpppgbmlaaaYMAll
import Derived.Test.YtdcelpppgbmlaaaYPLaw05b
namespace Go.Proofs.Ytdcelpppgbmlaaa.P
open Go.RowKit Go.Proofs.YtdcelpppgbmlaaaW.PrintWords Go.Proofs.YtdcelpppgbmlaaaW.PrintMore
set_option linter.unusedSimpArgs false
set_option linter.unusedVariables false
theorem RegionOf_ev (l : List S41) : Ev (fun k => bitemporallaw05_RegionOf.f k l) true := by
  simp only [bitemporallaw05_RegionOf.f]
  by_cases hl : (l.length : Int) > 12
  · simp only [hl, if_true]
    exact awakes5
  · have hl' := long_of12 hl
    simp only [hl, if_false]
    obtain ⟨R, r1, r2, r3, r4⟩ := (region_Of_ev l (by omega)).same (ref05_Of_ev l (by omega))
    have hR := regMax24 r4 (by omega)
    refine Ev.bind r1 (Ev.bind r2 (Ev.bind (Same41s R (by omega)) ?_))
    simp only [eq_self, if_true]
    refine Ev.bind (region_Valid_reg r3 (by omega)) ?_
    simp only [eq_self, if_true]
    exact awakes5
theorem RegionOf_pure (l : List S41) : ∃ k, bitemporallaw05_RegionOf.f k l = some true := (RegionOf_ev l).rounds
end Go.Proofs.Ytdcelpppgbmlaaa.P
