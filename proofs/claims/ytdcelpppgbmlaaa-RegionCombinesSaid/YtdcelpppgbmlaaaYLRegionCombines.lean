/- Plain law: the law RegionCombines answers true, whatever it is given. No condition. -/
import Derived.Test.YtdcelpppgbmlaaaYMAll
import Derived.Test.YtdcelpppgbmlaaaYPLaw05b
namespace Go.Proofs.Ytdcelpppgbmlaaa.P
open Go.RowKit Go.Proofs.YtdcelpppgbmlaaaW.PrintWords Go.Proofs.YtdcelpppgbmlaaaW.PrintMore
set_option linter.unusedSimpArgs false
set_option linter.unusedVariables false
theorem RegionCombines_short (a b : List S41) (ha : a.length < 13) (hb : b.length < 13) : Ev (fun k => bitemporallaw05_RegionCombines.j0 k a b false) true := by
  refine Ev.step' ?_
  simp only [bitemporallaw05_RegionCombines.j0, Bool.false_eq_true, if_false]
  obtain ⟨x, x1, x1', x2, x3⟩ := (region_Union_ev a b (by omega)).same (ref05_Union_ev a b (by omega))
  have hx := regMax24 x3 (by omega)
  refine Ev.bind x1 (Ev.bind x1' (Ev.bind (Same41s x (by omega)) ?_))
  simp only [eq_self, if_true]
  obtain ⟨y, y1, y1', y2, y3⟩ := (region_Intersect_ev a b (by omega)).same (ref05_Intersect_ev a b (by omega))
  have hy := regMax24 y3 (by omega)
  refine Ev.bind y1 (Ev.bind y1' (Ev.bind (Same41s y (by omega)) ?_))
  simp only [eq_self, if_true]
  obtain ⟨z, z1, z1', z2, z3⟩ := (region_Subtract_ev a b (by omega)).same (ref05_Subtract_ev a b (by omega))
  have hz := regMax24 z3 (by omega)
  refine Ev.bind z1 (Ev.bind z1' (Ev.bind (Same41s z (by omega)) ?_))
  simp only [eq_self, if_true]
  exact awakes5
theorem RegionCombines_ev (a b : List S41) : Ev (fun k => bitemporallaw05_RegionCombines.f k a b) true := by
  have long : Ev (fun k => bitemporallaw05_RegionCombines.j0 k a b true) true := by
    refine Ev.step' ?_
    simp only [bitemporallaw05_RegionCombines.j0, if_true]
    exact awakes5
  simp only [bitemporallaw05_RegionCombines.f]
  by_cases ha : (a.length : Int) > 12
  · simp only [ha, if_true]
    exact long
  · simp only [ha, if_false]
    by_cases hb : (b.length : Int) > 12
    · simp only [hb, decide_true]
      exact long
    · simp only [hb, decide_false]
      exact RegionCombines_short a b (long_of12 ha) (long_of12 hb)
theorem RegionCombines_pure (a b : List S41) : ∃ k, bitemporallaw05_RegionCombines.f k a b = some true := (RegionCombines_ev a b).rounds
end Go.Proofs.Ytdcelpppgbmlaaa.P
