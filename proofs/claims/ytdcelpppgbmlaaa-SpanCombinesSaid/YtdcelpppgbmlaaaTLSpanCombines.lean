/- Plain law: the law SpanCombines answers true, whatever it is given. No condition. -/
import Derived.Test.YtdcelpppgbmlaaaTLAwake
import Derived.Test.YtdcelpppgbmlaaaTPLaw03d
namespace Go.Proofs.Ytdcelpppgbmlaaa.P
open Go.RowKit Go.Proofs.YtdcelpppgbmlaaaW.PrintWords Go.Proofs.YtdcelpppgbmlaaaW.PrintMore
set_option linter.unusedSimpArgs false
set_option linter.unusedVariables false
theorem SpanCombines_short (a b : List S33) (ha : a.length < 31) (hb : b.length < 31) : Ev (fun k => bitemporallaw03_SpanCombines.j0 k a b false) true := by
  refine Ev.step' ?_
  simp only [bitemporallaw03_SpanCombines.j0, Bool.false_eq_true, if_false]
  obtain ⟨r, r1, r2, _, r4⟩ := (span_Union_ev a b (by omega)).same (ref03_Union_ev a b (by omega))
  refine Ev.bind r1 (Ev.bind r2 (Ev.bind (Same_ev r (by omega)) ?_))
  simp only [eq_self, if_true]
  obtain ⟨r, r1, r2, _, r4⟩ := (span_Intersect_ev a b (by omega)).same (ref03_Intersect_ev a b (by omega))
  refine Ev.bind r1 (Ev.bind r2 (Ev.bind (Same_ev r (by omega)) ?_))
  simp only [eq_self, if_true]
  obtain ⟨r, r1, r2, _, r4⟩ := (span_Subtract_ev a b (by omega)).same (ref03_Subtract_ev a b (by omega))
  refine Ev.bind r1 (Ev.bind r2 (Ev.bind (Same_ev r (by omega)) ?_))
  simp only [eq_self, if_true]
  obtain ⟨r, r1, r2, _, r4⟩ := (span_Complement_ev a (by omega)).same (ref03_Complement_ev a (by omega))
  refine Ev.bind r1 (Ev.bind r2 (Ev.bind (Same_ev r (by omega)) ?_))
  simp only [eq_self, if_true]
  obtain ⟨c, c1, c2⟩ := span_Covers_ev a b (by omega)
  obtain ⟨d, d1, d2⟩ := ref03_Covers_ev a b (by omega)
  have e : c = d := by
    have := c2.trans d2.symm
    cases c <;> cases d <;> simp_all
  subst e
  refine Ev.bind c1 (Ev.bind d1 ?_)
  simp only [beq_self_eq_true, if_true]
  exact awakes
theorem SpanCombines_ev (a b : List S33) : Ev (fun k => bitemporallaw03_SpanCombines.f k a b) true := by
  have long : Ev (fun k => bitemporallaw03_SpanCombines.j0 k a b true) true := by
    refine Ev.step' ?_
    simp only [bitemporallaw03_SpanCombines.j0, if_true]
    exact awakes
  simp only [bitemporallaw03_SpanCombines.f]
  by_cases ha : (a.length : Int) > 30
  · simp only [ha, if_true]
    exact long
  · simp only [ha, if_false]
    by_cases hb : (b.length : Int) > 30
    · simp only [hb, decide_true]
      exact long
    · simp only [hb, decide_false]
      exact SpanCombines_short a b (long_of ha) (long_of hb)
theorem SpanCombines_pure (a b : List S33) : ∃ k, bitemporallaw03_SpanCombines.f k a b = some true := (SpanCombines_ev a b).rounds
end Go.Proofs.Ytdcelpppgbmlaaa.P
