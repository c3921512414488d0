/- Plain law: the law SpanTells answers true, whatever it is given. No condition. -/
import Derived.Test.YtdcelpppgbmlaaaTLAwake
import Derived.Test.YtdcelpppgbmlaaaTPLaw03g
namespace Go.Proofs.Ytdcelpppgbmlaaa.P
open Go.RowKit Go.Proofs.YtdcelpppgbmlaaaW.PrintWords Go.Proofs.YtdcelpppgbmlaaaW.PrintMore
set_option linter.unusedSimpArgs false
set_option linter.unusedVariables false
theorem SpanTells_ev (a : List S33) (t : Int) : Ev (fun k => bitemporallaw03_SpanTells.f k a t) true := by
  simp only [bitemporallaw03_SpanTells.f]
  by_cases hl : (a.length : Int) > 30
  · simp only [hl, if_true]
    exact awakes
  · have hl' := long_of hl
    simp only [hl, if_false]
    obtain ⟨r, r1, r2⟩ := Next_ev a t (by omega)
    refine Ev.bind r1 (Ev.bind r2 (Ev.bind (span_Valid_ev a (by omega)) (Ev.bind (ref03_Valid_ev a (by omega)) ?_)))
    simp only [beq_self_eq_true, if_true]
    refine Ev.bind (span_Contains_ev a t (by omega)) (Ev.bind (ref03_Contains_ev a t (by omega)) ?_)
    simp only [beq_self_eq_true, eq_self, if_true]
    exact awakes
theorem SpanTells_pure (a : List S33) (t : Int) : ∃ k, bitemporallaw03_SpanTells.f k a t = some true := (SpanTells_ev a t).rounds
end Go.Proofs.Ytdcelpppgbmlaaa.P
