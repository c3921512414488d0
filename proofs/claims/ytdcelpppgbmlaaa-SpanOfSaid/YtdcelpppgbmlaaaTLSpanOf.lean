/- Plain law: the law SpanOf answers true, whatever it is given. No condition. -/
import Derived.Test.YtdcelpppgbmlaaaTLAwake
import Derived.Test.YtdcelpppgbmlaaaTPLaw03b
namespace Go.Proofs.Ytdcelpppgbmlaaa.P
open Go.RowKit Go.Proofs.YtdcelpppgbmlaaaW.PrintWords Go.Proofs.YtdcelpppgbmlaaaW.PrintMore
set_option linter.unusedSimpArgs false
set_option linter.unusedVariables false
theorem SpanOf_ev (l : List S33) : Ev (fun k => bitemporallaw03_SpanOf.f k l) true := by
  simp only [bitemporallaw03_SpanOf.f]
  by_cases hl : (l.length : Int) > 30
  · simp only [hl, if_true]
    exact awakes
  · have hl' := long_of hl
    have hp := pts_length l []
    simp only [hl, if_false]
    obtain ⟨r, h1, k1, h2, h3⟩ := (span_Of_ev l (by omega)).same (ref03_Of_ev l (by omega))
    refine Ev.bind h1 (Ev.bind k1 (Ev.bind (Same_ev r (by omega)) ?_))
    simp only [eq_self, if_true]
    obtain ⟨s, _, s2, s3⟩ := span_Length_ev l (by omega)
    obtain ⟨u, u2, u3⟩ := ref03_Length_ev l (by omega)
    obtain rfl := s2.eq u2
    refine Ev.bind s3 (Ev.bind u3 ?_)
    simp only [eq_self, if_true]
    refine Ev.bind (span_Points_ev l (by omega)) (Ev.bind (ref03_Points_ev l (by omega)) (Ev.bind (SameInts_ev _ (by simp at hp; omega)) ?_))
    simp only [eq_self, if_true]
    have hs : (slc l (pts l [])).length < 9223372036854775807 := by
      have := slc_length l (pts l [])
      simp at hp
      omega
    refine Ev.bind (span_Slices_ev l (by omega)) (Ev.bind (ref03_Slices_ev l (by omega)) (Ev.bind (Same_ev _ hs) ?_))
    simp only [eq_self, if_true]
    exact awakes
theorem SpanOf_pure (l : List S33) : ∃ k, bitemporallaw03_SpanOf.f k l = some true := (SpanOf_ev l).rounds
end Go.Proofs.Ytdcelpppgbmlaaa.P
