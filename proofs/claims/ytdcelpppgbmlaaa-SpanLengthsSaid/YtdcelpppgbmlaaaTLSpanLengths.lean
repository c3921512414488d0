/- Plain law: the law SpanLengths answers true, whatever it is given. No condition. -/
import Derived.Test.YtdcelpppgbmlaaaTLAwake
import Derived.Test.YtdcelpppgbmlaaaTPLaw03d
namespace Go.Proofs.Ytdcelpppgbmlaaa.P
open Go.RowKit Go.Proofs.YtdcelpppgbmlaaaW.PrintWords Go.Proofs.YtdcelpppgbmlaaaW.PrintMore
set_option linter.unusedSimpArgs false
set_option linter.unusedVariables false
theorem SpanLengths_short (a b : List S33) (ha : a.length < 31) (hb : b.length < 31) : Ev (fun k => bitemporallaw03_SpanLengths.j0 k a b false) true := by
  refine Ev.step' ?_
  simp only [bitemporallaw03_SpanLengths.j0, Bool.false_eq_true, if_false]
  obtain ⟨n, hn⟩ := fv_nat
  obtain ⟨ra, a1, a2, a3⟩ := span_Length_ev a (by omega)
  have ca := lsum_span a2 n hn
  have na : lsum ra ≥ 0 := lsum_nonneg ra a2.1.1
  have ma : lsum ra ≤ 1099511627776 := lsum_fv a2.1
  refine Ev.bind a3 ?_
  simp only [na, ma, if_true]
  obtain ⟨u, u1, u2, u3⟩ := span_Union_ev a b (by omega)
  obtain ⟨ru, _, v2, v3⟩ := span_Length_ev u (by omega)
  have cu := lsum_span (v2.congr (W' := fun t => Mem a t ∨ Mem b t) fun t h0 h1 => (u2.2 t).trans ⟨fun h => h.2, fun h => ⟨⟨h0, h1⟩, h⟩⟩) n hn
  obtain ⟨d, d1, d2, d3⟩ := span_Intersect_ev a b (by omega)
  obtain ⟨rd, _, e2, e3⟩ := span_Length_ev d (by omega)
  have cd := lsum_span (e2.congr (W' := fun t => Mem a t ∧ Mem b t) fun t h0 h1 => (d2.2 t).trans ⟨fun h => h.2, fun h => ⟨⟨h0, h1⟩, h⟩⟩) n hn
  obtain ⟨rb, b1, b2, b3⟩ := span_Length_ev b (by omega)
  have cb := lsum_span b2 n hn
  have hsum : lsum ru + lsum rd = lsum ra + lsum rb := by rw [cu, cd, ca, cb]; exact cnt_or_and _ _ n
  refine Ev.bind u1 (Ev.bind v3 (Ev.bind d1 (Ev.bind e3 (Ev.bind b3 ?_))))
  simp only [hsum, if_true]
  obtain ⟨x, x1, x2, x3⟩ := span_Subtract_ev a b (by omega)
  obtain ⟨rx, _, y2, y3⟩ := span_Length_ev x (by omega)
  have cx := lsum_span (y2.congr (W' := fun t => Mem a t ∧ ¬ Mem b t) fun t h0 h1 => (x2.2 t).trans ⟨fun h => h.2, fun h => ⟨⟨h0, h1⟩, h⟩⟩) n hn
  have hdiff : lsum rx = lsum ra - lsum rd := by rw [cx, ca, cd]; exact cnt_and_not _ _ n
  have nd : 0 ≤ lsum rd := lsum_nonneg rd e2.1.1
  have md : lsum rd ≤ 1099511627776 := lsum_fv e2.1
  have hw : lsum rx = wrap64 (lsum ra - lsum rd) := by rw [w64 (by omega) (by omega)]; exact hdiff
  refine Ev.bind x1 (Ev.bind y3 (Ev.bind d1 (Ev.bind e3 ?_)))
  simp only [← hw, if_true]
  refine Ev.bind a1 ?_
  simp only [lsum_zero a2.1, if_true]
  exact awakes
theorem SpanLengths_ev (a b : List S33) : Ev (fun k => bitemporallaw03_SpanLengths.f k a b) true := by
  have long : Ev (fun k => bitemporallaw03_SpanLengths.j0 k a b true) true := by
    refine Ev.step' ?_
    simp only [bitemporallaw03_SpanLengths.j0, if_true]
    exact awakes
  simp only [bitemporallaw03_SpanLengths.f]
  by_cases ha : (a.length : Int) > 30
  · simp only [ha, if_true]
    exact long
  · simp only [ha, if_false]
    by_cases hb : (b.length : Int) > 30
    · simp only [hb, decide_true]
      exact long
    · simp only [hb, decide_false]
      exact SpanLengths_short a b (long_of ha) (long_of hb)
theorem SpanLengths_pure (a b : List S33) : ∃ k, bitemporallaw03_SpanLengths.f k a b = some true := (SpanLengths_ev a b).rounds
end Go.Proofs.Ytdcelpppgbmlaaa.P
