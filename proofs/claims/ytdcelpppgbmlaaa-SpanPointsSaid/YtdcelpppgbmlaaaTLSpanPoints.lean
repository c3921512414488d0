/- Plain law: the law SpanPoints answers true, whatever it is given. No condition. -/
import Derived.Test.YtdcelpppgbmlaaaTLAwake
import Derived.Test.YtdcelpppgbmlaaaTPLaw03f
namespace Go.Proofs.Ytdcelpppgbmlaaa.P
open Go.RowKit Go.Proofs.YtdcelpppgbmlaaaW.PrintWords Go.Proofs.YtdcelpppgbmlaaaW.PrintMore
set_option linter.unusedSimpArgs false
set_option linter.unusedVariables false
theorem Sp_valid {r : List S33} (h : Sp r) (hl : r.length < 1000000) : Ev (fun k => bitemporalref03_Valid.f k r) true := by
  have := ref03_Valid_ev r (by omega)
  rwa [vb_sp h] at this
theorem SpanPoints_last (t : Int) (A B : Bool) (u d x c : List S33) (hu : u.length < 1000000) (hd : d.length < 1000000) (hx : x.length < 1000000) (hc : c.length < 1000000)
    (eu : decide (Mem u t) = (A || B)) (ed : decide (Mem d t) = (A && B)) (ex : decide (Mem x t) = (A && !B)) (ec : decide (Mem c t) = (decide (0 ≤ t ∧ t < FV) && !A)) :
    Ev (fun k => bitemporallaw03_SpanPoints.j2 k t A B u d x c (decide (0 ≤ t ∧ t < FV))) true := by
  refine Ev.step' ?_
  have h1 := span_Contains_ev u t (by omega)
  have h2 := span_Contains_ev d t (by omega)
  have h3 := span_Contains_ev x t (by omega)
  have h4 := span_Contains_ev c t (by omega)
  rw [eu] at h1
  rw [ed] at h2
  rw [ex] at h3
  rw [ec] at h4
  simp only [bitemporallaw03_SpanPoints.j2]
  refine Ev.bind h1 ?_
  cases A with
  | true =>
    simp only [Bool.true_or, beq_self_eq_true, eq_self, if_true]
    refine Ev.bind h2 ?_
    simp only [Bool.true_and, beq_self_eq_true, eq_self, if_true]
    refine Ev.bind h3 ?_
    simp only [Bool.true_and, beq_self_eq_true, eq_self, if_true]
    refine Ev.bind h4 ?_
    cases decide (0 ≤ t ∧ t < FV)
    · simp only [Bool.false_and, beq_self_eq_true, Bool.false_eq_true, if_false, eq_self, if_true]
      exact awakes
    · simp only [Bool.true_and, Bool.not_true, beq_self_eq_true, eq_self, if_true]
      exact awakes
  | false =>
    simp only [Bool.false_or, beq_self_eq_true, Bool.false_eq_true, if_false, eq_self, if_true]
    refine Ev.bind h2 ?_
    simp only [Bool.false_and, beq_self_eq_true, eq_self, if_true]
    refine Ev.bind h3 ?_
    simp only [Bool.false_and, beq_self_eq_true, eq_self, if_true]
    refine Ev.bind h4 ?_
    cases decide (0 ≤ t ∧ t < FV)
    · simp only [Bool.false_and, beq_self_eq_true, Bool.false_eq_true, if_false, eq_self, if_true]
      exact awakes
    · simp only [Bool.true_and, Bool.not_false, beq_self_eq_true, eq_self, if_true]
      exact awakes
theorem SpanPoints_short (a b : List S33) (t : Int) (ha : a.length < 31) (hb : b.length < 31) : Ev (fun k => bitemporallaw03_SpanPoints.j0 k a b t false) true := by
  refine Ev.step' ?_
  simp only [bitemporallaw03_SpanPoints.j0, Bool.false_eq_true, if_false]
  refine Ev.bind (ref03_Contains_ev a t (by omega)) (Ev.bind (ref03_Contains_ev b t (by omega)) ?_)
  obtain ⟨u, u1, u2, u3⟩ := span_Union_ev a b (by omega)
  obtain ⟨d, d1, d2, d3⟩ := span_Intersect_ev a b (by omega)
  obtain ⟨x, x1, x2, x3⟩ := span_Subtract_ev a b (by omega)
  obtain ⟨c, c1, c2, c3⟩ := span_Complement_ev a (by omega)
  refine Ev.bind u1 (Ev.bind d1 (Ev.bind x1 (Ev.bind c1 (Ev.bind (Sp_valid u2.1 (by omega)) ?_))))
  simp only [eq_self, if_true]
  refine Ev.bind (Sp_valid d2.1 (by omega)) ?_
  simp only [eq_self, if_true]
  refine Ev.bind (Sp_valid x2.1 (by omega)) ?_
  simp only [eq_self, if_true]
  refine Ev.bind (Sp_valid c2.1 (by omega)) ?_
  simp only [Bool.not_true]
  refine Ev.step' ?_
  simp only [bitemporallaw03_SpanPoints.j1, Bool.false_eq_true, if_false]
  have key := SpanPoints_last t (decide (Mem a t)) (decide (Mem b t)) u d x c (by omega) (by omega) (by omega) (by omega)
    (by rw [← Bool.decide_or]; exact dec_eq ((u2.2 t).trans ⟨fun h => h.2, fun h => ⟨h.elim Mem_range Mem_range, h⟩⟩))
    (by rw [← Bool.decide_and]; exact dec_eq ((d2.2 t).trans ⟨fun h => h.2, fun h => ⟨Mem_range h.1, h⟩⟩))
    (by rw [← decide_not, ← Bool.decide_and]; exact dec_eq ((x2.2 t).trans ⟨fun h => h.2, fun h => ⟨Mem_range h.1, h⟩⟩))
    (by rw [← decide_not, ← Bool.decide_and]; exact dec_eq (c2.2 t))
  by_cases h0 : t ≥ 0
  · simp only [h0, if_true]
    rwa [dec_eq (show (0 ≤ t ∧ t < FV) ↔ t < 1099511627776 from ⟨fun h => h.2, fun h => ⟨h0, h⟩⟩)] at key
  · simp only [h0, if_false]
    rwa [decide_eq_false (show ¬ (0 ≤ t ∧ t < FV) from fun h => h0 h.1)] at key
theorem SpanPoints_ev (a b : List S33) (t : Int) : Ev (fun k => bitemporallaw03_SpanPoints.f k a b t) true := by
  have long : Ev (fun k => bitemporallaw03_SpanPoints.j0 k a b t true) true := by
    refine Ev.step' ?_
    simp only [bitemporallaw03_SpanPoints.j0, if_true]
    exact awakes
  simp only [bitemporallaw03_SpanPoints.f]
  by_cases ha : (a.length : Int) > 30
  · simp only [ha, if_true]
    exact long
  · simp only [ha, if_false]
    by_cases hb : (b.length : Int) > 30
    · simp only [hb, decide_true]
      exact long
    · simp only [hb, decide_false]
      exact SpanPoints_short a b t (long_of ha) (long_of hb)
theorem SpanPoints_pure (a b : List S33) (t : Int) : ∃ k, bitemporallaw03_SpanPoints.f k a b t = some true := (SpanPoints_ev a b t).rounds
end Go.Proofs.Ytdcelpppgbmlaaa.P
