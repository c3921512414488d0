/- Plain law: the law SpanAlgebra answers true, whatever it is given. No condition. -/
import Derived.Test.YtdcelpppgbmlaaaVLAwake
import Derived.Test.YtdcelpppgbmlaaaVPLaw03e
namespace Go.Proofs.Ytdcelpppgbmlaaa.P
open Go.RowKit Go.Proofs.YtdcelpppgbmlaaaW.PrintWords Go.Proofs.YtdcelpppgbmlaaaW.PrintMore
set_option linter.unusedSimpArgs false
set_option linter.unusedVariables false
theorem span_mem {W : Int → Prop} {r : List S33} (h : IsSpan W r) {t : Int} (h0 : 0 ≤ t) (h1 : t < FV) : Mem r t ↔ W t := (h.2 t).trans ⟨fun h => h.2, fun h => ⟨⟨h0, h1⟩, h⟩⟩
theorem SpanAlgebra_short (a b c : List S33) (ha : a.length < 31) (hb : b.length < 31) (hc : c.length < 31) : Ev (fun k => bitemporallaw03_SpanAlgebra.j0 k a b c false) true := by
  refine Ev.step' ?_
  simp only [bitemporallaw03_SpanAlgebra.j0, Bool.false_eq_true, if_false]
  obtain ⟨u, u1, u1', u2, u3⟩ := (span_Union_ev a b (by omega)).same ((span_Union_ev b a (by omega)).mono (fun t _ _ => or_comm) (Nat.le_refl _))
  obtain ⟨d, d1, d1', d2, d3⟩ := (span_Intersect_ev a b (by omega)).same ((span_Intersect_ev b a (by omega)).mono (fun t _ _ => and_comm) (Nat.le_refl _))
  obtain ⟨na, na1, na2, na3⟩ := span_Complement_ev a (by omega)
  obtain ⟨nb, nb1, nb2, nb3⟩ := span_Complement_ev b (by omega)
  refine Ev.bind u1 (Ev.bind d1 (Ev.bind u1' (Ev.bind (Same_ev u (by omega)) ?_)))
  simp only [eq_self, if_true]
  refine Ev.bind d1' (Ev.bind (Same_ev d (by omega)) ?_)
  simp only [eq_self, if_true]
  obtain ⟨nu, nu1, nu1', nu2, nu3⟩ := (span_Complement_ev u (by omega)).same ((span_Intersect_ev na nb (by omega)).mono (fun t h0 h1 => by rw [span_mem na2 h0 h1, span_mem nb2 h0 h1, span_mem u2 h0 h1, not_or]) (Nat.le_refl _))
  refine Ev.bind nu1 (Ev.bind na1 (Ev.bind nb1 (Ev.bind nu1' (Ev.bind (Same_ev nu (by omega)) ?_))))
  simp only [Bool.not_true]
  refine Ev.step' ?_
  simp only [bitemporallaw03_SpanAlgebra.j1, Bool.false_eq_true, if_false]
  obtain ⟨x, x1, x1', x2, x3⟩ := (span_Subtract_ev a b (by omega)).same ((span_Intersect_ev a nb (by omega)).mono (fun t h0 h1 => by rw [span_mem nb2 h0 h1]) (Nat.le_refl _))
  refine Ev.bind x1 (Ev.bind nb1 (Ev.bind x1' (Ev.bind (Same_ev x (by omega)) ?_)))
  simp only [eq_self, if_true]
  obtain ⟨v, v1, v1', v2, v3⟩ := ((span_Complement_ev na (by omega)).mono (W' := Mem a) (fun t h0 h1 => by rw [span_mem na2 h0 h1]; exact Classical.not_not) (Nat.le_refl _)).same (span_Of_ev a (by omega))
  refine Ev.bind na1 (Ev.bind v1 (Ev.bind v1' (Ev.bind (Same_ev v (by omega)) ?_)))
  simp only [Bool.not_true]
  refine Ev.step' ?_
  simp only [bitemporallaw03_SpanAlgebra.j2, Bool.false_eq_true, if_false]
  obtain ⟨ac, ac1, ac2, ac3⟩ := span_Intersect_ev a c (by omega)
  obtain ⟨bc, bc1, bc2, bc3⟩ := span_Intersect_ev b c (by omega)
  obtain ⟨w, w1, w1', w2, w3⟩ := (span_Intersect_ev u c (by omega)).same ((span_Union_ev ac bc (by omega)).mono (fun t h0 h1 => by rw [span_mem ac2 h0 h1, span_mem bc2 h0 h1, span_mem u2 h0 h1, or_and_right]) (Nat.le_refl _))
  refine Ev.bind w1 (Ev.bind ac1 (Ev.bind bc1 (Ev.bind w1' (Ev.bind (Same_ev w (by omega)) ?_))))
  simp only [eq_self, if_true]
  obtain ⟨e, e1, e2, e3⟩ := span_Union_ev b c (by omega)
  obtain ⟨z, z1, z1', z2, z3⟩ := (span_Union_ev u c (by omega)).same ((span_Union_ev a e (by omega)).mono (fun t h0 h1 => by rw [span_mem e2 h0 h1, span_mem u2 h0 h1, or_assoc]) (Nat.le_refl _))
  refine Ev.bind z1 (Ev.bind e1 (Ev.bind z1' (Ev.bind (Same_ev z (by omega)) ?_)))
  simp only [eq_self, if_true]
  obtain ⟨p, p1, p2⟩ := span_Covers_ev a d (by omega)
  obtain rfl : p = true := p2.2 fun t ht => ((d2.2 t).1 ht).2.1
  refine Ev.bind p1 ?_
  simp only [eq_self, if_true]
  obtain ⟨q, q1, q2⟩ := span_Covers_ev u a (by omega)
  obtain rfl : q = true := q2.2 fun t ht => (u2.2 t).2 ⟨Mem_range ht, .inl ht⟩
  refine Ev.bind q1 ?_
  simp only [eq_self, if_true]
  exact awakes
theorem SpanAlgebra_ev (a b c : List S33) : Ev (fun k => bitemporallaw03_SpanAlgebra.f k a b c) true := by
  have long : Ev (fun k => bitemporallaw03_SpanAlgebra.j0 k a b c true) true := by
    refine Ev.step' ?_
    simp only [bitemporallaw03_SpanAlgebra.j0, if_true]
    exact awakes
  simp only [bitemporallaw03_SpanAlgebra.f]
  by_cases ha : (a.length : Int) > 30
  · simp only [ha, if_true]
    exact long
  · simp only [ha, if_false]
    by_cases hb : (b.length : Int) > 30
    · simp only [hb, if_true]
      exact long
    · simp only [hb, if_false]
      by_cases hc : (c.length : Int) > 30
      · simp only [hc, decide_true]
        exact long
      · simp only [hc, decide_false]
        exact SpanAlgebra_short a b c (long_of ha) (long_of hb) (long_of hc)
theorem SpanAlgebra_pure (a b c : List S33) : ∃ k, bitemporallaw03_SpanAlgebra.f k a b c = some true := (SpanAlgebra_ev a b c).rounds
end Go.Proofs.Ytdcelpppgbmlaaa.P
