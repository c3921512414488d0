/- Plain law: the law RegionPoints answers true, whatever it is given. No condition. -/
import Derived.Test.YtdcelpppgbmlaaaXMAll
import Derived.Test.YtdcelpppgbmlaaaXPLaw05c
namespace Go.Proofs.Ytdcelpppgbmlaaa.P
open Go.RowKit Go.Proofs.YtdcelpppgbmlaaaW.PrintWords Go.Proofs.YtdcelpppgbmlaaaW.PrintMore
set_option linter.unusedSimpArgs false
set_option linter.unusedVariables false
theorem in_reg {W : Int → Int → Prop} {R : List S41} (h : IsReg W R) {v s : Int} (hw : W v s → (0 ≤ v ∧ v < FV) ∧ 0 ≤ s ∧ s < FV) : MemR R v s ↔ W v s :=
  (h.mem v s).trans ⟨fun x => x.2, fun x => ⟨hw x, x⟩⟩
theorem RegionPoints_short (a b : List S41) (v s : Int) (ha : a.length < 13) (hb : b.length < 13) : Ev (fun k => bitemporallaw05_RegionPoints.j0 k a b false v s) true := by
  refine Ev.step' ?_
  simp only [bitemporallaw05_RegionPoints.j0, Bool.false_eq_true, if_false]
  obtain ⟨x, x1, x2, x3⟩ := region_Union_ev a b (by omega)
  obtain ⟨y, y1, y2, y3⟩ := region_Intersect_ev a b (by omega)
  obtain ⟨z, z1, z2, z3⟩ := region_Subtract_ev a b (by omega)
  have hx := regMax24 x3 (by omega)
  have hy := regMax24 y3 (by omega)
  have hz := regMax24 z3 (by omega)
  have cx := region_Contains_ev x v s (by omega)
  have cy := region_Contains_ev y v s (by omega)
  have cz := region_Contains_ev z v s (by omega)
  rw [dec_eq (in_reg x2 (v := v) (s := s) fun h => h.elim MemR_range MemR_range)] at cx
  rw [dec_eq (in_reg y2 (v := v) (s := s) fun h => MemR_range h.1)] at cy
  rw [dec_eq (in_reg z2 (v := v) (s := s) fun h => MemR_range h.1)] at cz
  refine Ev.bind (ref05_Contains_ev a v s (by omega)) (Ev.bind (ref05_Contains_ev b v s (by omega)) (Ev.bind x1 (Ev.bind cx ?_)))
  by_cases ma : MemR a v s
  · by_cases mb : MemR b v s
    · simp only [ma, mb, or_self, and_self, not_true_eq_false, and_false, decide_true, decide_false, beq_self_eq_true, if_true] at cy cz ⊢
      refine Ev.bind y1 (Ev.bind cy ?_)
      simp only [beq_self_eq_true, if_true]
      refine Ev.bind z1 (Ev.bind cz ?_)
      simp only [Bool.not_true, beq_self_eq_true, if_true]
      exact awakes5
    · simp only [ma, mb, or_false, and_false, not_false_eq_true, and_self, decide_true, decide_false, beq_self_eq_true, if_true] at cy cz ⊢
      refine Ev.bind y1 (Ev.bind cy ?_)
      simp only [beq_self_eq_true, if_true]
      refine Ev.bind z1 (Ev.bind cz ?_)
      simp only [Bool.not_false, beq_self_eq_true, if_true]
      exact awakes5
  · by_cases mb : MemR b v s
    · simp only [ma, mb, false_or, false_and, decide_true, decide_false, Bool.false_eq_true, if_false, beq_self_eq_true, if_true] at cy cz ⊢
      refine Ev.bind y1 (Ev.bind cy ?_)
      simp only [beq_self_eq_true, if_true]
      refine Ev.bind z1 (Ev.bind cz ?_)
      simp only [beq_self_eq_true, if_true]
      exact awakes5
    · simp only [ma, mb, or_self, false_and, decide_false, Bool.false_eq_true, if_false, beq_self_eq_true, if_true] at cy cz ⊢
      refine Ev.bind y1 (Ev.bind cy ?_)
      simp only [beq_self_eq_true, if_true]
      refine Ev.bind z1 (Ev.bind cz ?_)
      simp only [beq_self_eq_true, if_true]
      exact awakes5
theorem RegionPoints_ev (a b : List S41) (v s : Int) : Ev (fun k => bitemporallaw05_RegionPoints.f k a b v s) true := by
  have long : Ev (fun k => bitemporallaw05_RegionPoints.j0 k a b true v s) true := by
    refine Ev.step' ?_
    simp only [bitemporallaw05_RegionPoints.j0, if_true]
    exact awakes5
  simp only [bitemporallaw05_RegionPoints.f]
  by_cases ha : (a.length : Int) > 12
  · simp only [ha, if_true]
    exact long
  · simp only [ha, if_false]
    by_cases hb : (b.length : Int) > 12
    · simp only [hb, decide_true]
      exact long
    · simp only [hb, decide_false]
      exact RegionPoints_short a b v s (long_of12 ha) (long_of12 hb)
theorem RegionPoints_pure (a b : List S41) (v s : Int) : ∃ k, bitemporallaw05_RegionPoints.f k a b v s = some true := (RegionPoints_ev a b v s).rounds
end Go.Proofs.Ytdcelpppgbmlaaa.P
