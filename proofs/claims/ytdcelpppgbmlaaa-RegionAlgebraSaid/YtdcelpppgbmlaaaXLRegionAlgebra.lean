/- Plain law: the law RegionAlgebra answers true, whatever it is given. No condition. -/
import Derived.Test.YtdcelpppgbmlaaaXMAll
import Derived.Test.YtdcelpppgbmlaaaXPLaw05d
namespace Go.Proofs.Ytdcelpppgbmlaaa.P
open Go.RowKit Go.Proofs.YtdcelpppgbmlaaaW.PrintWords Go.Proofs.YtdcelpppgbmlaaaW.PrintMore
set_option linter.unusedSimpArgs false
set_option linter.unusedVariables false
theorem RegionAlgebra_short (a b c : List S41) (ha : a.length < 13) (hb : b.length < 13) (hc : c.length < 13) : Ev (fun k => bitemporallaw05_RegionAlgebra.j0 k a b c false) true := by
  refine Ev.step' ?_
  simp only [bitemporallaw05_RegionAlgebra.j0, Bool.false_eq_true, if_false]
  obtain ⟨u, u1, u1', u2, u3⟩ := (region_Union_ev a b (by omega)).same ((region_Union_ev b a (by omega)).mono (fun v s _ _ _ _ => or_comm) (Nat.le_refl _))
  obtain ⟨i, i1, i1', i2, i3⟩ := (region_Intersect_ev a b (by omega)).same ((region_Intersect_ev b a (by omega)).mono (fun v s _ _ _ _ => and_comm) (Nat.le_refl _))
  obtain ⟨d, d1, d2, d3⟩ := region_Subtract_ev a b (by omega)
  have hu := regMax24 u3 (by omega)
  have hi := regMax24 i3 (by omega)
  have hd := regMax24 d3 (by omega)
  have mu : ∀ v s, MemR u v s ↔ MemR a v s ∨ MemR b v s := fun v s => (u2.mem v s).trans ⟨fun x => x.2, fun x => ⟨x.elim MemR_range MemR_range, x⟩⟩
  have mi : ∀ v s, MemR i v s ↔ MemR a v s ∧ MemR b v s := fun v s => (i2.mem v s).trans ⟨fun x => x.2, fun x => ⟨MemR_range x.1, x⟩⟩
  have md : ∀ v s, MemR d v s ↔ MemR a v s ∧ ¬ MemR b v s := fun v s => (d2.mem v s).trans ⟨fun x => x.2, fun x => ⟨MemR_range x.1, x⟩⟩
  refine Ev.bind u1 (Ev.bind i1 (Ev.bind u1' (Ev.bind (Same41s u (by omega)) ?_)))
  simp only [eq_self, if_true]
  refine Ev.bind i1' (Ev.bind (Same41s i (by omega)) ?_)
  simp only [eq_self, if_true]
  obtain ⟨o, o1, o1', o2, o3⟩ := (region_Of_ev a (by omega)).same ((region_Union_ev d i (by omega)).mono (fun v s _ _ _ _ => by rw [md, mi]; by_cases x : MemR b v s <;> simp [x]) (Nat.le_refl _))
  have ho := regMax24 o3 (by omega)
  refine Ev.bind d1 (Ev.bind o1' (Ev.bind o1 (Ev.bind (Same41s o (by omega)) ?_)))
  refine Ev.step' ?_
  simp only [bitemporallaw05_RegionAlgebra.j1, Bool.not_true, Bool.false_eq_true, if_false]
  obtain ⟨bc, bc1, bc2, bc3⟩ := region_Union_ev b c (by omega)
  have hbc := regMax24 bc3 (by omega)
  have mbc : ∀ v s, MemR bc v s ↔ MemR b v s ∨ MemR c v s := fun v s => (bc2.mem v s).trans ⟨fun x => x.2, fun x => ⟨x.elim MemR_range MemR_range, x⟩⟩
  obtain ⟨x, x1, x1', x2, x3⟩ := (region_Union_ev u c (by omega)).same ((region_Union_ev a bc (by omega)).mono (fun v s _ _ _ _ => by rw [mbc, mu, or_assoc]) (Nat.le_refl _))
  have hx := regMax_lt (show u.length + c.length < 10000 by omega)
  refine Ev.bind x1 (Ev.bind bc1 (Ev.bind x1' (Ev.bind (Same41_ev x (by omega)) ?_)))
  simp only [eq_self, if_true]
  obtain ⟨p, p1, p2, p3⟩ := region_Intersect_ev a c (by omega)
  obtain ⟨q, q1, q2, q3⟩ := region_Intersect_ev b c (by omega)
  have hp := regMax24 p3 (by omega)
  have hq := regMax24 q3 (by omega)
  have mp : ∀ v s, MemR p v s ↔ MemR a v s ∧ MemR c v s := fun v s => (p2.mem v s).trans ⟨fun x => x.2, fun x => ⟨MemR_range x.1, x⟩⟩
  have mq : ∀ v s, MemR q v s ↔ MemR b v s ∧ MemR c v s := fun v s => (q2.mem v s).trans ⟨fun x => x.2, fun x => ⟨MemR_range x.1, x⟩⟩
  obtain ⟨y, y1, y1', y2, y3⟩ := (region_Intersect_ev u c (by omega)).same ((region_Union_ev p q (by omega)).mono (fun v s _ _ _ _ => by rw [mp, mq, mu, or_and_right]) (Nat.le_refl _))
  have hy := regMax_lt (show u.length + c.length < 10000 by omega)
  refine Ev.bind y1 (Ev.bind p1 (Ev.bind q1 (Ev.bind y1' (Ev.bind (Same41_ev y (by omega)) ?_))))
  simp only [eq_self, if_true]
  exact awakes5
theorem RegionAlgebra_ev (a b c : List S41) : Ev (fun k => bitemporallaw05_RegionAlgebra.f k a b c) true := by
  have long : Ev (fun k => bitemporallaw05_RegionAlgebra.j0 k a b c true) true := by
    refine Ev.step' ?_
    simp only [bitemporallaw05_RegionAlgebra.j0, if_true]
    exact awakes5
  simp only [bitemporallaw05_RegionAlgebra.f]
  by_cases ha : (a.length : Int) > 12
  · simp only [ha, if_true]
    exact long
  · simp only [ha, if_false]
    by_cases hb : (b.length : Int) > 12
    · simp only [hb, if_true]
      exact long
    · simp only [hb, if_false]
      by_cases hc : (c.length : Int) > 12
      · simp only [hc, decide_true]
        exact long
      · simp only [hc, decide_false]
        exact RegionAlgebra_short a b c (long_of12 ha) (long_of12 hb) (long_of12 hc)
theorem RegionAlgebra_pure (a b c : List S41) : ∃ k, bitemporallaw05_RegionAlgebra.f k a b c = some true := (RegionAlgebra_ev a b c).rounds
end Go.Proofs.Ytdcelpppgbmlaaa.P
