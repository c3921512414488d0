/- Plain law: the law RegionSlices answers true, whatever it is given. No condition. -/
import Derived.Test.YtdcelpppgbmlaaaXMAll
import Derived.Test.YtdcelpppgbmlaaaXPLaw05e
namespace Go.Proofs.Ytdcelpppgbmlaaa.P
open Go.RowKit Go.Proofs.YtdcelpppgbmlaaaW.PrintWords Go.Proofs.YtdcelpppgbmlaaaW.PrintMore
set_option linter.unusedSimpArgs false
set_option linter.unusedVariables false
theorem span_mem5 {W : Int → Prop} {r : List S33} (h : IsSpan W r) {t : Int} (h0 : 0 ≤ t) (h1 : t < FV) : Mem r t ↔ W t := (h.2 t).trans ⟨fun h => h.2, fun h => ⟨⟨h0, h1⟩, h⟩⟩
theorem RegionSlices_sec (a b : List S41) (t : Int) (ha : a.length < 13) (hb : b.length < 13) {u i d : List S41} (hu : u.length < 2400) (hi : i.length < 2400) (hd : d.length < 2400)
    (mu : ∀ v s, MemR u v s ↔ MemR a v s ∨ MemR b v s) (mi : ∀ v s, MemR i v s ↔ MemR a v s ∧ MemR b v s) (md : ∀ v s, MemR d v s ↔ MemR a v s ∧ ¬ MemR b v s) : Ev (fun k => bitemporallaw05_RegionSlices.j1 k a b t u i d false) true := by
  refine Ev.step' ?_
  simp only [bitemporallaw05_RegionSlices.j1, Bool.false_eq_true, if_false]
  obtain ⟨x, x1, x2, x3⟩ := region_Section_ev a t (by omega)
  obtain ⟨y, y1, y2, y3⟩ := region_Section_ev b t (by omega)
  obtain ⟨p, p1, p1', p2, p3⟩ := (region_Section_ev u t (by omega)).same ((ref03_Union_ev x y (by omega)).mono (fun s h0 h1 => by rw [span_mem5 x2 h0 h1, span_mem5 y2 h0 h1, mu]) (Nat.le_refl _))
  refine Ev.bind x1 (Ev.bind y1 (Ev.bind p1 (Ev.bind p1' (Ev.bind (Same_ev p (by omega)) ?_))))
  simp only [eq_self, if_true]
  obtain ⟨q, q1, q1', q2, q3⟩ := (region_Section_ev i t (by omega)).same ((ref03_Intersect_ev x y (by omega)).mono (fun s h0 h1 => by rw [span_mem5 x2 h0 h1, span_mem5 y2 h0 h1, mi]) (Nat.le_refl _))
  refine Ev.bind q1 (Ev.bind q1' (Ev.bind (Same_ev q (by omega)) ?_))
  simp only [eq_self, if_true]
  obtain ⟨r, r1, r1', r2, r3⟩ := (region_Section_ev d t (by omega)).same ((ref03_Subtract_ev x y (by omega)).mono (fun s h0 h1 => by rw [span_mem5 x2 h0 h1, span_mem5 y2 h0 h1, md]) (Nat.le_refl _))
  refine Ev.bind r1 (Ev.bind r1' (Ev.bind (Same_ev r (by omega)) ?_))
  simp only [eq_self, if_true]
  exact awakes5
theorem RegionSlices_short (a b : List S41) (t : Int) (ha : a.length < 13) (hb : b.length < 13) : Ev (fun k => bitemporallaw05_RegionSlices.j0 k a b t false) true := by
  refine Ev.step' ?_
  simp only [bitemporallaw05_RegionSlices.j0, Bool.false_eq_true, if_false]
  obtain ⟨u, u1, u2, u3⟩ := region_Union_ev a b (by omega)
  obtain ⟨i, i1, i2, i3⟩ := region_Intersect_ev a b (by omega)
  obtain ⟨d, d1, d2, d3⟩ := region_Subtract_ev a b (by omega)
  have hu := regMax24 u3 (by omega)
  have hi := regMax24 i3 (by omega)
  have hd := regMax24 d3 (by omega)
  have mu : ∀ v s, MemR u v s ↔ MemR a v s ∨ MemR b v s := fun v s => (u2.mem v s).trans ⟨fun x => x.2, fun x => ⟨x.elim MemR_range MemR_range, x⟩⟩
  have mi : ∀ v s, MemR i v s ↔ MemR a v s ∧ MemR b v s := fun v s => (i2.mem v s).trans ⟨fun x => x.2, fun x => ⟨MemR_range x.1, x⟩⟩
  have md : ∀ v s, MemR d v s ↔ MemR a v s ∧ ¬ MemR b v s := fun v s => (d2.mem v s).trans ⟨fun x => x.2, fun x => ⟨MemR_range x.1, x⟩⟩
  obtain ⟨x, x1, x2, x3⟩ := region_Slice_ev a t (by omega)
  obtain ⟨y, y1, y2, y3⟩ := region_Slice_ev b t (by omega)
  refine Ev.bind u1 (Ev.bind i1 (Ev.bind d1 (Ev.bind x1 (Ev.bind y1 ?_))))
  obtain ⟨p, p1, p1', p2, p3⟩ := (region_Slice_ev u t (by omega)).same ((ref03_Union_ev x y (by omega)).mono (fun s h0 h1 => by rw [span_mem5 x2 h0 h1, span_mem5 y2 h0 h1, mu]) (Nat.le_refl _))
  refine Ev.bind p1 (Ev.bind p1' (Ev.bind (Same_ev p (by omega)) ?_))
  simp only [eq_self, if_true]
  obtain ⟨q, q1, q1', q2, q3⟩ := (region_Slice_ev i t (by omega)).same ((ref03_Intersect_ev x y (by omega)).mono (fun s h0 h1 => by rw [span_mem5 x2 h0 h1, span_mem5 y2 h0 h1, mi]) (Nat.le_refl _))
  refine Ev.bind q1 (Ev.bind q1' (Ev.bind (Same_ev q (by omega)) ?_))
  simp only [eq_self, if_true]
  obtain ⟨r, r1, r1', r2, r3⟩ := (region_Slice_ev d t (by omega)).same ((ref03_Subtract_ev x y (by omega)).mono (fun s h0 h1 => by rw [span_mem5 x2 h0 h1, span_mem5 y2 h0 h1, md]) (Nat.le_refl _))
  refine Ev.bind r1 (Ev.bind r1' (Ev.bind (Same_ev r (by omega)) ?_))
  exact RegionSlices_sec a b t ha hb hu hi hd mu mi md
theorem RegionSlices_ev (a b : List S41) (t : Int) : Ev (fun k => bitemporallaw05_RegionSlices.f k a b t) true := by
  have long : Ev (fun k => bitemporallaw05_RegionSlices.j0 k a b t true) true := by
    refine Ev.step' ?_
    simp only [bitemporallaw05_RegionSlices.j0, if_true]
    exact awakes5
  simp only [bitemporallaw05_RegionSlices.f]
  by_cases ha : (a.length : Int) > 12
  · simp only [ha, if_true]
    exact long
  · simp only [ha, if_false]
    by_cases hb : (b.length : Int) > 12
    · simp only [hb, decide_true]
      exact long
    · simp only [hb, decide_false]
      exact RegionSlices_short a b t (long_of12 ha) (long_of12 hb)
theorem RegionSlices_pure (a b : List S41) (t : Int) : ∃ k, bitemporallaw05_RegionSlices.f k a b t = some true := (RegionSlices_ev a b t).rounds
end Go.Proofs.Ytdcelpppgbmlaaa.P
