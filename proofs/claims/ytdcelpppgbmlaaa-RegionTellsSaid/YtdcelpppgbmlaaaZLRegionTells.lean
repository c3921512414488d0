/- Plain law: the law RegionTells answers true, whatever it is given. No condition. -/
import Derived.Test.YtdcelpppgbmlaaaZMAll
import Derived.Test.YtdcelpppgbmlaaaZPLaw05b
namespace Go.Proofs.Ytdcelpppgbmlaaa.P
open Go.RowKit Go.Proofs.YtdcelpppgbmlaaaW.PrintWords Go.Proofs.YtdcelpppgbmlaaaW.PrintMore
set_option linter.unusedSimpArgs false
set_option linter.unusedVariables false
theorem RegionTells_ev (l : List S41) (v s : Int) : Ev (fun k => L05_RegionTells.f k l v s) true := by
  simp only [L05_RegionTells.f]
  by_cases hl : (l.length : Int) > 12
  · simp only [hl, if_true]
    exact awakes5
  · have hl' := long_of12 hl
    simp only [hl, if_false]
    obtain ⟨e, e1, e2⟩ := Valids_ev l (by omega)
    refine Ev.bind e1 (Ev.bind e2 ?_)
    simp only [beq_self_eq_true, if_true]
    refine Ev.bind (region_Contains_ev l v s (by omega)) (Ev.bind (ref05_Contains_ev l v s (by omega)) ?_)
    simp only [beq_self_eq_true, if_true]
    obtain ⟨x, x1, x1', x2, x3⟩ := (region_Slice_ev l s (by omega)).same (ref05_Slice_ev l s (by omega))
    refine Ev.bind x1 (Ev.bind x1' (Ev.bind (Same_ev x (by omega)) ?_))
    simp only [eq_self, if_true]
    obtain ⟨y, y1, y1', y2, y3⟩ := (region_Section_ev l v (by omega)).same (ref05_Section_ev l v (by omega))
    refine Ev.bind y1 (Ev.bind y1' (Ev.bind (Same_ev y (by omega)) ?_))
    simp only [eq_self, if_true]
    exact awakes5
theorem RegionTells_pure (l : List S41) (v s : Int) : ∃ k, L05_RegionTells.f k l v s = some true := (RegionTells_ev l v s).rounds
end Go.Proofs.Ytdcelpppgbmlaaa.P
