/- Plain law: the example that every law of package bitemporallaw03 ends with answers true. No condition. -/
import Derived.Test.YtdcelpppgbmlaaaUMPts
import Derived.Test.YtdcelpppgbmlaaaUMLen
import Derived.Test.YtdcelpppgbmlaaaUPLaw03a
namespace Go.Proofs.Ytdcelpppgbmlaaa.P
open Go.RowKit Go.Proofs.YtdcelpppgbmlaaaW.PrintWords Go.Proofs.YtdcelpppgbmlaaaW.PrintMore
set_option linter.unusedSimpArgs false
set_option linter.unusedVariables false
theorem row_ev {a : List Int} {r : List S33} (h : bitemporallaw03_row.f 100 a = some r) : Ev (fun k => bitemporallaw03_row.f k a) r := Ev.of (bitemporallaw03_row.mono a) h
theorem awakeSlices_ev : Ev (fun k => span_Slices.f k [⟨5, 8⟩, ⟨0, 5⟩, ⟨2, 3⟩]) [⟨0, 2⟩, ⟨2, 3⟩, ⟨3, 5⟩, ⟨5, 8⟩] := by
  have := span_Slices_ev [⟨5, 8⟩, ⟨0, 5⟩, ⟨2, 3⟩] (by decide)
  rwa [show slc [⟨5, 8⟩, ⟨0, 5⟩, ⟨2, 3⟩] (pts [⟨5, 8⟩, ⟨0, 5⟩, ⟨2, 3⟩] []) = [⟨0, 2⟩, ⟨2, 3⟩, ⟨3, 5⟩, ⟨5, 8⟩] by kernel_rfl] at this
theorem awakePoints_ev : Ev (fun k => span_Points.f k [⟨5, 8⟩, ⟨0, 5⟩, ⟨2, 3⟩]) [0, 2, 3, 5, 8] := by
  have := span_Points_ev [⟨5, 8⟩, ⟨0, 5⟩, ⟨2, 3⟩] (by decide)
  rwa [show pts [⟨5, 8⟩, ⟨0, 5⟩, ⟨2, 3⟩] [] = [0, 2, 3, 5, 8] by kernel_rfl] at this
theorem awake_ev : Ev (fun k => bitemporallaw03_awake.f k) true := by
  simp only [bitemporallaw03_awake.f]
  refine Ev.bind (row_ev (r := [⟨5, 8⟩, ⟨0, 5⟩, ⟨2, 3⟩]) (by kernel_rfl)) ?_
  refine Ev.bind (row_ev (r := [⟨0, 3⟩, ⟨6, 8⟩]) (by kernel_rfl)) ?_
  refine Ev.bind (Ev.of (k := 100) (r := (6, true)) (span_Next.mono [⟨0, 3⟩, ⟨6, 8⟩] 4) (by kernel_rfl)) ?_
  refine Ev.bind (Ev.of (k := 100) (r := [⟨0, 8⟩]) (span_Of.mono [⟨5, 8⟩, ⟨0, 5⟩, ⟨2, 3⟩]) (by kernel_rfl)) ?_
  refine Ev.bind (row_ev (r := [⟨0, 8⟩]) (by kernel_rfl)) ?_
  refine Ev.bind (Same_ev [⟨0, 8⟩] (by decide)) ?_
  simp only [eq_self, if_true]
  refine Ev.bind awakeSlices_ev ?_
  refine Ev.bind (row_ev (r := [⟨0, 2⟩, ⟨2, 3⟩, ⟨3, 5⟩, ⟨5, 8⟩]) (by kernel_rfl)) ?_
  refine Ev.bind (Same_ev [⟨0, 2⟩, ⟨2, 3⟩, ⟨3, 5⟩, ⟨5, 8⟩] (by decide)) ?_
  simp only [eq_self, if_true]
  refine Ev.bind awakePoints_ev ?_
  refine Ev.bind (SameInts_ev [0, 2, 3, 5, 8] (by decide)) ?_
  simp only [eq_self, if_true]
  refine Ev.bind (row_ev (r := [⟨0, 8⟩]) (by kernel_rfl)) ?_
  refine Ev.bind (row_ev (r := [⟨4, 6⟩]) (by kernel_rfl)) ?_
  refine Ev.bind (Ev.of (k := 100) (r := [⟨0, 4⟩, ⟨6, 8⟩]) (span_Subtract.mono [⟨0, 8⟩] [⟨4, 6⟩]) (by kernel_rfl)) ?_
  refine Ev.bind (row_ev (r := [⟨0, 4⟩, ⟨6, 8⟩]) (by kernel_rfl)) ?_
  refine Ev.bind (Same_ev [⟨0, 4⟩, ⟨6, 8⟩] (by decide)) ?_
  simp only [eq_self, if_true]
  refine Ev.bind (row_ev (r := [⟨4, 1099511627776⟩]) (by kernel_rfl)) ?_
  refine Ev.bind (Ev.of (k := 100) (r := [⟨0, 4⟩]) (span_Complement.mono [⟨4, 1099511627776⟩]) (by kernel_rfl)) ?_
  refine Ev.bind (row_ev (r := [⟨0, 4⟩]) (by kernel_rfl)) ?_
  refine Ev.bind (Same_ev [⟨0, 4⟩] (by decide)) ?_
  simp only [eq_self, if_true]
  refine Ev.bind (row_ev (r := [⟨0, 3⟩, ⟨2, 5⟩]) (by kernel_rfl)) ?_
  refine Ev.bind (Ev.of (k := 100) (r := 5) (span_Length.mono [⟨0, 3⟩, ⟨2, 5⟩]) (by kernel_rfl)) ?_
  simp only [eq_self, if_true]
  exact Ev.now _
theorem awakes : Ev (fun k => (bitemporallaw03_awake.f k).bind fun t => some t) true := bind_self awake_ev
theorem long_of {n : Nat} (h : ¬ ((n : Int) > 30)) : n < 31 := by omega
theorem slc_length (l : List S33) : ∀ P : List Int, (slc l P).length ≤ P.length := by
  intro P
  induction P with
  | nil => simp [slc]
  | cons a P ih =>
    cases P with
    | nil => simp [slc]
    | cons b P =>
      rw [slc]
      split
      · simp only [List.length_cons] at ih ⊢; omega
      · simp only [List.length_cons] at ih ⊢; omega
end Go.Proofs.Ytdcelpppgbmlaaa.P
