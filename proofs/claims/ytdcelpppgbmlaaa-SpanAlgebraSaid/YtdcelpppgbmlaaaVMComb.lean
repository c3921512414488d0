/- Plain law: the reference's Join and combined: the span of a combination. No condition. -/
import Derived.Test.YtdcelpppgbmlaaaVMRef03
namespace Go.Proofs.Ytdcelpppgbmlaaa.P
open Go.RowKit Go.Proofs.YtdcelpppgbmlaaaW.PrintWords Go.Proofs.YtdcelpppgbmlaaaW.PrintMore
set_option linter.unusedSimpArgs false
set_option linter.unusedVariables false
theorem w64p (j : Nat) (h : j < 9223372036854775807) : wrap64 (((j + 1 : Nat) : Int) - 1) = (j : Int) := by rw [w64 (by omega) (by omega)]; omega
theorem last_cases {α : Type} (l : List α) : l = [] ∨ ∃ s p, l = s ++ [p] := by
  rcases List.eq_nil_or_concat l with h | ⟨s, p, h⟩
  · exact .inl h
  · exact .inr ⟨s, p, by simpa using h⟩
end Go.Proofs.Ytdcelpppgbmlaaa.P
