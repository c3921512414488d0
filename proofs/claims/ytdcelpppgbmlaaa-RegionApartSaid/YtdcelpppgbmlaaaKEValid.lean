/- region.Valid. -/
import Derived.Test.YtdcelpppgbmlaaaKEComb
import Derived.Test.YtdcelpppgbmlaaaKPEq1
namespace Go.Proofs.Ytdcelpppgbmlaaa.P
set_option linter.unusedSimpArgs false
set_option linter.unusedVariables false
open Go.RowKit Go.Sort Go.Shelf Go.Proofs.YtdcelpppgbmlaaaW.PrintWords Go.Proofs.YtdcelpppgbmlaaaW.PrintLast Go.Proofs.YtdcelpppgbmlaaaW.PrintMore
attribute [local go_sem high] eqA41
instance decS33 : DecidableEq S33 := fun a b => decidable_of_iff (a.f0 = b.f0 ∧ a.f1 = b.f1) (by cases a; cases b; simp)
instance decS41 : DecidableEq S41 := fun a b => decidable_of_iff (a.f0 = b.f0 ∧ a.f1 = b.f1) (by cases a; cases b; simp)
end Go.Proofs.Ytdcelpppgbmlaaa.P
