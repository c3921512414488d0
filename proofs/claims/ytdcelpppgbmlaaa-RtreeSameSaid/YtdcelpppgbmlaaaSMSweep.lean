/- Plain law: what the program's edges and sweep compute: the span of a combination. No condition. -/
import Derived.Test.YtdcelpppgbmlaaaSMRef03
import Derived.Test.YtdcelpppgbmlaaaSP0
import Derived.Test.YtdcelpppgbmlaaaSESort
import Derived.Test.YtdcelpppgbmlaaaSPPeriod
namespace Go.Proofs.Ytdcelpppgbmlaaa.P
open Go.RowKit Go.Proofs.YtdcelpppgbmlaaaW.PrintWords Go.Proofs.YtdcelpppgbmlaaaW.PrintMore
set_option linter.unusedSimpArgs false
set_option linter.unusedVariables false
theorem pvalid_eq (a b : Int) : period_Valid.f a b = some (decide (Vld ⟨a, b⟩)) := valid_eq a b
def EdgeOk (e : S163) : Prop := (0 ≤ e.f0 ∧ e.f0 ≤ FV) ∧ (-1 ≤ e.f1 ∧ e.f1 ≤ 1) ∧ -1 ≤ e.f2 ∧ e.f2 ≤ 1
section
variable {K : Bool → Bool → Option Bool} {kb : Bool → Bool → Bool} (hK : ∀ x y, K x y = some (kb x y)) {E : List S163} (hE : ∀ e ∈ E, EdgeOk e) (hS : E.Pairwise (fun x y => x.f0 ≤ y.f0)) (hL : E.length < 100000000)
end
end Go.Proofs.Ytdcelpppgbmlaaa.P
