/- bitemporalref31.Build. -/
import Derived.Test.YtdcelpppgbmlaaaSMAll
import Derived.Test.YtdcelpppgbmlaaaSP0
namespace Go.Proofs.Ytdcelpppgbmlaaa.P
set_option linter.unusedSimpArgs false
set_option linter.unusedVariables false
open Go.RowKit Go.Proofs.YtdcelpppgbmlaaaW.PrintWords Go.Proofs.YtdcelpppgbmlaaaW.PrintLast Go.Proofs.YtdcelpppgbmlaaaW.PrintMore
def treeP (wd : Nat) (l : List S51) : S74 × Nat := if orderedP l = [] then (z74, 0) else climbP wd (leavesP wd (orderedP l)).length (leavesP wd (orderedP l)) 1
end Go.Proofs.Ytdcelpppgbmlaaa.P
