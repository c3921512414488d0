/- The reference's tree beside the code's: what both answer is one. No condition but that a list holds at most 200 boxes. -/
import Derived.Test.YtdcelpppgbmlaaaVEWorks31
namespace Go.Proofs.Ytdcelpppgbmlaaa.P
open Go.RowKit Go.Shelf Go.Proofs.YtdcelpppgbmlaaaW.PrintWords Go.Proofs.YtdcelpppgbmlaaaW.PrintLast Go.Proofs.YtdcelpppgbmlaaaW.PrintMore
set_option linter.unusedSimpArgs false
set_option linter.unusedVariables false
structure X31 where
  wd : Int
  bx : List S51
  root : S74
  dp : Nat
end Go.Proofs.Ytdcelpppgbmlaaa.P
