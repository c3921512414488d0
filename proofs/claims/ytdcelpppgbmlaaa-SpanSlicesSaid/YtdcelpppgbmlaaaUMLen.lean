/- Plain law: Length and Next; the length of a span is the number of its instants. No condition. -/
import Derived.Test.YtdcelpppgbmlaaaUMTells
namespace Go.Proofs.Ytdcelpppgbmlaaa.P
open Go.RowKit Go.Proofs.YtdcelpppgbmlaaaW.PrintWords Go.Proofs.YtdcelpppgbmlaaaW.PrintMore
set_option linter.unusedSimpArgs false
set_option linter.unusedVariables false
open Classical in
noncomputable def cnt (W : Int → Prop) : Nat → Int
  | 0 => 0
  | n + 1 => cnt W n + (if W (n : Int) then 1 else 0)
end Go.Proofs.Ytdcelpppgbmlaaa.P
