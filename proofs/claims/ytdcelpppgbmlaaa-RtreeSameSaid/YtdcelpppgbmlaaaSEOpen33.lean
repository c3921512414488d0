/- The arguments of the statements on package span: lists of periods. No condition. -/
import Derived.Test.YtdcelpppgbmlaaaSEOpen
import Derived.Test.YtdcelpppgbmlaaaSP0
namespace Go.Proofs.Ytdcelpppgbmlaaa.P
open Go.RowKit Go.Proofs.YtdcelpppgbmlaaaW.PrintWords
instance : Inhabited S33 := ⟨z33⟩
theorem opens33 : Opens Try.prog k33 33 :=
  opens_iso (fun x => ⟨x.1, x.2⟩) (fun _ => rfl) (opens_struct2 Try.underlying33 (by kernel_rfl) rfl rfl (by kernel_rfl) (by kernel_rfl) (opens_int Try.underlying3) (opens_int Try.underlying3))
end Go.Proofs.Ytdcelpppgbmlaaa.P
