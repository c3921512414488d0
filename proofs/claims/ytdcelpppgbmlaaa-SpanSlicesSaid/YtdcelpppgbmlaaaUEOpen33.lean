/- The arguments of the statements on package span: lists of periods. No condition. -/
import Derived.Test.YtdcelpppgbmlaaaUEOpen
import Derived.Test.YtdcelpppgbmlaaaUP0
namespace Go.Proofs.Ytdcelpppgbmlaaa.P
open Go.RowKit Go.Proofs.YtdcelpppgbmlaaaW.PrintWords
instance : Inhabited S33 := ⟨z33⟩
theorem opens33 : Opens Try.prog k33 33 :=
  opens_iso (fun x => ⟨x.1, x.2⟩) (fun _ => rfl) (opens_struct2 Try.underlying33 (by kernel_rfl) rfl rfl (by kernel_rfl) (by kernel_rfl) (opens_int Try.underlying3) (opens_int Try.underlying3))
theorem opens22 {H : Type} {enc : TypeId × Value → H} {w : World} {base : Nat} {spare : Nat → Bool} {held : Bool} {v : Value} {d : DataW H} {ps : List MemPlace} (h : DataW.Trod enc Try.prog w base spare held 22 v d ps) :
    ∃ (A : Option Addr) (c : Nat) (l : List S33), v.cells.toList = [.slice A l.length c] ∧ l.length ≤ c ∧ k33.C w A l.length l := by
  obtain ⟨fuel, hf⟩ := h
  exact opens_row Try.underlying22 (by kernel_rfl) opens33 hf
end Go.Proofs.Ytdcelpppgbmlaaa.P
