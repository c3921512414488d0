/- The arguments of the statements on package region: lists of rectangles, a rectangle. No condition. -/
import Derived.Test.YtdcelpppgbmlaaaZEOpen33
import Derived.WideShapes
namespace Go.Proofs.Ytdcelpppgbmlaaa.P
open Go.RowKit Go.WideShapes Go.Proofs.YtdcelpppgbmlaaaW.PrintWords
instance : Inhabited S41 := ⟨z41⟩
theorem opens41 : Opens Try.prog k41 41 :=
  opens_iso (fun x => ⟨x.1, x.2⟩) (fun _ => rfl) (opens_struct2 Try.underlying41 (by kernel_rfl) rfl rfl (by kernel_rfl) (by kernel_rfl) opens33 opens33)
theorem opens58 {H : Type} {enc : TypeId × Value → H} {w : World} {base : Nat} {spare : Nat → Bool} {held : Bool} {v : Value} {d : DataW H} {ps : List MemPlace} (h : DataW.Trod enc Try.prog w base spare held 58 v d ps) :
    ∃ (A : Option Addr) (c : Nat) (l : List S41), v.cells.toList = [.slice A l.length c] ∧ l.length ≤ c ∧ k41.C w A l.length l := by
  obtain ⟨fuel, hf⟩ := h
  exact opens_row Try.underlying58 (by kernel_rfl) opens41 hf
end Go.Proofs.Ytdcelpppgbmlaaa.P
