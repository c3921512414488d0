/- The arguments of the statements on package region: lists of rectangles, a rectangle. No condition. -/
import Derived.Test.YtdcelpppgbmlaaaXEOpen33
import Derived.WideShapes
namespace Go.Proofs.Ytdcelpppgbmlaaa.P
open Go.RowKit Go.WideShapes Go.Proofs.YtdcelpppgbmlaaaW.PrintWords
instance : Inhabited S41 := ⟨z41⟩
theorem opens41 : Opens Try.prog k41 41 :=
  opens_iso (fun x => ⟨x.1, x.2⟩) (fun _ => rfl) (opens_struct2 Try.underlying41 (by kernel_rfl) rfl rfl (by kernel_rfl) (by kernel_rfl) opens33 opens33)
theorem opens58 {H : Type} {enc : TypeId × Value → H} {w : World} {base : Nat} {spare : Nat → Bool} {held : Bool} {v : Value} {d : DataW H} {ps : List MemPlace} (h : DataW.Trod enc Try.prog w base spare held 58 v d ps) :
    ∃ (A : Option Addr) (c : Nat) (l : List S41), v.cells.toList = [.slice A l.length c] ∧ l.length ≤ c ∧ k41.C w A l.length l := by
  obtain ⟨fuel, hf⟩ := h
  exact opens_row Try.underlying58 (by kernel_rfl) opens41 hf
theorem opens69 : Opens Try.prog (Kd.pair (Kd.int .i64) (Kd.int .i64)) 69 :=
  opens_struct2 Try.underlying69 (by kernel_rfl) rfl rfl (by kernel_rfl) (by kernel_rfl) (opens_int Try.underlying3) (opens_int Try.underlying3)
set_option maxRecDepth 100000 in
theorem openv69 {H : Type} {enc : TypeId × Value → H} {w : World} {base : Nat} {spare : Nat → Bool} {held : Bool} {r : Reach} {b0 : Nat} {v : Value} {d : DataW H} {ps : List MemPlace} (h : DataW.Trod enc Try.prog w base spare held 69 v d ps) (hv : Value.okWide Try.prog w r b0 69 v) :
    ∃ x : Int × Int, v = .agg #[.int .i64 x.1, .int .i64 x.2] := by
  obtain ⟨fuel, hf⟩ := h
  obtain ⟨x, hx⟩ := opens69.op hf
  obtain ⟨cs, rfl, _⟩ := okWide_struct Try.underlying69 hv
  obtain ⟨c1, c2, hc, h1, h2⟩ := hx
  refine ⟨x, ?_⟩
  have e1 : c1 = [.int .i64 x.1] := h1
  have e2 : c2 = [.int .i64 x.2] := h2
  subst e1 e2
  have hcs : cs.toList = [.int .i64 x.1, .int .i64 x.2] := hc
  rw [← Array.toList_inj.1 (show cs.toList = (#[.int .i64 x.1, .int .i64 x.2] : Array Value).toList from hcs)]
end Go.Proofs.Ytdcelpppgbmlaaa.P
