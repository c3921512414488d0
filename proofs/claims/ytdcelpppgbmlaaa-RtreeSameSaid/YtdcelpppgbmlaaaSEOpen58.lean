/- The arguments of the statements on package region: lists of rectangles, a rectangle. No condition. -/
import Derived.Test.YtdcelpppgbmlaaaSEOpen33
import Derived.WideShapes
namespace Go.Proofs.Ytdcelpppgbmlaaa.P
open Go.RowKit Go.WideShapes Go.Proofs.YtdcelpppgbmlaaaW.PrintWords
instance : Inhabited S41 := ⟨z41⟩
theorem opens41 : Opens Try.prog k41 41 :=
  opens_iso (fun x => ⟨x.1, x.2⟩) (fun _ => rfl) (opens_struct2 Try.underlying41 (by kernel_rfl) rfl rfl (by kernel_rfl) (by kernel_rfl) opens33 opens33)
set_option maxRecDepth 100000 in
theorem openv41 {H : Type} {enc : TypeId × Value → H} {w : World} {base : Nat} {spare : Nat → Bool} {held : Bool} {r : Reach} {b0 : Nat} {v : Value} {d : DataW H} {ps : List MemPlace} (h : DataW.Trod enc Try.prog w base spare held 41 v d ps) (hv : Value.okWide Try.prog w r b0 41 v) :
    ∃ x : S41, v = .agg #[.int .i64 x.f0.f0, .int .i64 x.f0.f1, .int .i64 x.f1.f0, .int .i64 x.f1.f1] := by
  obtain ⟨fuel, hf⟩ := h
  obtain ⟨x, hx⟩ := opens41.op hf
  obtain ⟨cs, rfl, _⟩ := okWide_struct Try.underlying41 hv
  obtain ⟨c1, c2, hc, ⟨c3, c4, h3, h4, h5⟩, ⟨c5, c6, h6, h7, h8⟩⟩ := hx
  refine ⟨x, ?_⟩
  have e4 : c3 = [.int .i64 x.f0.f0] := h4
  have e5 : c4 = [.int .i64 x.f0.f1] := h5
  have e7 : c5 = [.int .i64 x.f1.f0] := h7
  have e8 : c6 = [.int .i64 x.f1.f1] := h8
  subst e4 e5 e7 e8 h3 h6
  have hcs : cs.toList = [.int .i64 x.f0.f0, .int .i64 x.f0.f1, .int .i64 x.f1.f0, .int .i64 x.f1.f1] := hc
  rw [← Array.toList_inj.1 (show cs.toList = (#[.int .i64 x.f0.f0, .int .i64 x.f0.f1, .int .i64 x.f1.f0, .int .i64 x.f1.f1] : Array Value).toList from hcs)]
end Go.Proofs.Ytdcelpppgbmlaaa.P
