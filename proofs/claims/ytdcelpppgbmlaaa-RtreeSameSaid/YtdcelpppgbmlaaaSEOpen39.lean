/- The arguments of the statements on package rtree: lists of boxes. No condition. -/
import Derived.Test.YtdcelpppgbmlaaaSEOpen58
import Derived.Test.YtdcelpppgbmlaaaSERnode
import Derived.Test.YtdcelpppgbmlaaaSECmpBox
namespace Go.Proofs.Ytdcelpppgbmlaaa.P
open Go.RowKit Go.WideShapes Go.Proofs.YtdcelpppgbmlaaaW.PrintWords
set_option linter.unusedVariables false
def kWf : Kd Int := readKd 1 (fun _ x cs => cs = [.int .i64 x] ∧ (Lit.int .i64 x).wf = true) (fun h => by rw [h.1]; rfl) (fun h u hu => by rw [h.1] at hu; obtain rfl := List.mem_singleton.1 hu; rfl) (fun _ h => h)
theorem opens_wf : Opens Try.prog kWf 3 := ⟨fun h => by obtain ⟨n, rfl, h2, h3⟩ := DataW.trod_int Try.underlying3 h; exact ⟨n, rfl, by first | exact h2 | exact h3 | exact h3.1⟩⟩
def kBoxW : Kd S51 := Kd.iso (Kd.pair k41 kWf) (fun b => (b.f0, b.f1))
theorem opens51w : Opens Try.prog kBoxW 51 :=
  opens_iso (fun x => ⟨x.1, x.2⟩) (fun _ => rfl) (opens_struct2 Try.underlying51 (by kernel_rfl) rfl rfl (by kernel_rfl) (by kernel_rfl) opens41 opens_wf)
theorem kBoxW_K {w : World} {x : S51} {cs : List Value} (h : kBoxW.K w x cs) : k51.K w x cs ∧ (Lit.int .i64 x.f1).wf = true := by
  obtain ⟨c1, c2, hc, h1, h2, h3⟩ := h
  exact ⟨⟨c1, c2, hc, h1, h2⟩, h3⟩
theorem opens39 {H : Type} {enc : TypeId × Value → H} {w : World} {base : Nat} {spare : Nat → Bool} {held : Bool} {v : Value} {d : DataW H} {ps : List MemPlace} (h : DataW.Trod enc Try.prog w base spare held 39 v d ps) :
    ∃ (A : Option Addr) (c : Nat) (l : List S51), v.cells.toList = [.slice A l.length c] ∧ l.length ≤ c ∧ k51.C w A l.length l ∧ ∀ b ∈ l, (Lit.int .i64 b.f1).wf = true := by
  obtain ⟨fuel, hf⟩ := h
  obtain ⟨A, c, l, e, hc, hC⟩ := opens_row Try.underlying39 (by kernel_rfl) opens51w hf
  refine ⟨A, c, l, e, hc, Kd.C_imp (d := kBoxW) (d' := k51) rfl (fun w x cs hk => (kBoxW_K hk).1) hC, fun b hb => ?_⟩
  obtain ⟨i, hi, rfl⟩ := List.getElem_of_mem hb
  obtain ⟨ad, cs, _, _, hK, _⟩ := Kd.C_get hC z51 (i : Int) (by omega) (by omega)
  have := (kBoxW_K hK).2
  rwa [Int.toNat_natCast, show l.getD i z51 = l[i] by simp [List.getD_eq_getElem?_getD, List.getElem?_eq_getElem hi]] at this
end Go.Proofs.Ytdcelpppgbmlaaa.P
