/- Plain law: what the reference's package span computes (Contains, Insert, Points, wanted, Join, combined), as sets of instants. No condition. -/
import Derived.Test.YtdcelpppgbmlaaaSMAll
import Derived.Test.YtdcelpppgbmlaaaSP0
import Derived.Test.YtdcelpppgbmlaaaSPRef01
namespace Go.Proofs.Ytdcelpppgbmlaaa.P
open Go.RowKit Go.Proofs.YtdcelpppgbmlaaaW.PrintWords
set_option linter.unusedSimpArgs false
set_option linter.unusedVariables false
theorem Ev.step' {α : Type} {g : Nat → Option α} {r : α} (h : Ev (fun k => g (k + 1)) r) : Ev g r := Ev.step (fun _ => rfl) h
theorem rdI (l : List Int) (i : Nat) (h : i < l.length) : rd l (i : Int) = l[i] := by
  simp [rd, List.getD_eq_getElem?_getD, List.getElem?_eq_getElem h]
theorem dec_eq {p q : Prop} [Decidable p] [Decidable q] (h : p ↔ q) : decide p = decide q := by simp [h]
theorem valid_eq (a b : Int) : R01_Valid.f a b = some (decide (Vld ⟨a, b⟩)) := by
  unfold R01_Valid.f
  by_cases h0 : a ≥ 0
  · by_cases h1 : a < b
    · rw [if_pos h0, if_pos h1]
      exact congrArg some (dec_eq ⟨fun h => ⟨h0, h1, h⟩, fun h => h.2.2⟩)
    · rw [if_pos h0, if_neg h1]
      exact congrArg some (decide_eq_false fun h => h1 h.2.1).symm
  · rw [if_neg h0]
    exact congrArg some (decide_eq_false fun h => h0 h.1).symm
def Asc (l : List Int) : Prop := l.Pairwise (· < ·)
theorem Asc.ext : ∀ {l m : List Int}, Asc l → Asc m → (∀ x, x ∈ l ↔ x ∈ m) → l = m
  | [], [], _, _, _ => rfl
  | [], y :: m, _, _, h => absurd ((h y).2 List.mem_cons_self) (by simp)
  | x :: l, [], _, _, h => absurd ((h x).1 List.mem_cons_self) (by simp)
  | x :: l, y :: m, hl, hm, h => by
    have h1 := List.pairwise_cons.1 hl
    have h2 := List.pairwise_cons.1 hm
    have e : x = y := by
      rcases List.mem_cons.1 ((h x).1 List.mem_cons_self) with rfl | hx
      · rfl
      · rcases List.mem_cons.1 ((h y).2 List.mem_cons_self) with rfl | hy
        · rfl
        · have := h1.1 y hy
          have := h2.1 x hx
          omega
    subst e
    rw [Asc.ext h1.2 h2.2 fun z => ?_]
    have hz := h z
    simp only [List.mem_cons] at hz
    constructor
    · intro hzl
      have := h1.1 z hzl
      rcases hz.1 (.inr hzl) with rfl | hz'
      · omega
      · exact hz'
    · intro hzm
      have := h2.1 z hzm
      rcases hz.2 (.inr hzm) with rfl | hz'
      · omega
      · exact hz'
end Go.Proofs.Ytdcelpppgbmlaaa.P
