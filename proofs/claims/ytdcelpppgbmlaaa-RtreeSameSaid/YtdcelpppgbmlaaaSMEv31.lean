/- Plain law: what the reference's functions on trees of rectangles compute. No condition but that lists are not too long. -/
import Derived.Test.YtdcelpppgbmlaaaSMR31
import Derived.Test.YtdcelpppgbmlaaaSPLaw31
import Derived.Test.YtdcelpppgbmlaaaSMRef03
namespace Go.Proofs.Ytdcelpppgbmlaaa.P
open Go.RowKit Go.Proofs.YtdcelpppgbmlaaaW.PrintWords Go.Proofs.YtdcelpppgbmlaaaW.PrintMore
set_option linter.unusedSimpArgs false
set_option linter.unusedVariables false
theorem w31 (n : Nat) (h : n < 4611686018427387904) : wrap64 ((n : Int) + 1) = ((n + 1 : Nat) : Int) := by unfold wrap64; omega
theorem ints0_ev (a b : List Int) (hab : a.length = b.length) (hl : a.length < 1000000000000) : ∀ m i : Nat, a.length - i = m → i ≤ a.length → a.take i = b.take i → Ev (fun k => L31_ints.l0 k a b (a.length : Int) (i : Int)) (decide (a = b)) := by
  intro m
  induction m with
  | zero =>
    intro i hm hi he
    refine Ev.step' ?_
    have hge : ¬ ((i : Int) < (a.length : Int)) := by omega
    simp only [L31_ints.l0, hge, if_false]
    rw [List.take_of_length_le (by omega), List.take_of_length_le (by omega)] at he
    rw [decide_eq_true he]
    exact Ev.now _
  | succ m ih =>
    intro i hm hi he
    refine Ev.step' ?_
    have hlt : (i : Int) < (a.length : Int) := by omega
    have hlt2 : (i : Int) < (b.length : Int) := by omega
    have h0 : (0 : Int) ≤ (i : Int) := by omega
    simp only [L31_ints.l0, hlt, hlt2, h0, if_true, rdI a i (by omega), rdI b i (by omega), w31 i (by omega)]
    by_cases hx : a[i]'(by omega) = b[i]'(by omega)
    · simp only [hx, if_true]
      exact ih (i + 1) (by omega) (by omega) (by rw [List.take_succ_eq_append_getElem (by omega), List.take_succ_eq_append_getElem (by omega), he, hx])
    · simp only [hx, if_false]
      rw [decide_eq_false (fun e => hx (by subst e; rfl))]
      exact Ev.now _
theorem ints_ev (a b : List Int) (hl : a.length < 1000000000000) : Ev (fun k => L31_ints.f k a b) (decide (a = b)) := by
  by_cases h : a.length = b.length
  · have h' : (a.length : Int) = (b.length : Int) := by omega
    simp only [L31_ints.f, h', if_true]
    rw [← h']
    exact ints0_ev a b h hl _ 0 rfl (Nat.zero_le _) rfl
  · have h' : ¬ (a.length : Int) = (b.length : Int) := by omega
    simp only [L31_ints.f, h', if_false]
    rw [decide_eq_false (fun e => h (by rw [e]))]
    exact Ev.now _
def PtIn (v s : Int) (r : S41) : Prop := r.f0.f0 ≤ v ∧ v < r.f0.f1 ∧ r.f1.f0 ≤ s ∧ s < r.f1.f1
instance (v s : Int) (r : S41) : Decidable (PtIn v s r) := by unfold PtIn; infer_instance
end Go.Proofs.Ytdcelpppgbmlaaa.P
