/- Plain law: what the reference's functions on trees of rectangles compute. No condition but that lists are not too long. -/
import Derived.Test.YtdcelpppgbmlaaaQMR31
import Derived.Test.YtdcelpppgbmlaaaQPLaw31
import Derived.Test.YtdcelpppgbmlaaaQMRef03
namespace Go.Proofs.Ytdcelpppgbmlaaa.P
open Go.RowKit Go.Proofs.YtdcelpppgbmlaaaW.PrintWords Go.Proofs.YtdcelpppgbmlaaaW.PrintMore
set_option linter.unusedSimpArgs false
set_option linter.unusedVariables false
theorem rd51e (l : List S51) (i : Nat) (h : i < l.length) : rd_T51 l (i : Int) = l[i] := by simp [rd_T51, List.getD_eq_getElem?_getD, List.getElem?_eq_getElem h]
theorem rd74e (l : List S74) (i : Nat) (h : i < l.length) : rd_T74 l (i : Int) = l[i] := by simp [rd_T74, List.getD_eq_getElem?_getD, List.getElem?_eq_getElem h]
theorem w31 (n : Nat) (h : n < 4611686018427387904) : wrap64 ((n : Int) + 1) = ((n + 1 : Nat) : Int) := by unfold wrap64; omega
theorem eta51 (b : S51) : (⟨⟨⟨b.f0.f0.f0, b.f0.f0.f1⟩, ⟨b.f0.f1.f0, b.f0.f1.f1⟩⟩, b.f1⟩ : S51) = b := rfl
theorem ints0_ev (a b : List Int) (hab : a.length = b.length) (hl : a.length < 1000000000000) : ∀ m i : Nat, a.length - i = m → i ≤ a.length → a.take i = b.take i → Ev (fun k => L31_ints.l0 k a b (a.length : Int) (i : Int)) (decide (a = b)) := by
  intro m
  induction m with
  | zero =>
    intro i hm hi he
    refine Ev.step' ?_
    have hge : ¬ ((i : Int) < (a.length : Int)) := by omega
    simp only [L31_ints.l0, hge, if_false]
    rw [List.take_of_length_le (by omega), List.take_of_length_le (by omega)] at he
    rw [decide_eq_true he]
    exact Ev.now _
  | succ m ih =>
    intro i hm hi he
    refine Ev.step' ?_
    have hlt : (i : Int) < (a.length : Int) := by omega
    have hlt2 : (i : Int) < (b.length : Int) := by omega
    have h0 : (0 : Int) ≤ (i : Int) := by omega
    simp only [L31_ints.l0, hlt, hlt2, h0, if_true, rdI a i (by omega), rdI b i (by omega), w31 i (by omega)]
    by_cases hx : a[i]'(by omega) = b[i]'(by omega)
    · simp only [hx, if_true]
      exact ih (i + 1) (by omega) (by omega) (by rw [List.take_succ_eq_append_getElem (by omega), List.take_succ_eq_append_getElem (by omega), he, hx])
    · simp only [hx, if_false]
      rw [decide_eq_false (fun e => hx (by subst e; rfl))]
      exact Ev.now _
theorem ints_ev (a b : List Int) (hl : a.length < 1000000000000) : Ev (fun k => L31_ints.f k a b) (decide (a = b)) := by
  by_cases h : a.length = b.length
  · have h' : (a.length : Int) = (b.length : Int) := by omega
    simp only [L31_ints.f, h', if_true]
    rw [← h']
    exact ints0_ev a b h hl _ 0 rfl (Nat.zero_le _) rfl
  · have h' : ¬ (a.length : Int) = (b.length : Int) := by omega
    simp only [L31_ints.f, h', if_false]
    rw [decide_eq_false (fun e => h (by rw [e]))]
    exact Ev.now _
theorem put1_ev (n : Int) (l : List Int) (hl : l.length < 1000000) : ∀ m i (out : List Int), l.length - i = m → i ≤ l.length → out.length ≤ l.length + 1 + i → Ev (fun k => R31_put.l1 k n out l (l.length : Int) (i : Int)) (out ++ (l.drop i).filter fun x => decide (x > n)) := by
  intro m
  induction m with
  | zero =>
    intro i out hm hi ho
    refine Ev.step' ?_
    have hge : ¬ ((i : Int) < (l.length : Int)) := by omega
    simp only [R31_put.l1, hge, if_false]
    rw [List.drop_of_length_le (by omega), List.filter_nil, List.append_nil]
    exact Ev.now _
  | succ m ih =>
    intro i out hm hi ho
    refine Ev.step' ?_
    have hlt : (i : Int) < (l.length : Int) := by omega
    have h0 : (0 : Int) ≤ (i : Int) := by omega
    have hol : out.length < 17592186044416 := by omega
    simp only [R31_put.l1, hlt, h0, hol, if_true, rdI l i (by omega), w31 i (by omega)]
    rw [List.drop_eq_getElem_cons (by omega)]
    by_cases hx : l[i]'(by omega) > n
    · simp only [hx, if_true]
      have := ih (i + 1) (out ++ [l[i]'(by omega)]) (by omega) (by omega) (by rw [List.length_append, List.length_singleton]; omega)
      rw [List.filter_cons_of_pos (by simpa using hx)]
      simpa using this
    · simp only [hx, if_false]
      rw [List.filter_cons_of_neg (by simpa using hx)]
      exact ih (i + 1) out (by omega) (by omega) (by omega)
theorem put0_ev (n : Int) (l : List Int) (hl : l.length < 1000000) : ∀ m i (out : List Int), l.length - i = m → i ≤ l.length → out.length ≤ i → Ev (fun k => R31_put.l0 k l n out l (l.length : Int) (i : Int)) (out ++ (l.drop i).filter (fun x => decide (x < n)) ++ n :: l.filter fun x => decide (x > n)) := by
  intro m
  induction m with
  | zero =>
    intro i out hm hi ho
    refine Ev.step' ?_
    have hge : ¬ ((i : Int) < (l.length : Int)) := by omega
    have hol : out.length < 17592186044416 := by omega
    simp only [R31_put.l0, hge, hol, if_false, if_true]
    rw [List.drop_of_length_le (by omega), List.filter_nil, List.append_nil]
    have := put1_ev n l hl _ 0 (out ++ [n]) rfl (Nat.zero_le _) (by rw [List.length_append, List.length_singleton]; omega)
    simpa using this
  | succ m ih =>
    intro i out hm hi ho
    refine Ev.step' ?_
    have hlt : (i : Int) < (l.length : Int) := by omega
    have h0 : (0 : Int) ≤ (i : Int) := by omega
    have hol : out.length < 17592186044416 := by omega
    simp only [R31_put.l0, hlt, h0, hol, if_true, rdI l i (by omega), w31 i (by omega)]
    rw [List.drop_eq_getElem_cons (by omega)]
    by_cases hx : l[i]'(by omega) < n
    · simp only [hx, if_true]
      have := ih (i + 1) (out ++ [l[i]'(by omega)]) (by omega) (by omega) (by rw [List.length_append, List.length_singleton]; omega)
      rw [List.filter_cons_of_pos (by simpa using hx)]
      simpa using this
    · simp only [hx, if_false]
      rw [List.filter_cons_of_neg (by simpa using hx)]
      exact ih (i + 1) out (by omega) (by omega) (by omega)
theorem put_ev (n : Int) (l : List Int) (hl : l.length < 1000000) : Ev (fun k => R31_put.f k l n) (putP l n) := put0_ev n l hl _ 0 [] rfl (Nat.zero_le _) (Nat.le_refl _)
theorem putP_length (l : List Int) (n : Int) : (putP l n).length ≤ l.length + 1 := by
  have h : (l.filter fun x => decide (x < n)).length + (l.filter fun x => decide (x > n)).length ≤ l.length := by
    induction l with
    | nil => exact Nat.le_refl _
    | cons a l ih =>
      rw [List.filter_cons, List.filter_cons, List.length_cons]
      by_cases h1 : a < n
      · have h2 : ¬ a > n := by omega
        simp only [h1, h2, decide_true, decide_false, if_true, Bool.false_eq_true, if_false, List.length_cons]; omega
      · by_cases h2 : a > n
        · simp only [h1, h2, decide_true, decide_false, if_true, Bool.false_eq_true, if_false, List.length_cons]; omega
        · simp only [h1, h2, decide_false, Bool.false_eq_true, if_false]; omega
  unfold putP
  rw [List.length_append, List.length_cons]
  omega
theorem period31_eq (p : S33) : R31_period.f p.f0 p.f1 = some (decide (Vld p)) := by
  unfold R31_period.f Vld
  by_cases h0 : p.f0 ≥ 0
  · by_cases h1 : p.f0 < p.f1
    · rw [if_pos h0, if_pos h1]; congr 1; simp [h0, h1]
    · rw [if_pos h0, if_neg h1]; simp [h1]
  · rw [if_neg h0]
    have : ¬ 0 ≤ p.f0 := h0
    simp [this]
theorem Valid31_eq (r : S41) : R31_Valid.f r.f0.f0 r.f0.f1 r.f1.f0 r.f1.f1 = some (decide (SndR r)) := by
  unfold R31_Valid.f SndR
  rw [period31_eq, period31_eq]
  by_cases h : Vld r.f0 <;> simp [h]
theorem Overlap31_eq (a b : S41) : R31_Overlap.f a.f0.f0 a.f0.f1 a.f1.f0 a.f1.f1 b.f0.f0 b.f0.f1 b.f1.f0 b.f1.f1 = some (decide (Ovr a b)) := by
  unfold R31_Overlap.f
  rw [Valid31_eq, Valid31_eq]
  unfold Ovr Ovp SndR
  by_cases h1 : Vld a.f0 <;> by_cases h2 : Vld a.f1 <;> by_cases h3 : Vld b.f0 <;> by_cases h4 : Vld b.f1 <;> by_cases h5 : a.f0.f0 < b.f0.f1 <;> by_cases h6 : b.f0.f0 < a.f0.f1 <;> by_cases h7 : a.f1.f0 < b.f1.f1 <;> simp [h1, h2, h3, h4, h5, h6, h7]
theorem Search0_ev (r : S41) (bx : List S51) (hl : bx.length < 1000000) : ∀ m i (out : List Int), bx.length - i = m → i ≤ bx.length → out.length ≤ i → Ev (fun k => R31_Search.l0 k out bx (bx.length : Int) (i : Int) r.f0.f0 r.f0.f1 r.f1.f0 r.f1.f1) ((((bx.drop i).filter fun b => decide (Ovr b.f0 r)).map (·.f1)).foldl putP out) := by
  intro m
  induction m with
  | zero =>
    intro i out hm hi ho
    refine Ev.step' ?_
    have hge : ¬ ((i : Int) < (bx.length : Int)) := by omega
    simp only [R31_Search.l0, hge, if_false]
    rw [List.drop_of_length_le (by omega)]
    exact Ev.now _
  | succ m ih =>
    intro i out hm hi ho
    refine Ev.step' ?_
    have hlt : (i : Int) < (bx.length : Int) := by omega
    have h0 : (0 : Int) ≤ (i : Int) := by omega
    simp only [R31_Search.l0, hlt, h0, if_true, rd51e bx i (by omega), w31 i (by omega), Overlap31_eq, Option.bind_some]
    rw [List.drop_eq_getElem_cons (by omega)]
    by_cases hx : Ovr (bx[i]'(by omega)).f0 r
    · simp only [hx, decide_true, if_true]
      rw [List.filter_cons_of_pos (by simpa using hx), List.map_cons, List.foldl_cons]
      refine Ev.bind (put_ev _ out (by omega)) ?_
      exact ih (i + 1) _ (by omega) (by omega) (Nat.le_trans (putP_length _ _) (by omega))
    · simp only [hx, decide_false, Bool.false_eq_true, if_false]
      rw [List.filter_cons_of_neg (by simpa using hx)]
      exact ih (i + 1) out (by omega) (by omega) (by omega)
def PtIn (v s : Int) (r : S41) : Prop := r.f0.f0 ≤ v ∧ v < r.f0.f1 ∧ r.f1.f0 ≤ s ∧ s < r.f1.f1
instance (v s : Int) (r : S41) : Decidable (PtIn v s r) := by unfold PtIn; infer_instance
theorem Stab0_ev (v s : Int) (bx : List S51) (hl : bx.length < 1000000) : ∀ m i (out : List Int), bx.length - i = m → i ≤ bx.length → out.length ≤ i → Ev (fun k => R31_Stab.l0 k v s out bx (bx.length : Int) (i : Int)) ((((bx.drop i).filter fun b => decide (PtIn v s b.f0)).map (·.f1)).foldl putP out) := by
  intro m
  induction m with
  | zero =>
    intro i out hm hi ho
    refine Ev.step' ?_
    have hge : ¬ ((i : Int) < (bx.length : Int)) := by omega
    simp only [R31_Stab.l0, hge, if_false]
    rw [List.drop_of_length_le (by omega)]
    exact Ev.now _
  | succ m ih =>
    intro i out hm hi ho
    refine Ev.step' ?_
    have hlt : (i : Int) < (bx.length : Int) := by omega
    have h0 : (0 : Int) ≤ (i : Int) := by omega
    simp only [R31_Stab.l0, hlt, h0, if_true, rd51e bx i (by omega), w31 i (by omega)]
    rw [List.drop_eq_getElem_cons (by omega)]
    have no : ¬ PtIn v s (bx[i]'(by omega)).f0 → Ev (fun k => R31_Stab.l0 k v s out bx (bx.length : Int) ((i + 1 : Nat) : Int)) ((((bx[i]'(by omega) :: bx.drop (i + 1)).filter fun b => decide (PtIn v s b.f0)).map (·.f1)).foldl putP out) := fun hx => by
      rw [List.filter_cons_of_neg (by simpa using hx)]
      exact ih (i + 1) out (by omega) (by omega) (by omega)
    by_cases h1 : (bx[i]'(by omega)).f0.f0.f0 ≤ v
    · by_cases h2 : v < (bx[i]'(by omega)).f0.f0.f1
      · by_cases h3 : (bx[i]'(by omega)).f0.f1.f0 ≤ s
        · by_cases h4 : s < (bx[i]'(by omega)).f0.f1.f1
          · simp only [h1, h2, h3, h4, if_true]
            rw [List.filter_cons_of_pos (by simp only [decide_eq_true_eq]; exact ⟨h1, h2, h3, h4⟩), List.map_cons, List.foldl_cons]
            refine Ev.bind (put_ev _ out (by omega)) ?_
            exact ih (i + 1) _ (by omega) (by omega) (Nat.le_trans (putP_length _ _) (by omega))
          · simp only [h1, h2, h3, h4, if_true, if_false]
            exact no fun h => h4 h.2.2.2
        · simp only [h1, h2, h3, if_true, if_false]
          exact no fun h => h3 h.2.2.1
      · simp only [h1, h2, if_true, if_false]
        exact no fun h => h2 h.2.1
    · simp only [h1, if_false]
      exact no fun h => h1 h.1
end Go.Proofs.Ytdcelpppgbmlaaa.P
