/- Plain law: Length and Next; the length of a span is the number of its instants. No condition. -/
import Derived.Test.YtdcelpppgbmlaaaTMTells
namespace Go.Proofs.Ytdcelpppgbmlaaa.P
open Go.RowKit Go.Proofs.YtdcelpppgbmlaaaW.PrintWords Go.Proofs.YtdcelpppgbmlaaaW.PrintMore
set_option linter.unusedSimpArgs false
set_option linter.unusedVariables false
def lsum : List S33 → Int
  | [] => 0
  | p :: r => (p.f1 - p.f0) + lsum r
theorem lsum_nonneg : ∀ r : List S33, (∀ p ∈ r, Vld p) → 0 ≤ lsum r
  | [], _ => Int.le_refl _
  | p :: r, h => by
    have h1 := h p List.mem_cons_self
    have h2 := lsum_nonneg r fun q hq => h q (List.mem_cons_of_mem _ hq)
    unfold Vld at h1
    unfold lsum
    omega
theorem lsum_le : ∀ r : List S33, Sp r → ∀ a : Int, a ≤ FV → (∀ p ∈ r, a ≤ p.f0) → lsum r ≤ FV - a
  | [], _, a, ha, _ => by unfold lsum; omega
  | p :: r, h, a, ha, hp => by
    have h1 := h.head
    have h2 := hp p List.mem_cons_self
    unfold Vld at h1
    have h3 := lsum_le r h.tail p.f1 h1.2.2 fun q hq => by have := h.gap q hq; omega
    unfold lsum
    omega
theorem lsum_fv {r : List S33} (h : Sp r) : lsum r ≤ FV := by
  have := lsum_le r h 0 (by decide) fun p hp => (h.1 p hp).1
  omega
theorem span_Length_loop (r : List S33) (hr : Sp r) (hl : r.length < 1000000000) : ∀ (n i : Nat) (acc : Int), r.length - i = n → i ≤ r.length → 0 ≤ acc → acc + lsum (r.drop i) ≤ FV →
    Ev (fun k => span_Length.l0 k acc r (r.length : Int) (i : Int)) (acc + lsum (r.drop i)) := by
  intro n
  induction n with
  | zero =>
    intro i acc hn hi h0 hb
    refine Ev.step' ?_
    have hge : ¬ ((i : Int) < (r.length : Int)) := by omega
    simp only [span_Length.l0, hge, if_false]
    rw [List.drop_of_length_le (by omega)]
    simp only [lsum, Int.add_zero]
    exact Ev.now _
  | succ n ih =>
    intro i acc hn hi h0 hb
    refine Ev.step' ?_
    have hlt : (i : Int) < (r.length : Int) := by omega
    have hi' : i < r.length := by omega
    have hi0 : (0 : Int) ≤ (i : Int) := by omega
    have hv := hr.1 _ (List.getElem_mem hi')
    unfold Vld at hv
    rw [List.drop_eq_getElem_cons hi'] at hb ⊢
    unfold lsum at hb ⊢
    have hnn := lsum_nonneg (r.drop (i + 1)) fun p hp => hr.1 p (List.mem_of_mem_drop hp)
    have hFV : FV = 1099511627776 := rfl
    have e1 : wrap64 (r[i].f1 - r[i].f0) = r[i].f1 - r[i].f0 := w64 (by omega) (by omega)
    have e2 : wrap64 (acc + (r[i].f1 - r[i].f0)) = acc + (r[i].f1 - r[i].f0) := w64 (by omega) (by omega)
    simp only [span_Length.l0, hlt, hi0, if_true, rd33 r i hi', e1, e2, w64n i (by omega)]
    have := ih (i + 1) (acc + (r[i].f1 - r[i].f0)) (by omega) (by omega) (by omega) (by omega)
    rw [← Int.add_assoc]
    exact this
theorem ref03_Length_loop (r : List S33) (hr : Sp r) (hl : r.length < 1000000000) : ∀ (n i : Nat) (acc : Int), r.length - i = n → i ≤ r.length → 0 ≤ acc → acc + lsum (r.drop i) ≤ FV →
    Ev (fun k => bitemporalref03_Length.l0 k r acc (i : Int)) (acc + lsum (r.drop i)) := by
  intro n
  induction n with
  | zero =>
    intro i acc hn hi h0 hb
    refine Ev.step' ?_
    have hge : ¬ ((i : Int) < (r.length : Int)) := by omega
    simp only [bitemporalref03_Length.l0, hge, if_false]
    rw [List.drop_of_length_le (by omega)]
    simp only [lsum, Int.add_zero]
    exact Ev.now _
  | succ n ih =>
    intro i acc hn hi h0 hb
    refine Ev.step' ?_
    have hlt : (i : Int) < (r.length : Int) := by omega
    have hi' : i < r.length := by omega
    have hi0 : (0 : Int) ≤ (i : Int) := by omega
    have hv := hr.1 _ (List.getElem_mem hi')
    unfold Vld at hv
    rw [List.drop_eq_getElem_cons hi'] at hb ⊢
    unfold lsum at hb ⊢
    have hnn := lsum_nonneg (r.drop (i + 1)) fun p hp => hr.1 p (List.mem_of_mem_drop hp)
    have hFV : FV = 1099511627776 := rfl
    have e1 : wrap64 (acc + r[i].f1) = acc + r[i].f1 := w64 (by omega) (by omega)
    have e2 : wrap64 (acc + r[i].f1 - r[i].f0) = acc + (r[i].f1 - r[i].f0) := by rw [w64 (by omega) (by omega)]; omega
    simp only [bitemporalref03_Length.l0, hlt, hi0, if_true, rd33 r i hi', e1, e2, w64n i (by omega)]
    have := ih (i + 1) (acc + (r[i].f1 - r[i].f0)) (by omega) (by omega) (by omega) (by omega)
    rw [← Int.add_assoc]
    exact this
theorem span_Length_ev (a : List S33) (hl : a.length < 1000000) : ∃ r, Ev (fun k => span_Of.f k a) r ∧ IsSpan (Mem a) r ∧ Ev (fun k => span_Length.f k a) (lsum r) := by
  obtain ⟨r, h1, h2, h3⟩ := span_Of_ev a hl
  refine ⟨r, h1, h2, ?_⟩
  simp only [span_Length.f]
  refine Ev.bind h1 ?_
  have := span_Length_loop r h2.1 (by omega) r.length 0 0 (by omega) (by omega) (by omega) (by have := lsum_fv h2.1; simpa using this)
  simpa using this
theorem ref03_Length_ev (a : List S33) (hl : a.length < 1000000) : ∃ r, IsSpan (Mem a) r ∧ Ev (fun k => bitemporalref03_Length.f k a) (lsum r) := by
  obtain ⟨r, h1, h2, h3⟩ := ref03_Of_ev a hl
  refine ⟨r, h2, ?_⟩
  simp only [bitemporalref03_Length.f]
  refine Ev.bind h1 ?_
  have := ref03_Length_loop r h2.1 (by omega) r.length 0 0 (by omega) (by omega) (by omega) (by have := lsum_fv h2.1; simpa using this)
  simpa using this
open Classical in
noncomputable def cnt (W : Int → Prop) : Nat → Int
  | 0 => 0
  | n + 1 => cnt W n + (if W (n : Int) then 1 else 0)
theorem cnt_congr {W V : Int → Prop} : ∀ n : Nat, (∀ t : Int, 0 ≤ t → t < (n : Int) → (W t ↔ V t)) → cnt W n = cnt V n
  | 0, _ => rfl
  | n + 1, h => by
    unfold cnt
    rw [cnt_congr n fun t h0 h1 => h t h0 (by omega)]
    have := h n (by omega) (by omega)
    by_cases c : W n
    · rw [if_pos c, if_pos (this.1 c)]
    · rw [if_neg c, if_neg (fun hv => c (this.2 hv))]
theorem cnt_or_and (W V : Int → Prop) : ∀ n : Nat, cnt (fun t => W t ∨ V t) n + cnt (fun t => W t ∧ V t) n = cnt W n + cnt V n
  | 0 => rfl
  | n + 1 => by
    have ih := cnt_or_and W V n
    simp only [cnt]
    by_cases c : W n <;> by_cases d : V n <;> simp only [c, d, or_true, true_or, or_self, and_self, and_true, true_and, and_false, false_and, or_false, false_or, if_true, if_false] <;> omega
theorem cnt_and_not (W V : Int → Prop) : ∀ n : Nat, cnt (fun t => W t ∧ ¬ V t) n = cnt W n - cnt (fun t => W t ∧ V t) n
  | 0 => rfl
  | n + 1 => by
    have ih := cnt_and_not W V n
    simp only [cnt]
    by_cases c : W n <;> by_cases d : V n <;> simp only [c, d, and_self, and_true, true_and, and_false, false_and, not_true_eq_false, not_false_eq_true, if_true, if_false] <;> omega
theorem cnt_none (W : Int → Prop) : ∀ n : Nat, (∀ t : Int, 0 ≤ t → t < (n : Int) → ¬ W t) → cnt W n = 0
  | 0, _ => rfl
  | n + 1, h => by
    unfold cnt
    rw [cnt_none W n fun t h0 h1 => h t h0 (by omega), if_neg (h n (by omega) (by omega))]
    rfl
theorem cnt_run (a b : Int) (h0 : 0 ≤ a) (hab : a ≤ b) : ∀ n : Nat, cnt (fun t => a ≤ t ∧ t < b) n = if (n : Int) ≤ a then 0 else if (n : Int) ≤ b then n - a else b - a
  | 0 => by simp [cnt, h0]
  | n + 1 => by
    unfold cnt
    rw [cnt_run a b h0 hab n]
    split <;> split <;> split <;> (try split) <;> omega
theorem lsum_cnt : ∀ (r : List S33), Sp r → ∀ n : Nat, (n : Int) = FV → lsum r = cnt (Mem r) n
  | [], _, n, hn => by rw [cnt_none (Mem []) n fun t _ _ => Mem_nil t]; rfl
  | p :: r, h, n, hn => by
    have hv := h.head
    have h1 := cnt_or_and (InP p) (Mem r) n
    have h2 : cnt (fun t => InP p t ∧ Mem r t) n = 0 := cnt_none _ n fun t _ _ ⟨ha, q, hq, hb⟩ => by
      have := h.gap q hq
      have := ha.2.2
      have := hb.2.1
      omega
    have h3 : cnt (InP p) n = p.f1 - p.f0 := by
      rw [cnt_congr (V := fun t => p.f0 ≤ t ∧ t < p.f1) n fun t _ _ => InP_iff p hv t, cnt_run p.f0 p.f1 hv.1 (Int.le_of_lt hv.2.1) n]
      unfold Vld at hv
      rw [if_neg (by omega)]
      split <;> omega
    have h4 := lsum_cnt r h.tail n hn
    rw [cnt_congr (V := fun t => InP p t ∨ Mem r t) n fun t _ _ => Mem_cons]
    unfold lsum
    omega
theorem lsum_span {W : Int → Prop} {r : List S33} (h : IsSpan W r) (n : Nat) (hn : (n : Int) = FV) : lsum r = cnt W n := by
  rw [lsum_cnt r h.1 n hn]
  exact cnt_congr n fun t h0 h1 => (h.2 t).trans ⟨fun h => h.2, fun hw => ⟨⟨h0, by omega⟩, hw⟩⟩
theorem fv_nat : ∃ n : Nat, (n : Int) = FV := ⟨1099511627776, rfl⟩
theorem lsum_zero {r : List S33} (h : Sp r) : ((lsum r == 0) == ((r.length : Int) == 0)) = true := by
  cases r with
  | nil => rfl
  | cons p r =>
    have h1 := h.head
    have h2 := lsum_nonneg r h.tail.1
    unfold Vld at h1
    have h3 : (lsum (p :: r) == 0) = false := by
      rw [beq_eq_false_iff_ne]
      unfold lsum
      omega
    have h4 : (((p :: r).length : Int) == 0) = false := by
      rw [beq_eq_false_iff_ne]
      simp only [List.length_cons]
      omega
    rw [h3, h4]
    rfl
def nxt (t : Int) : List S33 → Int × Bool
  | [] => (0, false)
  | p :: r => if p.f1 > t then (mx p.f0 t, true) else nxt t r
theorem mx_comm (a b : Int) : mx a b = mx b a := by unfold mx; split <;> split <;> omega
theorem span_Next_loop (r : List S33) (t : Int) (hl : r.length < 1000000000) : ∀ (n i : Nat), r.length - i = n → i ≤ r.length → Ev (fun k => span_Next.l0 k t r (r.length : Int) (i : Int)) (nxt t (r.drop i)) := by
  intro n
  induction n with
  | zero =>
    intro i hn hi
    refine Ev.step' ?_
    have hge : ¬ ((i : Int) < (r.length : Int)) := by omega
    simp only [span_Next.l0, hge, if_false]
    rw [List.drop_of_length_le (by omega)]
    exact Ev.now _
  | succ n ih =>
    intro i hn hi
    refine Ev.step' ?_
    have hlt : (i : Int) < (r.length : Int) := by omega
    have hi' : i < r.length := by omega
    have hi0 : (0 : Int) ≤ (i : Int) := by omega
    rw [List.drop_eq_getElem_cons hi']
    unfold nxt
    by_cases c : r[i].f1 > t
    · simp only [span_Next.l0, hlt, hi0, if_true, rd33 r i hi', c]
      exact Ev.now _
    · simp only [span_Next.l0, hlt, hi0, if_true, rd33 r i hi', c, if_false, w64n i (by omega)]
      exact ih (i + 1) (by omega) (by omega)
theorem ref03_Next_loop (r : List S33) (t : Int) (hl : r.length < 1000000000) : ∀ (n i : Nat), r.length - i = n → i ≤ r.length → Ev (fun k => bitemporalref03_Next.l0 k t r (i : Int)) (nxt t (r.drop i)) := by
  intro n
  induction n with
  | zero =>
    intro i hn hi
    refine Ev.step' ?_
    have hge : ¬ ((i : Int) < (r.length : Int)) := by omega
    simp only [bitemporalref03_Next.l0, hge, if_false]
    rw [List.drop_of_length_le (by omega)]
    exact Ev.now _
  | succ n ih =>
    intro i hn hi
    refine Ev.step' ?_
    have hlt : (i : Int) < (r.length : Int) := by omega
    have hi' : i < r.length := by omega
    have hi0 : (0 : Int) ≤ (i : Int) := by omega
    rw [List.drop_eq_getElem_cons hi']
    unfold nxt
    by_cases c : r[i].f1 > t
    · have c' : t < r[i].f1 := c
      rw [if_pos c, mx_comm]
      simp only [bitemporalref03_Next.l0, hlt, hi0, if_true, rd33 r i hi', c']
      exact Ev.now _
    · have c' : ¬ t < r[i].f1 := c
      rw [if_neg c]
      simp only [bitemporalref03_Next.l0, hlt, hi0, if_true, rd33 r i hi', c', if_false, w64n i (by omega)]
      exact ih (i + 1) (by omega) (by omega)
theorem Next_ev (a : List S33) (t : Int) (hl : a.length < 1000000) : ∃ r, Ev (fun k => span_Next.f k a t) r ∧ Ev (fun k => bitemporalref03_Next.f k a t) r := by
  obtain ⟨s, h1, k1, h2, h3⟩ := (span_Of_ev a hl).same (ref03_Of_ev a hl)
  refine ⟨nxt t s, ?_, ?_⟩
  · simp only [span_Next.f]
    refine Ev.bind h1 ?_
    have := span_Next_loop s t (by omega) s.length 0 (by omega) (by omega)
    simpa using this
  · simp only [bitemporalref03_Next.f]
    refine Ev.bind k1 ?_
    have := ref03_Next_loop s t (by omega) s.length 0 (by omega) (by omega)
    simpa using this
end Go.Proofs.Ytdcelpppgbmlaaa.P
