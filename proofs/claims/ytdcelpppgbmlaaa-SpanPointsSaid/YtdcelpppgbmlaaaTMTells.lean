/- Plain law: Same, Valid, Contains, Points, Slices, Length, Next, Covers of the program and of the reference agree. No condition. -/
import Derived.Test.YtdcelpppgbmlaaaTMSweep
import Derived.Test.YtdcelpppgbmlaaaTPSpanc
import Derived.Test.YtdcelpppgbmlaaaTPSpanb
import Derived.Test.YtdcelpppgbmlaaaTPSpand
import Derived.Test.YtdcelpppgbmlaaaTPRef01
namespace Go.Proofs.Ytdcelpppgbmlaaa.P
open Go.RowKit Go.Proofs.YtdcelpppgbmlaaaW.PrintWords Go.Proofs.YtdcelpppgbmlaaaW.PrintMore
set_option linter.unusedSimpArgs false
set_option linter.unusedVariables false
theorem eta33 (p : S33) : (⟨p.f0, p.f1⟩ : S33) = p := rfl
theorem Same_loop (l : List S33) (hl : l.length < 9223372036854775807) : ∀ (n i : Nat), l.length - i = n → i ≤ l.length → Ev (fun k => bitemporalref01_Same.l0 k l l (i : Int)) true := by
  intro n
  induction n with
  | zero =>
    intro i hn hi
    refine Ev.step' ?_
    have hge : ¬ ((i : Int) < (l.length : Int)) := by omega
    simp only [bitemporalref01_Same.l0, hge, if_false]
    exact Ev.now _
  | succ n ih =>
    intro i hn hi
    refine Ev.step' ?_
    have hlt : (i : Int) < (l.length : Int) := by omega
    have h0 : (0 : Int) ≤ (i : Int) := by omega
    simp only [bitemporalref01_Same.l0, hlt, h0, if_true, w64n i (by omega), beq_self_eq_true, Bool.not_true, Bool.or_false, Bool.false_eq_true, if_false]
    exact ih (i + 1) (by omega) (by omega)
theorem Same_ev (l : List S33) (hl : l.length < 9223372036854775807) : Ev (fun k => bitemporalref01_Same.f k l l) true := by
  simp only [bitemporalref01_Same.f, if_true]
  exact Same_loop l hl l.length 0 (by omega) (by omega)
theorem SameInts_loop (l : List Int) (hl : l.length < 9223372036854775807) : ∀ (n i : Nat), l.length - i = n → i ≤ l.length → Ev (fun k => bitemporalref03_SameInts.l0 k l l (i : Int)) true := by
  intro n
  induction n with
  | zero =>
    intro i hn hi
    refine Ev.step' ?_
    have hge : ¬ ((i : Int) < (l.length : Int)) := by omega
    simp only [bitemporalref03_SameInts.l0, hge, if_false]
    exact Ev.now _
  | succ n ih =>
    intro i hn hi
    refine Ev.step' ?_
    have hlt : (i : Int) < (l.length : Int) := by omega
    have h0 : (0 : Int) ≤ (i : Int) := by omega
    simp only [bitemporalref03_SameInts.l0, hlt, h0, if_true, w64n i (by omega)]
    exact ih (i + 1) (by omega) (by omega)
theorem SameInts_ev (l : List Int) (hl : l.length < 9223372036854775807) : Ev (fun k => bitemporalref03_SameInts.f k l l) true := by
  simp only [bitemporalref03_SameInts.f, if_true]
  exact SameInts_loop l hl l.length 0 (by omega) (by omega)
def kbOf (a _b : Bool) : Bool := a
def kbU (a b : Bool) : Bool := a || b
def kbI (a b : Bool) : Bool := a && b
def kbS (a b : Bool) : Bool := a && !b
def kbC (a _b : Bool) : Bool := !a
theorem kOf (x y : Bool) : span_Of_1.f x y = some (kbOf x y) := rfl
theorem kU (x y : Bool) : span_Union_1.f x y = some (kbU x y) := by cases x <;> simp [span_Union_1.f, kbU]
theorem kI (x y : Bool) : span_Intersect_1.f x y = some (kbI x y) := by cases x <;> simp [span_Intersect_1.f, kbI]
theorem kS (x y : Bool) : span_Subtract_1.f x y = some (kbS x y) := by cases x <;> simp [span_Subtract_1.f, kbS]
theorem kC (x y : Bool) : span_Complement_1.f x y = some (kbC x y) := by cases x <;> simp [span_Complement_1.f, kbC]
theorem bind_self {α : Type} {g : Nat → Option α} {r : α} (h : Ev g r) : Ev (fun k => (g k).bind fun t => some t) r := by
  refine Ev.bind h ?_
  exact Ev.now _
def Gives (g : Nat → Option (List S33)) (W : Int → Prop) (n : Nat) : Prop := ∃ r, Ev g r ∧ IsSpan W r ∧ r.length ≤ n
theorem span_Of_ev (a : List S33) (hl : a.length < 1000000) : Gives (fun k => span_Of.f k a) (Mem a) (2 * a.length + 1) := by
  obtain ⟨r, h1, h2, h3⟩ := sweep_ev a [] (by simp; omega) kOf
  exact ⟨r, bind_self h1, h2.congr fun t _ _ => by simp [kbOf], by simpa using h3⟩
theorem span_Complement_ev (a : List S33) (hl : a.length < 1000000) : Gives (fun k => span_Complement.f k a) (fun t => ¬ Mem a t) (2 * a.length + 1) := by
  obtain ⟨r, h1, h2, h3⟩ := sweep_ev a [] (by simp; omega) kC
  exact ⟨r, bind_self h1, h2.congr fun t _ _ => by simp [kbC], by simpa using h3⟩
theorem span_Union_ev (a b : List S33) (hl : a.length + b.length < 1000000) : Gives (fun k => span_Union.f k a b) (fun t => Mem a t ∨ Mem b t) (2 * (a.length + b.length) + 1) := by
  obtain ⟨r, h1, h2, h3⟩ := sweep_ev a b (by omega) kU
  exact ⟨r, bind_self h1, h2.congr fun t _ _ => by simp [kbU], h3⟩
theorem span_Intersect_ev (a b : List S33) (hl : a.length + b.length < 1000000) : Gives (fun k => span_Intersect.f k a b) (fun t => Mem a t ∧ Mem b t) (2 * (a.length + b.length) + 1) := by
  obtain ⟨r, h1, h2, h3⟩ := sweep_ev a b (by omega) kI
  exact ⟨r, bind_self h1, h2.congr fun t _ _ => by simp [kbI], h3⟩
theorem span_Subtract_ev (a b : List S33) (hl : a.length + b.length < 1000000) : Gives (fun k => span_Subtract.f k a b) (fun t => Mem a t ∧ ¬ Mem b t) (2 * (a.length + b.length) + 1) := by
  obtain ⟨r, h1, h2, h3⟩ := sweep_ev a b (by omega) kS
  exact ⟨r, bind_self h1, h2.congr fun t _ _ => by simp [kbS], h3⟩
theorem ref03_Of_ev (a : List S33) (hl : a.length < 1000000) : Gives (fun k => bitemporalref03_Of.f k a) (Mem a) (2 * a.length + 2) := by
  obtain ⟨r, h1, h2, h3⟩ := combined_ev 2 a [] (by simp; omega)
  exact ⟨r, bind_self h1, h2.congr fun t _ _ => by simp [WW, wantB, Mem_nil], by simpa using h3⟩
theorem ref03_Complement_ev (a : List S33) (hl : a.length < 1000000) : Gives (fun k => bitemporalref03_Complement.f k a) (fun t => ¬ Mem a t) (2 * a.length + 2) := by
  obtain ⟨r, h1, h2, h3⟩ := combined_ev 4 a [] (by simp; omega)
  exact ⟨r, bind_self h1, h2.congr fun t _ _ => by simp [WW, wantB, Mem_nil], by simpa using h3⟩
theorem ref03_Union_ev (a b : List S33) (hl : a.length + b.length < 1000000) : Gives (fun k => bitemporalref03_Union.f k a b) (fun t => Mem a t ∨ Mem b t) (2 * (a.length + b.length) + 2) := by
  obtain ⟨r, h1, h2, h3⟩ := combined_ev 2 a b (by omega)
  exact ⟨r, bind_self h1, h2.congr fun t _ _ => by simp [WW, wantB], h3⟩
theorem ref03_Intersect_ev (a b : List S33) (hl : a.length + b.length < 1000000) : Gives (fun k => bitemporalref03_Intersect.f k a b) (fun t => Mem a t ∧ Mem b t) (2 * (a.length + b.length) + 2) := by
  obtain ⟨r, h1, h2, h3⟩ := combined_ev 1 a b (by omega)
  exact ⟨r, bind_self h1, h2.congr fun t _ _ => by simp [WW, wantB], h3⟩
theorem ref03_Subtract_ev (a b : List S33) (hl : a.length + b.length < 1000000) : Gives (fun k => bitemporalref03_Subtract.f k a b) (fun t => Mem a t ∧ ¬ Mem b t) (2 * (a.length + b.length) + 2) := by
  obtain ⟨r, h1, h2, h3⟩ := combined_ev 3 a b (by omega)
  exact ⟨r, bind_self h1, h2.congr fun t _ _ => by simp [WW, wantB], h3⟩
theorem Gives.same {g f : Nat → Option (List S33)} {W : Int → Prop} {n m : Nat} (h : Gives g W n) (k : Gives f W m) : ∃ r, Ev g r ∧ Ev f r ∧ IsSpan W r ∧ r.length ≤ n := by
  obtain ⟨r, h1, h2, h3⟩ := h
  obtain ⟨s, k1, k2, k3⟩ := k
  have := h2.eq k2
  subst this
  exact ⟨r, h1, k1, h2, h3⟩
theorem span_Contains_loop (l : List S33) (t : Int) (hl : l.length < 9223372036854775807) : ∀ (n i : Nat), l.length - i = n → i ≤ l.length →
    Ev (fun k => span_Contains.l0 k t l (l.length : Int) (i : Int)) (decide (Mem (l.drop i) t)) := by
  intro n
  induction n with
  | zero =>
    intro i hn hi
    refine Ev.step' ?_
    have hge : ¬ ((i : Int) < (l.length : Int)) := by omega
    simp only [span_Contains.l0, hge, if_false]
    rw [List.drop_of_length_le (by omega)]
    exact Ev.now _
  | succ n ih =>
    intro i hn hi
    refine Ev.step' ?_
    have hlt : (i : Int) < (l.length : Int) := by omega
    have hi' : i < l.length := by omega
    have h0 : (0 : Int) ≤ (i : Int) := by omega
    simp only [span_Contains.l0, hlt, h0, if_true, rd33 l i hi', pvalid_eq, Option.bind_some, w64n i (by omega), eta33]
    rw [List.drop_eq_getElem_cons hi']
    have no : ¬ InP l[i] t → Ev (fun k => span_Contains.l0 k t l (l.length : Int) ((i + 1 : Nat) : Int)) (decide (Mem (l[i] :: l.drop (i + 1)) t)) := fun hp => by
      rw [dec_eq (show Mem (l[i] :: l.drop (i + 1)) t ↔ Mem (l.drop (i + 1)) t by rw [Mem_cons]; simp [hp])]
      exact ih (i + 1) (by omega) (by omega)
    by_cases hv : Vld l[i]
    · simp only [hv, decide_true, if_true]
      by_cases h1 : l[i].f0 ≤ t
      · simp only [h1, if_true]
        by_cases h2 : t < l[i].f1
        · simp only [h2, if_true]
          rw [decide_eq_true (Mem_cons.2 (.inl ⟨hv, h1, h2⟩))]
          exact Ev.now _
        · simp only [h2, if_false]
          exact no fun h => h2 h.2.2
      · simp only [h1, if_false]
        exact no fun h => h1 h.2.1
    · simp only [hv, decide_false, Bool.false_eq_true, if_false]
      exact no fun h => hv h.1
theorem span_Contains_ev (l : List S33) (t : Int) (hl : l.length < 9223372036854775807) : Ev (fun k => span_Contains.f k l t) (decide (Mem l t)) := by
  have := span_Contains_loop l t hl l.length 0 (by omega) (by omega)
  simpa [span_Contains.f] using this
theorem isNil_eq (r : List S33) : ((r.length : Int) == 0) = r.isEmpty := by cases r with
  | nil => rfl
  | cons p r => simp; omega
theorem span_Covers_ev (a b : List S33) (hl : a.length + b.length < 1000000) : ∃ c : Bool, Ev (fun k => span_Covers.f k a b) c ∧ (c = true ↔ ∀ t, Mem b t → Mem a t) := by
  obtain ⟨r, h1, h2, _⟩ := span_Subtract_ev b a (by omega)
  refine ⟨r.isEmpty, ?_, ?_⟩
  · simp only [span_Covers.f]
    refine Ev.bind h1 ?_
    simp only [isNil_eq]
    exact Ev.now _
  · rw [List.isEmpty_iff, h2.nil_iff]
    constructor
    · intro h t hb
      have := h t (Mem_range hb).1 (Mem_range hb).2
      exact Classical.byContradiction fun hn => this ⟨hb, hn⟩
    · intro h t _ _ ⟨hb, hn⟩
      exact hn (h t hb)
theorem ref03_Covers_ev (a b : List S33) (hl : a.length + b.length < 1000000) : ∃ c : Bool, Ev (fun k => bitemporalref03_Covers.f k a b) c ∧ (c = true ↔ ∀ t, Mem b t → Mem a t) := by
  obtain ⟨r, h1, h2, _⟩ := ref03_Subtract_ev b a (by omega)
  refine ⟨r.isEmpty, ?_, ?_⟩
  · simp only [bitemporalref03_Covers.f]
    refine Ev.bind h1 ?_
    simp only [isNil_eq]
    exact Ev.now _
  · rw [List.isEmpty_iff, h2.nil_iff]
    constructor
    · intro h t hb
      have := h t (Mem_range hb).1 (Mem_range hb).2
      exact Classical.byContradiction fun hn => this ⟨hb, hn⟩
    · intro h t _ _ ⟨hb, hn⟩
      exact hn (h t hb)
def vb (l : List S33) (i : Nat) : Bool := decide (∀ j (h : j < l.length), i ≤ j → Vld l[j] ∧ (0 < j → (l[j - 1]'(by omega)).f1 < l[j].f0))
theorem vb_end (l : List S33) (i : Nat) (h : l.length ≤ i) : vb l i = true := decide_eq_true fun j hj hij => by omega
theorem vb_no (l : List S33) (i : Nat) (hi : i < l.length) (h : ¬ (Vld l[i] ∧ (0 < i → (l[i - 1]'(by omega)).f1 < l[i].f0))) : vb l i = false := decide_eq_false fun hc => h (hc i hi (Nat.le_refl _))
theorem vb_yes (l : List S33) (i : Nat) (hi : i < l.length) (h : Vld l[i] ∧ (0 < i → (l[i - 1]'(by omega)).f1 < l[i].f0)) : vb l i = vb l (i + 1) := by
  unfold vb
  refine dec_eq ⟨fun hc j hj hij => hc j hj (by omega), fun hc j hj hij => ?_⟩
  rcases Nat.lt_or_ge i j with c | c
  · exact hc j hj c
  · have : j = i := by omega
    subst this; exact h
theorem vb_sp {l : List S33} (h : Sp l) : vb l 0 = true := decide_eq_true fun j hj _ => ⟨h.1 _ (List.getElem_mem hj), fun hp => List.pairwise_iff_getElem.1 h.2 (j - 1) j (by omega) hj (by omega)⟩
theorem ref03_Valid_loop (l : List S33) (hl : l.length < 9223372036854775807) : ∀ (n i : Nat), l.length - i = n → i ≤ l.length → Ev (fun k => bitemporalref03_Valid.l0 k l (i : Int)) (vb l i) := by
  intro n
  induction n with
  | zero =>
    intro i hn hi
    refine Ev.step' ?_
    have hge : ¬ ((i : Int) < (l.length : Int)) := by omega
    simp only [bitemporalref03_Valid.l0, hge, if_false]
    rw [vb_end l i (by omega)]
    exact Ev.now _
  | succ n ih =>
    intro i hn hi
    refine Ev.step' ?_
    have hlt : (i : Int) < (l.length : Int) := by omega
    have hi' : i < l.length := by omega
    have h0 : (0 : Int) ≤ (i : Int) := by omega
    simp only [bitemporalref03_Valid.l0, hlt, h0, if_true, rd33 l i hi', valid_eq, Option.bind_some, w64n i (by omega), eta33]
    by_cases hv : Vld l[i]
    · simp only [hv, decide_true, if_true]
      by_cases hp : (i : Int) > 0
      · obtain ⟨m, rfl⟩ : ∃ m, i = m + 1 := ⟨i - 1, by omega⟩
        have c1 : (0 : Int) ≤ (m : Int) := by omega
        have c2 : (m : Int) < (l.length : Int) := by omega
        simp only [hp, if_true, w64p m (by omega), c1, c2, rd33 l m (by omega)]
        by_cases hg : (l[m]'(by omega)).f1 ≥ l[m + 1].f0
        · simp only [hg, if_true]
          rw [vb_no l (m + 1) hi' (fun h => by have := h.2 (by omega); simp only [Nat.add_sub_cancel] at this; omega)]
          exact Ev.now _
        · simp only [hg, if_false]
          rw [vb_yes l (m + 1) hi' ⟨hv, fun _ => by simp only [Nat.add_sub_cancel]; omega⟩]
          exact ih (m + 1 + 1) (by omega) (by omega)
      · simp only [hp, if_false]
        rw [vb_yes l i hi' ⟨hv, fun h => by omega⟩]
        exact ih (i + 1) (by omega) (by omega)
    · simp only [hv, decide_false, Bool.false_eq_true, if_false]
      rw [vb_no l i hi' (fun h => hv h.1)]
      exact Ev.now _
theorem ref03_Valid_ev (l : List S33) (hl : l.length < 9223372036854775807) : Ev (fun k => bitemporalref03_Valid.f k l) (vb l 0) := by
  have := ref03_Valid_loop l hl l.length 0 (by omega) (by omega)
  simpa [bitemporalref03_Valid.f] using this
theorem span_Valid_loop (l : List S33) (hl : l.length < 9223372036854775807) : ∀ (n i : Nat), l.length - i = n → i ≤ l.length → Ev (fun k => span_Valid.l0 k l l (l.length : Int) (i : Int)) (vb l i) := by
  intro n
  induction n with
  | zero =>
    intro i hn hi
    refine Ev.step' ?_
    have hge : ¬ ((i : Int) < (l.length : Int)) := by omega
    simp only [span_Valid.l0, hge, if_false]
    rw [vb_end l i (by omega)]
    exact Ev.now _
  | succ n ih =>
    intro i hn hi
    refine Ev.step' ?_
    have hlt : (i : Int) < (l.length : Int) := by omega
    have hi' : i < l.length := by omega
    have h0 : (0 : Int) ≤ (i : Int) := by omega
    simp only [span_Valid.l0, hlt, h0, if_true, rd33 l i hi', pvalid_eq, Option.bind_some, w64n i (by omega), eta33]
    by_cases hv : Vld l[i]
    · simp only [hv, decide_true, if_true]
      by_cases hp : (i : Int) > 0
      · obtain ⟨m, rfl⟩ : ∃ m, i = m + 1 := ⟨i - 1, by omega⟩
        have c1 : (0 : Int) ≤ (m : Int) := by omega
        have c2 : (m : Int) < (l.length : Int) := by omega
        simp only [hp, if_true, w64p m (by omega), c1, c2, rd33 l m (by omega)]
        by_cases hg : (l[m]'(by omega)).f1 ≥ l[m + 1].f0
        · simp only [hg, if_true]
          rw [vb_no l (m + 1) hi' (fun h => by have := h.2 (by omega); simp only [Nat.add_sub_cancel] at this; omega)]
          exact Ev.now _
        · simp only [hg, if_false]
          rw [vb_yes l (m + 1) hi' ⟨hv, fun _ => by simp only [Nat.add_sub_cancel]; omega⟩]
          exact ih (m + 1 + 1) (by omega) (by omega)
      · simp only [hp, if_false]
        rw [vb_yes l i hi' ⟨hv, fun h => by omega⟩]
        exact ih (i + 1) (by omega) (by omega)
    · simp only [hv, decide_false, Bool.false_eq_true, if_false]
      rw [vb_no l i hi' (fun h => hv h.1)]
      exact Ev.now _
theorem span_Valid_ev (l : List S33) (hl : l.length < 9223372036854775807) : Ev (fun k => span_Valid.f k l) (vb l 0) := by
  have := span_Valid_loop l hl l.length 0 (by omega) (by omega)
  simpa [span_Valid.f] using this
end Go.Proofs.Ytdcelpppgbmlaaa.P
