/- Plain law: Same, Valid, Contains, Points, Slices, Length, Next, Covers of the program and of the reference agree. No condition. -/
import Derived.Test.YtdcelpppgbmlaaaVMSweep
import Derived.Test.YtdcelpppgbmlaaaVPSpanc
import Derived.Test.YtdcelpppgbmlaaaVPSpanb
import Derived.Test.YtdcelpppgbmlaaaVP0
import Derived.Test.YtdcelpppgbmlaaaVPPeriod
import Derived.Test.YtdcelpppgbmlaaaVPRef01
namespace Go.Proofs.Ytdcelpppgbmlaaa.P
open Go.RowKit Go.Proofs.YtdcelpppgbmlaaaW.PrintWords Go.Proofs.YtdcelpppgbmlaaaW.PrintMore
set_option linter.unusedSimpArgs false
set_option linter.unusedVariables false
theorem eta33 (p : S33) : (⟨p.f0, p.f1⟩ : S33) = p := rfl
theorem Same_loop (l : List S33) (hl : l.length < 9223372036854775807) : ∀ (n i : Nat), l.length - i = n → i ≤ l.length → Ev (fun k => bitemporalref01_Same.l0 k l l (i : Int)) true := by
  intro n
  induction n with
  | zero =>
    intro i hn hi
    refine Ev.step' ?_
    have hge : ¬ ((i : Int) < (l.length : Int)) := by omega
    simp only [bitemporalref01_Same.l0, hge, if_false]
    exact Ev.now _
  | succ n ih =>
    intro i hn hi
    refine Ev.step' ?_
    have hlt : (i : Int) < (l.length : Int) := by omega
    have h0 : (0 : Int) ≤ (i : Int) := by omega
    simp only [bitemporalref01_Same.l0, hlt, h0, if_true, w64n i (by omega), beq_self_eq_true, Bool.not_true, Bool.or_false, Bool.false_eq_true, if_false]
    exact ih (i + 1) (by omega) (by omega)
theorem Same_ev (l : List S33) (hl : l.length < 9223372036854775807) : Ev (fun k => bitemporalref01_Same.f k l l) true := by
  simp only [bitemporalref01_Same.f, if_true]
  exact Same_loop l hl l.length 0 (by omega) (by omega)
theorem SameInts_loop (l : List Int) (hl : l.length < 9223372036854775807) : ∀ (n i : Nat), l.length - i = n → i ≤ l.length → Ev (fun k => bitemporalref03_SameInts.l0 k l l (i : Int)) true := by
  intro n
  induction n with
  | zero =>
    intro i hn hi
    refine Ev.step' ?_
    have hge : ¬ ((i : Int) < (l.length : Int)) := by omega
    simp only [bitemporalref03_SameInts.l0, hge, if_false]
    exact Ev.now _
  | succ n ih =>
    intro i hn hi
    refine Ev.step' ?_
    have hlt : (i : Int) < (l.length : Int) := by omega
    have h0 : (0 : Int) ≤ (i : Int) := by omega
    simp only [bitemporalref03_SameInts.l0, hlt, h0, if_true, w64n i (by omega)]
    exact ih (i + 1) (by omega) (by omega)
theorem SameInts_ev (l : List Int) (hl : l.length < 9223372036854775807) : Ev (fun k => bitemporalref03_SameInts.f k l l) true := by
  simp only [bitemporalref03_SameInts.f, if_true]
  exact SameInts_loop l hl l.length 0 (by omega) (by omega)
def kbOf (a _b : Bool) : Bool := a
def kbU (a b : Bool) : Bool := a || b
def kbI (a b : Bool) : Bool := a && b
def kbS (a b : Bool) : Bool := a && !b
def kbC (a _b : Bool) : Bool := !a
theorem kOf (x y : Bool) : span_Of_1.f x y = some (kbOf x y) := rfl
theorem kU (x y : Bool) : span_Union_1.f x y = some (kbU x y) := by cases x <;> simp [span_Union_1.f, kbU]
theorem kI (x y : Bool) : span_Intersect_1.f x y = some (kbI x y) := by cases x <;> simp [span_Intersect_1.f, kbI]
theorem kS (x y : Bool) : span_Subtract_1.f x y = some (kbS x y) := by cases x <;> simp [span_Subtract_1.f, kbS]
theorem kC (x y : Bool) : span_Complement_1.f x y = some (kbC x y) := by cases x <;> simp [span_Complement_1.f, kbC]
theorem bind_self {α : Type} {g : Nat → Option α} {r : α} (h : Ev g r) : Ev (fun k => (g k).bind fun t => some t) r := by
  refine Ev.bind h ?_
  exact Ev.now _
def Gives (g : Nat → Option (List S33)) (W : Int → Prop) (n : Nat) : Prop := ∃ r, Ev g r ∧ IsSpan W r ∧ r.length ≤ n
theorem Gives.mono {g : Nat → Option (List S33)} {W W' : Int → Prop} {n m : Nat} (h : Gives g W n) (he : ∀ t, 0 ≤ t → t < FV → (W t ↔ W' t)) (hm : n ≤ m) : Gives g W' m := by
  obtain ⟨r, h1, h2, h3⟩ := h
  exact ⟨r, h1, h2.congr he, by omega⟩
theorem span_Of_ev (a : List S33) (hl : a.length < 1000000) : Gives (fun k => span_Of.f k a) (Mem a) (2 * a.length + 1) := by
  obtain ⟨r, h1, h2, h3⟩ := sweep_ev a [] (by simp; omega) kOf
  exact ⟨r, bind_self h1, h2.congr fun t _ _ => by simp [kbOf], by simpa using h3⟩
theorem span_Complement_ev (a : List S33) (hl : a.length < 1000000) : Gives (fun k => span_Complement.f k a) (fun t => ¬ Mem a t) (2 * a.length + 1) := by
  obtain ⟨r, h1, h2, h3⟩ := sweep_ev a [] (by simp; omega) kC
  exact ⟨r, bind_self h1, h2.congr fun t _ _ => by simp [kbC], by simpa using h3⟩
theorem span_Union_ev (a b : List S33) (hl : a.length + b.length < 1000000) : Gives (fun k => span_Union.f k a b) (fun t => Mem a t ∨ Mem b t) (2 * (a.length + b.length) + 1) := by
  obtain ⟨r, h1, h2, h3⟩ := sweep_ev a b (by omega) kU
  exact ⟨r, bind_self h1, h2.congr fun t _ _ => by simp [kbU], h3⟩
theorem span_Intersect_ev (a b : List S33) (hl : a.length + b.length < 1000000) : Gives (fun k => span_Intersect.f k a b) (fun t => Mem a t ∧ Mem b t) (2 * (a.length + b.length) + 1) := by
  obtain ⟨r, h1, h2, h3⟩ := sweep_ev a b (by omega) kI
  exact ⟨r, bind_self h1, h2.congr fun t _ _ => by simp [kbI], h3⟩
theorem span_Subtract_ev (a b : List S33) (hl : a.length + b.length < 1000000) : Gives (fun k => span_Subtract.f k a b) (fun t => Mem a t ∧ ¬ Mem b t) (2 * (a.length + b.length) + 1) := by
  obtain ⟨r, h1, h2, h3⟩ := sweep_ev a b (by omega) kS
  exact ⟨r, bind_self h1, h2.congr fun t _ _ => by simp [kbS], h3⟩
theorem Gives.same {g f : Nat → Option (List S33)} {W : Int → Prop} {n m : Nat} (h : Gives g W n) (k : Gives f W m) : ∃ r, Ev g r ∧ Ev f r ∧ IsSpan W r ∧ r.length ≤ n := by
  obtain ⟨r, h1, h2, h3⟩ := h
  obtain ⟨s, k1, k2, k3⟩ := k
  have := h2.eq k2
  subst this
  exact ⟨r, h1, k1, h2, h3⟩
theorem isNil_eq (r : List S33) : ((r.length : Int) == 0) = r.isEmpty := by cases r with
  | nil => rfl
  | cons p r => simp; omega
theorem span_Covers_ev (a b : List S33) (hl : a.length + b.length < 1000000) : ∃ c : Bool, Ev (fun k => span_Covers.f k a b) c ∧ (c = true ↔ ∀ t, Mem b t → Mem a t) := by
  obtain ⟨r, h1, h2, _⟩ := span_Subtract_ev b a (by omega)
  refine ⟨r.isEmpty, ?_, ?_⟩
  · simp only [span_Covers.f]
    refine Ev.bind h1 ?_
    simp only [isNil_eq]
    exact Ev.now _
  · rw [List.isEmpty_iff, h2.nil_iff]
    constructor
    · intro h t hb
      have := h t (Mem_range hb).1 (Mem_range hb).2
      exact Classical.byContradiction fun hn => this ⟨hb, hn⟩
    · intro h t _ _ ⟨hb, hn⟩
      exact hn (h t hb)
def vb (l : List S33) (i : Nat) : Bool := decide (∀ j (h : j < l.length), i ≤ j → Vld l[j] ∧ (0 < j → (l[j - 1]'(by omega)).f1 < l[j].f0))
end Go.Proofs.Ytdcelpppgbmlaaa.P
