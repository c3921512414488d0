/- Plain law: the reference's Join and combined: the span of a combination. No condition. -/
import Derived.Test.YtdcelpppgbmlaaaTMRef03
namespace Go.Proofs.Ytdcelpppgbmlaaa.P
open Go.RowKit Go.Proofs.YtdcelpppgbmlaaaW.PrintWords Go.Proofs.YtdcelpppgbmlaaaW.PrintMore
set_option linter.unusedSimpArgs false
set_option linter.unusedVariables false
theorem w64p (j : Nat) (h : j < 9223372036854775807) : wrap64 (((j + 1 : Nat) : Int) - 1) = (j : Int) := by rw [w64 (by omega) (by omega)]; omega
theorem last_cases {α : Type} (l : List α) : l = [] ∨ ∃ s p, l = s ++ [p] := by
  rcases List.eq_nil_or_concat l with h | ⟨s, p, h⟩
  · exact .inl h
  · exact .inr ⟨s, p, by simpa using h⟩
theorem Join_eq {W : Int → Prop} {a b : Int} {out : List S33} (h : Upto W a out) (h0 : 0 ≤ a) (hab : a < b) (hb : b ≤ FV) (hw : ∀ t, a ≤ t → t < b → W t) (hl : out.length < 1000000000) :
    ∃ r, bitemporalref03_Join.f out a b = some r ∧ Upto W b r ∧ r.length ≤ out.length + 1 := by
  have push : (∀ p ∈ out, p.f1 < a) → ∃ r, some (out ++ [(⟨a, b⟩ : S33)]) = some r ∧ Upto W b r ∧ r.length ≤ out.length + 1 :=
    fun hg => ⟨_, rfl, h.push h0 hab hb hw hg, by simp⟩
  have hsz : out.length < 8796093022208 := by omega
  unfold bitemporalref03_Join.f
  rcases last_cases out with rfl | ⟨s, p, rfl⟩
  · rw [if_neg (by simp)]
    simp only [hsz, if_true]
    exact push (by simp)
  · have hn : (s ++ [p]).length = s.length + 1 := by simp
    have hi : wrap64 (((s ++ [p]).length : Int) - 1) = (s.length : Int) := by rw [hn]; exact w64p _ (by omega)
    have hrd : rd_T33 (s ++ [p]) ((s.length : Nat) : Int) = p := by rw [rd33 _ _ (by simp)]; simp
    have hpos : ((s ++ [p]).length : Int) > 0 := by omega
    have h1 : (0 : Int) ≤ (s.length : Int) := by omega
    have h2 : (s.length : Int) < ((s ++ [p]).length : Int) := by omega
    have h3 : (s.length : Int) ≤ ((s ++ [p]).length : Int) := by omega
    simp only [hi, hrd, hpos, h1, h2, h3, if_true, Int.toNat_natCast, Option.bind_some]
    have hpa := h.hi p (by simp)
    by_cases hge : p.f1 ≥ a
    · have he : p.f1 = a := by omega
      have ht : (s ++ [p]).take s.length = s := by simp
      have hs1 : ([] : List S33).length + s.length < 8796093022208 := by simp; omega
      have hs2 : ([] ++ s : List S33).length < 8796093022208 := by simp; omega
      have hmx : mx p.f1 b = b := by unfold mx; rw [if_pos (by omega)]
      simp only [hge, if_true, ht, hs1, hs2, hmx]
      have hj : Upto W a (s ++ [⟨p.f0, a⟩]) := by
        have : (⟨p.f0, a⟩ : S33) = p := S33_ext rfl he.symm
        rw [this]; exact h
      exact ⟨_, rfl, by rw [List.nil_append]; exact hj.join hab hb hw, by simp⟩
    · simp only [hge, if_false, hsz, if_true]
      refine push fun q hq => ?_
      rcases List.mem_append.1 hq with hq | hq
      · have := (List.pairwise_append.1 h.sp.2).2.2 q hq p (by simp)
        have hv := h.sp.1 p (by simp)
        unfold Vld at hv
        omega
      · obtain rfl := List.mem_singleton.1 hq
        omega
def wantB (kind : Int) (x y : Bool) : Bool := if kind = 1 then x && y else if kind = 2 then x || y else if kind = 3 then x && !y else !x && !y
theorem wanted_eq (kind : Int) (x y : Bool) : bitemporalref03_wanted.f kind x y = some (wantB kind x y) := by
  unfold bitemporalref03_wanted.f wantB
  by_cases h1 : kind = 1
  · cases x <;> simp [h1]
  · by_cases h2 : kind = 2
    · cases x <;> simp [h2]
    · by_cases h3 : kind = 3
      · cases x <;> simp [h3]
      · cases x <;> simp [h1, h2, h3]
def WW (kind : Int) (a b : List S33) (t : Int) : Prop := wantB kind (decide (Mem a t)) (decide (Mem b t)) = true
theorem WW_still {kind : Int} {a b : List S33} {x y t : Int} (ha : ∀ z, (∃ p ∈ a, Vld p ∧ (z = p.f0 ∨ z = p.f1)) → z ≤ x ∨ y ≤ z) (hb : ∀ z, (∃ p ∈ b, Vld p ∧ (z = p.f0 ∨ z = p.f1)) → z ≤ x ∨ y ≤ z) (h0 : x ≤ t) (h1 : t < y) : WW kind a b t ↔ WW kind a b x := by
  unfold WW
  rw [dec_eq (Mem_still ha h0 h1), dec_eq (Mem_still hb h0 h1)]
theorem combined_loop (kind : Int) (a b : List S33) (P : List Int) (hA : Asc P) (hr : ∀ x ∈ P, 0 ≤ x ∧ x ≤ FV) (hl : P.length < 100000000) (hla : a.length < 100000000) (hlb : b.length < 100000000)
    (ha : ∀ z, (∃ p ∈ a, Vld p ∧ (z = p.f0 ∨ z = p.f1)) → z ∈ P) (hb : ∀ z, (∃ p ∈ b, Vld p ∧ (z = p.f0 ∨ z = p.f1)) → z ∈ P) :
    ∀ (n j : Nat) (out : List S33) (hj : j < P.length), P.length - (j + 1) = n → Upto (WW kind a b) (P[j]) out → out.length ≤ j →
    ∃ r, Ev (fun k => bitemporalref03_combined.l0 k kind a b P out ((j + 1 : Nat) : Int)) r ∧ Upto (WW kind a b) (P[P.length - 1]'(by omega)) r ∧ r.length ≤ P.length := by
  intro n
  induction n with
  | zero =>
    intro j out hj hn hu ho
    have hge : ¬ (((j + 1 : Nat) : Int) < (P.length : Int)) := by omega
    have e : P.length - 1 = j := by omega
    refine ⟨out, Ev.step' ?_, by simpa only [e] using hu, by omega⟩
    simp only [bitemporalref03_combined.l0, hge, if_false]
    exact Ev.now _
  | succ n ih =>
    intro j out hj hn hu ho
    have hlt : ((j + 1 : Nat) : Int) < (P.length : Int) := by omega
    have hj1 : j + 1 < P.length := by omega
    have hw1 : wrap64 (((j + 1 : Nat) : Int) - 1) = (j : Int) := w64p j (by omega)
    have hw2 : wrap64 (((j + 1 : Nat) : Int) + 1) = ((j + 1 + 1 : Nat) : Int) := w64n (j + 1) (by omega)
    have h0 : (0 : Int) ≤ (j : Int) := by omega
    have h0' : (0 : Int) ≤ ((j + 1 : Nat) : Int) := by omega
    have h1 : (j : Int) < (P.length : Int) := by omega
    have hlt2 : P[j] < P[j + 1] := List.pairwise_iff_getElem.1 hA j (j + 1) hj hj1 (by omega)
    have hR0 := hr P[j] (List.getElem_mem hj)
    have hR1 := hr P[j + 1] (List.getElem_mem hj1)
    have btw : ∀ z ∈ P, z ≤ P[j] ∨ P[j + 1] ≤ z := by
      intro z hz
      obtain ⟨i, hi, rfl⟩ := List.getElem_of_mem hz
      rcases Nat.lt_trichotomy i j with h | h | h
      · exact .inl (Int.le_of_lt (List.pairwise_iff_getElem.1 hA i j hi hj h))
      · subst h; exact .inl (Int.le_refl _)
      · rcases Nat.lt_or_ge (j + 1) i with h' | h'
        · exact .inr (Int.le_of_lt (List.pairwise_iff_getElem.1 hA (j + 1) i hj1 hi h'))
        · have : i = j + 1 := by omega
          subst this; exact .inr (Int.le_refl _)
    have still : ∀ t, P[j] ≤ t → t < P[j + 1] → (WW kind a b t ↔ WW kind a b P[j]) := fun t x y => WW_still (fun z hz => btw z (ha z hz)) (fun z hz => btw z (hb z hz)) x y
    have go : ∀ out', Upto (WW kind a b) P[j + 1] out' → out'.length ≤ j + 1 →
        ∃ r, Ev (fun k => bitemporalref03_combined.l0 k kind a b P out' ((j + 1 + 1 : Nat) : Int)) r ∧ Upto (WW kind a b) (P[P.length - 1]'(by omega)) r ∧ r.length ≤ P.length := fun out' hu' ho' => ih (j + 1) out' hj1 (by omega) hu' ho'
    have unf : ∀ {r}, Ev (fun k => if wantB kind (decide (Mem a P[j])) (decide (Mem b P[j])) = true then (bitemporalref03_Join.f out P[j] P[j + 1]).bind fun t351 => bitemporalref03_combined.l0 k kind a b P t351 ((j + 1 + 1 : Nat) : Int) else bitemporalref03_combined.l0 k kind a b P out ((j + 1 + 1 : Nat) : Int)) r →
        Ev (fun k => bitemporalref03_combined.l0 k kind a b P out ((j + 1 : Nat) : Int)) r := by
      intro r hE
      refine Ev.step' ?_
      simp only [bitemporalref03_combined.l0, hlt, hw1, hw2, h0, h0', h1, if_true, rdI P j hj, rdI P (j + 1) hj1]
      refine Ev.bind (ref03_Contains_ev a P[j] (by omega)) ?_
      refine Ev.bind (ref03_Contains_ev b P[j] (by omega)) ?_
      simp only [wanted_eq, Option.bind_some]
      exact hE
    by_cases hw : wantB kind (decide (Mem a P[j])) (decide (Mem b P[j])) = true
    · obtain ⟨o2, hj2, hu2, hl2⟩ := Join_eq hu hR0.1 hlt2 hR1.2 (fun t x y => (still t x y).2 hw) (by omega)
      obtain ⟨r, hE, hu', hl'⟩ := go o2 hu2 (by omega)
      refine ⟨r, unf ?_, hu', hl'⟩
      simp only [hw, if_true, hj2, Option.bind_some]
      exact hE
    · obtain ⟨r, hE, hu', hl'⟩ := go out (hu.skip (by omega) (fun t x y hc => hw ((still t x y).1 hc))) (by omega)
      refine ⟨r, unf ?_, hu', hl'⟩
      simp only [hw, if_false]
      exact hE
theorem combined_ev (kind : Int) (a b : List S33) (hl : a.length + b.length < 10000000) :
    ∃ r, Ev (fun k => bitemporalref03_combined.f k kind a b) r ∧ IsSpan (WW kind a b) r ∧ r.length ≤ 2 * (a.length + b.length) + 2 := by
  have hall : ∀ z, (∃ p ∈ ([(⟨0, 1099511627776⟩ : S33)] ++ a) ++ b, Vld p ∧ (z = p.f0 ∨ z = p.f1)) ↔ z ∈ pts (([(⟨0, 1099511627776⟩ : S33)] ++ a) ++ b) [] := fun z => by rw [mem_pts]; simp
  have hA : Asc (pts (([(⟨0, 1099511627776⟩ : S33)] ++ a) ++ b) []) := pts_asc _ List.Pairwise.nil
  have hL := pts_length (([(⟨0, 1099511627776⟩ : S33)] ++ a) ++ b) []
  have hr : ∀ x ∈ pts (([(⟨0, 1099511627776⟩ : S33)] ++ a) ++ b) [], 0 ≤ x ∧ x ≤ FV := fun x hx => by
    obtain ⟨p, _, hv, h⟩ := (hall x).2 hx
    unfold Vld at hv
    rcases h with rfl | rfl <;> omega
  have h0 : (0 : Int) ∈ pts (([(⟨0, 1099511627776⟩ : S33)] ++ a) ++ b) [] := (hall 0).1 ⟨⟨0, 1099511627776⟩, by simp, by decide, .inl rfl⟩
  have h1 : FV ∈ pts (([(⟨0, 1099511627776⟩ : S33)] ++ a) ++ b) [] := (hall FV).1 ⟨⟨0, 1099511627776⟩, by simp, by decide, .inr rfl⟩
  have ha : ∀ z, (∃ p ∈ a, Vld p ∧ (z = p.f0 ∨ z = p.f1)) → z ∈ pts (([(⟨0, 1099511627776⟩ : S33)] ++ a) ++ b) [] := fun z ⟨p, hp, h⟩ => (hall z).1 ⟨p, by simp [hp], h⟩
  have hb : ∀ z, (∃ p ∈ b, Vld p ∧ (z = p.f0 ∨ z = p.f1)) → z ∈ pts (([(⟨0, 1099511627776⟩ : S33)] ++ a) ++ b) [] := fun z ⟨p, hp, h⟩ => (hall z).1 ⟨p, by simp [hp], h⟩
  have hPev := ref03_Points_ev (([(⟨0, 1099511627776⟩ : S33)] ++ a) ++ b) (by simp; omega)
  have hlen : (([(⟨0, 1099511627776⟩ : S33)] ++ a) ++ b).length = 1 + a.length + b.length := by simp; omega
  rw [hlen] at hL
  generalize pts (([(⟨0, 1099511627776⟩ : S33)] ++ a) ++ b) [] = P at *
  have hL' : P.length ≤ 2 * (a.length + b.length) + 2 := by simp at hL; omega
  obtain ⟨i0, hi0, e0⟩ := List.getElem_of_mem h0
  obtain ⟨i1, hi1, e1⟩ := List.getElem_of_mem h1
  have p0 : P[0]'(by omega) = 0 := by
    rcases Nat.eq_zero_or_pos i0 with h | h
    · subst h; exact e0
    · have := List.pairwise_iff_getElem.1 hA 0 i0 (by omega) hi0 h
      have h2 := (hr (P[0]'(by omega)) (List.getElem_mem _)).1
      omega
  have pl : P[P.length - 1]'(by omega) = FV := by
    rcases Nat.lt_or_ge i1 (P.length - 1) with h | h
    · have := List.pairwise_iff_getElem.1 hA i1 (P.length - 1) hi1 (by omega) h
      have h2 := (hr (P[P.length - 1]'(by omega)) (List.getElem_mem _)).2
      omega
    · have : P.length - 1 = i1 := by omega
      simp only [this]; exact e1
  obtain ⟨r, hE, hu, hrl⟩ := combined_loop kind a b P hA hr (by omega) (by omega) (by omega) ha hb (P.length - 1) 0 [] (by omega) (by omega) (by rw [p0]; exact Upto.zero _) (Nat.le_refl _)
  rw [pl] at hu
  refine ⟨r, ?_, hu.done, by omega⟩
  have s1 : ([] : List S33).length < 8796093022208 := by simp
  have s2 : ([(⟨0, 1099511627776⟩ : S33)] : List S33).length + a.length < 8796093022208 := by simp; omega
  have s3 : ([(⟨0, 1099511627776⟩ : S33)] ++ a : List S33).length + b.length < 8796093022208 := by simp; omega
  simp only [bitemporalref03_combined.f, s1, if_true, List.nil_append, Option.bind_some, s2, s3]
  refine Ev.bind hPev ?_
  exact hE
end Go.Proofs.Ytdcelpppgbmlaaa.P
