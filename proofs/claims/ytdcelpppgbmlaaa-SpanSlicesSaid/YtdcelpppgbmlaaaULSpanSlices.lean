/- Plain law: the law SpanSlices answers true, whatever it is given. No condition. -/
import Derived.Test.YtdcelpppgbmlaaaULAwake
import Derived.Test.YtdcelpppgbmlaaaUPLaw03c
namespace Go.Proofs.Ytdcelpppgbmlaaa.P
open Go.RowKit Go.Proofs.YtdcelpppgbmlaaaW.PrintWords Go.Proofs.YtdcelpppgbmlaaaW.PrintMore
set_option linter.unusedSimpArgs false
set_option linter.unusedVariables false
def Bnd (l : List S33) (z : Int) : Prop := ∃ p ∈ l, Vld p ∧ (z = p.f0 ∨ z = p.f1)
theorem slc_law (l : List S33) : ∀ P : List Int, Asc P → (∀ z, Bnd l z → z ∈ P ∨ ∀ x ∈ P, z < x) →
    (∀ p ∈ slc l P, p.f0 ∈ P ∧ p.f1 ∈ P ∧ p.f0 < p.f1 ∧ Mem l p.f0 ∧ ∀ z, Bnd l z → z ≤ p.f0 ∨ p.f1 ≤ z) ∧ (slc l P).Pairwise (fun p q => p.f1 ≤ q.f0) ∧
    (∀ t, Mem l t → (∃ x ∈ P, x ≤ t) → (∃ y ∈ P, t < y) → ∃ p ∈ slc l P, p.f0 ≤ t ∧ t < p.f1)
  | [], _, _ => by simp [slc]
  | [a], _, _ => by
    simp only [slc]
    refine ⟨by simp, List.Pairwise.nil, fun t _ ⟨x, hx, h1⟩ ⟨y, hy, h2⟩ => ?_⟩
    obtain rfl := List.mem_singleton.1 hx
    obtain rfl := List.mem_singleton.1 hy
    omega
  | a :: b :: r, hA, hz => by
    have hA' := List.pairwise_cons.1 hA
    obtain ⟨h1, h2, h3⟩ := slc_law l (b :: r) hA'.2 (fun z hzb => by
      rcases hz z hzb with h | h
      · rcases List.mem_cons.1 h with rfl | h
        · exact .inr hA'.1
        · exact .inl h
      · exact .inr fun x hx => h x (List.mem_cons_of_mem _ hx))
    have hab := hA'.1 b List.mem_cons_self
    have hbr := List.pairwise_cons.1 hA'.2
    have hgap : ∀ z, Bnd l z → z ≤ a ∨ b ≤ z := fun z hzb => by
      rcases hz z hzb with h | h
      · rcases List.mem_cons.1 h with rfl | h
        · exact .inl (Int.le_refl _)
        · rcases List.mem_cons.1 h with rfl | h
          · exact .inr (Int.le_refl _)
          · exact .inr (Int.le_of_lt (hbr.1 z h))
      · exact .inl (Int.le_of_lt (h a List.mem_cons_self))
    have hlow : ∀ q ∈ slc l (b :: r), b ≤ q.f0 := fun q hq => by
      rcases List.mem_cons.1 (h1 q hq).1 with h | h
      · omega
      · exact Int.le_of_lt (hbr.1 _ h)
    have hold : ∀ p ∈ slc l (b :: r), p.f0 ∈ a :: b :: r ∧ p.f1 ∈ a :: b :: r ∧ p.f0 < p.f1 ∧ Mem l p.f0 ∧ ∀ z, Bnd l z → z ≤ p.f0 ∨ p.f1 ≤ z := fun p hp => by
      obtain ⟨c1, c2, c3, c4, c5⟩ := h1 p hp
      exact ⟨List.mem_cons_of_mem _ c1, List.mem_cons_of_mem _ c2, c3, c4, c5⟩
    have hfar : ∀ t, Mem l t → b ≤ t → (∃ y ∈ a :: b :: r, t < y) → ∃ p ∈ slc l (b :: r), p.f0 ≤ t ∧ t < p.f1 := fun t ht hbt ⟨y, hy, hty⟩ => by
      refine h3 t ht ⟨b, List.mem_cons_self, hbt⟩ ?_
      rcases List.mem_cons.1 hy with rfl | hy
      · omega
      · exact ⟨y, hy, hty⟩
    have hnear : ∀ t, (∃ x ∈ a :: b :: r, x ≤ t) → a ≤ t := fun t ⟨x, hx, hxt⟩ => by
      rcases List.mem_cons.1 hx with rfl | hx
      · exact hxt
      · have := hA'.1 x hx; omega
    rw [slc]
    split
    · rename_i hm
      refine ⟨fun p hp => ?_, List.pairwise_cons.2 ⟨hlow, h2⟩, fun t ht hx hy => ?_⟩
      · rcases List.mem_cons.1 hp with rfl | hp
        · exact ⟨List.mem_cons_self, List.mem_cons_of_mem _ List.mem_cons_self, hab, hm, hgap⟩
        · exact hold p hp
      · rcases Int.lt_or_le t b with c | c
        · exact ⟨⟨a, b⟩, List.mem_cons_self, hnear t hx, c⟩
        · obtain ⟨p, hp, h⟩ := hfar t ht c hy
          exact ⟨p, List.mem_cons_of_mem _ hp, h⟩
    · rename_i hm
      refine ⟨hold, h2, fun t ht hx hy => ?_⟩
      rcases Int.lt_or_le t b with c | c
      · exact absurd ((Mem_still hgap (hnear t hx) c).1 ht) hm
      · exact hfar t ht c hy
theorem Slices_law (l : List S33) : (∀ p ∈ slc l (pts l []), Vld p ∧ ∀ q ∈ l, Vld q → p.f0 < q.f1 → q.f0 < p.f1 → q.f0 ≤ p.f0 ∧ p.f1 ≤ q.f1) ∧ (slc l (pts l [])).Pairwise (fun p q => p.f1 ≤ q.f0) ∧ ∀ t, Mem (slc l (pts l [])) t ↔ Mem l t := by
  have hin : ∀ z, z ∈ pts l [] ↔ Bnd l z := fun z => by rw [mem_pts]; simp [Bnd]
  obtain ⟨h1, h2, h3⟩ := slc_law l (pts l []) (pts_asc l List.Pairwise.nil) fun z hz => .inl ((hin z).2 hz)
  have hr : ∀ z, Bnd l z → 0 ≤ z ∧ z ≤ FV := fun z ⟨p, _, hv, h⟩ => by
    unfold Vld at hv
    rcases h with rfl | rfl <;> omega
  have hv : ∀ p ∈ slc l (pts l []), Vld p := fun p hp => by
    obtain ⟨c1, c2, c3, _, _⟩ := h1 p hp
    exact ⟨(hr _ ((hin _).1 c1)).1, c3, (hr _ ((hin _).1 c2)).2⟩
  refine ⟨fun p hp => ⟨hv p hp, fun q hq hqv ha hb => ?_⟩, h2, fun t => ⟨fun ⟨p, hp, hin⟩ => ?_, fun ht => ?_⟩⟩
  · obtain ⟨_, _, _, _, c5⟩ := h1 p hp
    have d0 := c5 q.f0 ⟨q, hq, hqv, .inl rfl⟩
    have d1 := c5 q.f1 ⟨q, hq, hqv, .inr rfl⟩
    omega
  · obtain ⟨_, _, _, c4, c5⟩ := h1 p hp
    exact (Mem_still c5 hin.2.1 hin.2.2).2 c4
  · obtain ⟨q, hq, hqin⟩ := ht
    obtain ⟨p, hp, h4, h5⟩ := h3 t ⟨q, hq, hqin⟩ ⟨q.f0, (hin _).2 ⟨q, hq, hqin.1, .inl rfl⟩, hqin.2.1⟩ ⟨q.f1, (hin _).2 ⟨q, hq, hqin.1, .inr rfl⟩, hqin.2.2⟩
    exact ⟨p, hp, hv p hp, h4, h5⟩
theorem overlaps1_eq (p q : S33) : bitemporalref01_Overlaps.f p.f0 p.f1 q.f0 q.f1 = some (decide (Vld p ∧ Vld q ∧ p.f0 < q.f1 ∧ q.f0 < p.f1)) := by
  unfold bitemporalref01_Overlaps.f
  rw [valid_eq, valid_eq, Option.bind_some, Option.bind_some, eta33, eta33]
  by_cases a : Vld p <;> by_cases b : Vld q <;> by_cases c : p.f0 < q.f1 <;> simp [a, b, c]
theorem covers1_eq (p q : S33) : bitemporalref01_Covers.f p.f0 p.f1 q.f0 q.f1 = some (decide (Vld p ∧ Vld q ∧ p.f0 ≤ q.f0 ∧ q.f1 ≤ p.f1)) := by
  unfold bitemporalref01_Covers.f
  rw [valid_eq, valid_eq, Option.bind_some, Option.bind_some, eta33, eta33]
  by_cases a : Vld p <;> by_cases b : Vld q <;> by_cases c : p.f0 ≤ q.f0 <;> simp [a, b, c]
theorem SpanSlices_inner (l S : List S33) (hl : l.length < 1000000) (hS : S.length < 1000000) (i : Nat) (hi : i < S.length) (hc : Vld S[i] ∧ ∀ q ∈ l, Vld q → S[i].f0 < q.f1 → q.f0 < S[i].f1 → q.f0 ≤ S[i].f0 ∧ S[i].f1 ≤ q.f1)
    (hnext : Ev (fun k => bitemporallaw03_SpanSlices.l0 k l S ((i + 1 : Nat) : Int)) true) : ∀ (n j : Nat), l.length - j = n → j ≤ l.length → Ev (fun k => bitemporallaw03_SpanSlices.l1 k l S (i : Int) (j : Int)) true := by
  intro n
  induction n with
  | zero =>
    intro j hn hj
    refine Ev.step' ?_
    have hge : ¬ ((j : Int) < (l.length : Int)) := by omega
    simp only [bitemporallaw03_SpanSlices.l1, hge, if_false, w64n i (by omega)]
    exact hnext
  | succ n ih =>
    intro j hn hj
    refine Ev.step' ?_
    have hlt : (j : Int) < (l.length : Int) := by omega
    have hj' : j < l.length := by omega
    have h0 : (0 : Int) ≤ (j : Int) := by omega
    have h1 : (0 : Int) ≤ (i : Int) := by omega
    have h2 : (i : Int) < (S.length : Int) := by omega
    simp only [bitemporallaw03_SpanSlices.l1, hlt, h0, h1, h2, if_true, rd33 l j hj', rd33 S i hi, overlaps1_eq, covers1_eq, Option.bind_some, w64n j (by omega), decide_eq_true_eq]
    by_cases c : Vld S[i] ∧ Vld l[j] ∧ S[i].f0 < l[j].f1 ∧ l[j].f0 < S[i].f1
    · have d := hc.2 l[j] (List.getElem_mem hj') c.2.1 c.2.2.1 c.2.2.2
      have e : Vld l[j] ∧ Vld S[i] ∧ l[j].f0 ≤ S[i].f0 ∧ S[i].f1 ≤ l[j].f1 := ⟨c.2.1, c.1, d.1, d.2⟩
      simp only [if_pos c, if_pos e]
      exact ih (j + 1) (by omega) (by omega)
    · simp only [if_neg c]
      exact ih (j + 1) (by omega) (by omega)
theorem SpanSlices_outer (l S : List S33) (hl : l.length < 100000) (hS : S.length < 100000) (hall : ∀ p ∈ S, Vld p ∧ ∀ q ∈ l, Vld q → p.f0 < q.f1 → q.f0 < p.f1 → q.f0 ≤ p.f0 ∧ p.f1 ≤ q.f1) (hp : S.Pairwise (fun p q => p.f1 ≤ q.f0)) (hm : ∀ t, Mem S t ↔ Mem l t) :
    ∀ (n i : Nat), S.length - i = n → i ≤ S.length → Ev (fun k => bitemporallaw03_SpanSlices.l0 k l S (i : Int)) true := by
  intro n
  induction n with
  | zero =>
    intro i hn hi
    refine Ev.step' ?_
    have hge : ¬ ((i : Int) < (S.length : Int)) := by omega
    simp only [bitemporallaw03_SpanSlices.l0, hge, if_false]
    obtain ⟨r, r1, r2, r3, r4⟩ := ((span_Of_ev S (by omega)).mono (fun t _ _ => hm t) (Nat.le_refl _)).same (span_Of_ev l (by omega))
    refine Ev.bind r1 (Ev.bind r2 (Ev.bind (Same_ev r (by omega)) ?_))
    simp only [eq_self, if_true]
    exact awakes
  | succ n ih =>
    intro i hn hi
    refine Ev.step' ?_
    have hlt : (i : Int) < (S.length : Int) := by omega
    have hi' : i < S.length := by omega
    have h0 : (0 : Int) ≤ (i : Int) := by omega
    have hc := hall S[i] (List.getElem_mem hi')
    have hin := SpanSlices_inner l S (by omega) (by omega) i hi' hc (ih (i + 1) (by omega) (by omega)) l.length 0 (by omega) (by omega)
    have hj1 : Ev (fun k => bitemporallaw03_SpanSlices.j1 k l S (i : Int) false) true := by
      refine Ev.step' ?_
      simp only [bitemporallaw03_SpanSlices.j1, Bool.false_eq_true, if_false]
      exact hin
    simp only [bitemporallaw03_SpanSlices.l0, hlt, h0, if_true, rd33 S i hi', valid_eq, eta33, hc.1, decide_true, Option.bind_some]
    by_cases hpos : (i : Int) > 0
    · obtain ⟨m, rfl⟩ : ∃ m, i = m + 1 := ⟨i - 1, by omega⟩
      have c1 : (0 : Int) ≤ (m : Int) := by omega
      have c2 : (m : Int) < (S.length : Int) := by omega
      have hgap : ¬ ((S[m]'(by omega)).f1 > S[m + 1].f0) := by
        have := List.pairwise_iff_getElem.1 hp m (m + 1) (by omega) hi' (by omega)
        omega
      simp only [hpos, if_true, w64p m (by omega), c1, c2, rd33 S m (by omega), hgap, decide_false]
      exact hj1
    · simp only [hpos, if_false]
      exact hj1
theorem SpanSlices_ev (l : List S33) : Ev (fun k => bitemporallaw03_SpanSlices.f k l) true := by
  simp only [bitemporallaw03_SpanSlices.f]
  by_cases hl : (l.length : Int) > 30
  · simp only [hl, if_true]
    exact awakes
  · have hl' := long_of hl
    have hp := pts_length l []
    have hs := slc_length l (pts l [])
    simp only [List.length_nil, Nat.zero_add] at hp
    simp only [hl, if_false]
    refine Ev.bind (span_Slices_ev l (by omega)) ?_
    obtain ⟨h1, h2, h3⟩ := Slices_law l
    exact SpanSlices_outer l _ (by omega) (by omega) h1 h2 h3 (slc l (pts l [])).length 0 (by omega) (by omega)
theorem SpanSlices_pure (l : List S33) : ∃ k, bitemporallaw03_SpanSlices.f k l = some true := (SpanSlices_ev l).rounds
end Go.Proofs.Ytdcelpppgbmlaaa.P
