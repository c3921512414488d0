/- Plain law: Points and Slices of the program and of the reference are one list each. No condition. -/
import Derived.Test.YtdcelpppgbmlaaaUMTells
import Derived.Test.YtdcelpppgbmlaaaUPSpana
namespace Go.Proofs.Ytdcelpppgbmlaaa.P
open Go.RowKit Go.Proofs.YtdcelpppgbmlaaaW.PrintWords Go.Proofs.YtdcelpppgbmlaaaW.PrintMore
set_option linter.unusedSimpArgs false
set_option linter.unusedVariables false
theorem compactUpTo_law (d : Array Int) (hs : ∀ i j, i < j → j < d.size → d[i]! ≤ d[j]!) : ∀ m, m ≤ d.size →
    Asc (Lib.compactUpTo d m) ∧ (∀ x ∈ Lib.compactUpTo d m, ∃ j, j < m ∧ d[j]! = x) ∧ (∀ j, j < m → d[j]! ∈ Lib.compactUpTo d m) := by
  intro m
  induction m with
  | zero => intro _; simp [Lib.compactUpTo, Asc]
  | succ m ih =>
    intro hm
    obtain ⟨h1, h2, h3⟩ := ih (by omega)
    rw [Lib.compactUpTo_succ]
    by_cases hk : m = 0 ∨ d[m]! ≠ d[m - 1]!
    · have hk' : Lib.keeps d m = true := decide_eq_true hk
      rw [if_pos hk']
      refine ⟨List.pairwise_append.2 ⟨h1, List.pairwise_singleton _ _, fun x hx y hy => ?_⟩, fun x hx => ?_, fun j hj => ?_⟩
      · obtain rfl := List.mem_singleton.1 hy
        obtain ⟨j, hj, rfl⟩ := h2 x hx
        have ha : d[j]! ≤ d[m - 1]! := by
          rcases Nat.lt_or_ge j (m - 1) with c | c
          · exact hs _ _ c (by omega)
          · have : j = m - 1 := by omega
            subst this; exact Int.le_refl _
        have hb : d[m - 1]! ≤ d[m]! := hs _ _ (by omega) (by omega)
        rcases hk with hk | hk
        · omega
        · omega
      · rcases List.mem_append.1 hx with hx | hx
        · obtain ⟨j, hj, e⟩ := h2 x hx
          exact ⟨j, by omega, e⟩
        · obtain rfl := List.mem_singleton.1 hx
          exact ⟨m, by omega, rfl⟩
      · rcases Nat.lt_or_ge j m with c | c
        · exact List.mem_append_left _ (h3 j c)
        · have : j = m := by omega
          subst this
          exact List.mem_append_right _ (List.mem_singleton.2 rfl)
    · have hk' : ¬ (Lib.keeps d m = true) := fun h => hk (of_decide_eq_true h)
      rw [if_neg hk', List.append_nil]
      refine ⟨h1, fun x hx => ?_, fun j hj => ?_⟩
      · obtain ⟨j, hj, e⟩ := h2 x hx
        exact ⟨j, by omega, e⟩
      · rcases Nat.lt_or_ge j m with c | c
        · exact h3 j c
        · have : j = m := by omega
          subst this
          have hz : ¬ j = 0 := fun h => hk (.inl h)
          have he : d[j]! = d[j - 1]! := Classical.byContradiction fun h => hk (.inr h)
          rw [he]
          exact h3 (j - 1) (by omega)
theorem compact_law (l : List Int) (hs : l.Pairwise (· ≤ ·)) : Asc (Lib.compact l) ∧ ∀ x, x ∈ Lib.compact l ↔ x ∈ l := by
  have hg : ∀ i (h : i < l.length), l.toArray[i]! = l[i] := fun i h => by simp [h]
  obtain ⟨h1, h2, h3⟩ := compactUpTo_law l.toArray (fun i j hij hj => by
    have hj' : j < l.length := by simpa using hj
    rw [hg i (by omega), hg j hj']
    exact List.pairwise_iff_getElem.1 hs i j (by omega) hj' hij) l.length (by simp)
  refine ⟨h1, fun x => ⟨fun hx => ?_, fun hx => ?_⟩⟩
  · obtain ⟨j, hj, rfl⟩ := h2 x hx
    rw [hg j hj]
    exact List.getElem_mem hj
  · obtain ⟨j, hj, rfl⟩ := List.mem_iff_getElem.1 hx
    have := h3 j hj
    rw [hg j hj] at this
    exact this
def bnds : List S33 → List Int
  | [] => []
  | p :: r => if Vld p then p.f0 :: p.f1 :: bnds r else bnds r
theorem mem_bnds : ∀ (l : List S33) (x : Int), x ∈ bnds l ↔ ∃ p ∈ l, Vld p ∧ (x = p.f0 ∨ x = p.f1)
  | [], x => by simp [bnds]
  | p :: r, x => by
    unfold bnds
    split
    · rename_i hv
      rw [List.mem_cons, List.mem_cons, mem_bnds r]
      constructor
      · rintro (h | h | ⟨q, hq, h⟩)
        · exact ⟨p, List.mem_cons_self, hv, .inl h⟩
        · exact ⟨p, List.mem_cons_self, hv, .inr h⟩
        · exact ⟨q, List.mem_cons_of_mem _ hq, h⟩
      · rintro ⟨q, hq, h1, h2⟩
        rcases List.mem_cons.1 hq with rfl | hq
        · rcases h2 with h2 | h2
          · exact .inl h2
          · exact .inr (.inl h2)
        · exact .inr (.inr ⟨q, hq, h1, h2⟩)
    · rename_i hv
      rw [mem_bnds r]
      constructor
      · rintro ⟨q, hq, h⟩
        exact ⟨q, List.mem_cons_of_mem _ hq, h⟩
      · rintro ⟨q, hq, h1, h2⟩
        rcases List.mem_cons.1 hq with rfl | hq
        · exact absurd h1 hv
        · exact ⟨q, hq, h1, h2⟩
theorem sorted_pts (l : List S33) : Lib.compact ((bnds l).mergeSort fun x y => decide (x ≤ y)) = pts l [] := by
  have hs : ((bnds l).mergeSort fun x y => decide (x ≤ y)).Pairwise (· ≤ ·) := by
    have := List.pairwise_mergeSort (le := fun (x y : Int) => decide (x ≤ y)) (by intro a b c h1 h2; simp only [decide_eq_true_eq] at *; omega) (by intro a b; simp only [Bool.or_eq_true, decide_eq_true_eq]; omega) (bnds l)
    exact this.imp fun h => of_decide_eq_true h
  obtain ⟨h1, h2⟩ := compact_law _ hs
  refine Asc.ext h1 (pts_asc l List.Pairwise.nil) fun x => ?_
  rw [h2, List.mem_mergeSort, mem_bnds, mem_pts]
  simp
theorem span_Points_loop (l : List S33) (hl : l.length < 1000000000) : ∀ (n i : Nat) (acc : List Int), l.length - i = n → i ≤ l.length → acc.length ≤ 2 * i →
    Ev (fun k => span_Points.l0 k acc l (l.length : Int) (i : Int)) (Lib.compact ((acc ++ bnds (l.drop i)).mergeSort fun x y => decide (x ≤ y))) := by
  intro n
  induction n with
  | zero =>
    intro i acc hn hi ha
    refine Ev.step' ?_
    have hge : ¬ ((i : Int) < (l.length : Int)) := by omega
    have h1 : acc.length < 4611686018427387904 := by omega
    have h2 : (acc.mergeSort fun x y => decide (x ≤ y)).length ≤ 9223372036854775807 := by rw [List.length_mergeSort]; omega
    simp only [span_Points.l0, hge, if_false, slices_Sort_int.f, slices_Compact_int.f, h1, h2, if_true, Option.bind_some]
    rw [List.drop_of_length_le (by omega)]
    simp only [bnds, List.append_nil]
    exact Ev.now _
  | succ n ih =>
    intro i acc hn hi ha
    refine Ev.step' ?_
    have hlt : (i : Int) < (l.length : Int) := by omega
    have hi' : i < l.length := by omega
    have h0 : (0 : Int) ≤ (i : Int) := by omega
    simp only [span_Points.l0, hlt, h0, if_true, rd33 l i hi', pvalid_eq, Option.bind_some, w64n i (by omega), eta33]
    rw [List.drop_eq_getElem_cons hi']
    by_cases hv : Vld l[i]
    · have hz : acc.length + [l[i].f0, l[i].f1].length < 17592186044416 := by simp; omega
      have hb : bnds (l[i] :: l.drop (i + 1)) = [l[i].f0, l[i].f1] ++ bnds (l.drop (i + 1)) := by rw [bnds, if_pos hv]; rfl
      simp only [hv, decide_true, if_true, hz, hb, ← List.append_assoc]
      exact ih (i + 1) _ (by omega) (by omega) (by simp; omega)
    · have hb : bnds (l[i] :: l.drop (i + 1)) = bnds (l.drop (i + 1)) := by rw [bnds, if_neg hv]
      simp only [hv, decide_false, Bool.false_eq_true, if_false, hb]
      exact ih (i + 1) _ (by omega) (by omega) (by omega)
theorem span_Points_ev (l : List S33) (hl : l.length < 1000000000) : Ev (fun k => span_Points.f k l) (pts l []) := by
  have := span_Points_loop l hl l.length 0 [] (by omega) (by omega) (by simp)
  rw [List.nil_append, List.drop_zero, sorted_pts] at this
  exact this
def slc (l : List S33) : List Int → List S33
  | [] => []
  | a :: r => match r with
    | [] => []
    | b :: _ => if Mem l a then ⟨a, b⟩ :: slc l r else slc l r
theorem slc_one (l : List S33) (P : List Int) (i : Nat) (h : i + 1 = P.length) : slc l (P.drop i) = [] := by
  rw [List.drop_eq_getElem_cons (by omega), List.drop_of_length_le (by omega)]
  rfl
theorem slc_two (l : List S33) (P : List Int) (i : Nat) (h : i + 1 < P.length) : slc l (P.drop i) = if Mem l P[i] then ⟨P[i], P[i + 1]⟩ :: slc l (P.drop (i + 1)) else slc l (P.drop (i + 1)) := by
  rw [List.drop_eq_getElem_cons (by omega), List.drop_eq_getElem_cons h]
  rfl
theorem span_Slices_inner (l s : List S33) (P : List Int) (hP : P.length < 1000000000) (hs : Sp s) (hls : s.length < 1000000000) (out : List S33) (i : Nat) (hi : i + 1 < P.length) (ho : out.length ≤ i) {R : List S33} {q : Nat → Prop}
    (hq : ∀ j, q j → ∀ m (h : m < s.length), m < j → s[m].f1 ≤ P[i])
    (hm : ∀ j, j ≤ s.length → (∀ m (h : m < s.length), m < j → s[m].f1 ≤ P[i]) → Mem s P[i] → Ev (fun k => span_Slices.l0 k P s (out ++ [⟨P[i], P[i + 1]⟩]) (j : Int) ((i + 1 : Nat) : Int)) R)
    (hn : ∀ j, j ≤ s.length → (∀ m (h : m < s.length), m < j → s[m].f1 ≤ P[i]) → ¬ Mem s P[i] → Ev (fun k => span_Slices.l0 k P s out (j : Int) ((i + 1 : Nat) : Int)) R) :
    ∀ (n j : Nat), s.length - j = n → j ≤ s.length → (∀ m (h : m < s.length), m < j → s[m].f1 ≤ P[i]) → Ev (fun k => span_Slices.l1 k P s out (j : Int) (i : Int)) R := by
  intro n
  induction n with
  | zero =>
    intro j hjn hj hpast
    refine Ev.step' ?_
    have hge : ¬ ((j : Int) < (s.length : Int)) := by omega
    simp only [span_Slices.l1, hge, if_false, w64n i (by omega)]
    refine hn j hj hpast fun ⟨p, hp, h1⟩ => ?_
    obtain ⟨m, hm', rfl⟩ := List.mem_iff_getElem.1 hp
    have := hpast m hm' (by omega)
    have := h1.2.2
    omega
  | succ n ih =>
    intro j hjn hj hpast
    refine Ev.step' ?_
    have hlt : (j : Int) < (s.length : Int) := by omega
    have hj' : j < s.length := by omega
    have h0 : (0 : Int) ≤ (j : Int) := by omega
    have h1 : (0 : Int) ≤ (i : Int) := by omega
    have h2 : (i : Int) < (P.length : Int) := by omega
    have h3 : (0 : Int) ≤ ((i + 1 : Nat) : Int) := by omega
    have h4 : ((i + 1 : Nat) : Int) < (P.length : Int) := by omega
    have hz : out.length < 8796093022208 := by omega
    by_cases c1 : s[j].f1 ≤ P[i]
    · simp only [span_Slices.l1, hlt, h0, h1, h2, if_true, rd33 s j hj', rdI P i (by omega), c1, w64n j (by omega)]
      refine ih (j + 1) (by omega) (by omega) fun m h hmj => ?_
      rcases Nat.lt_or_ge m j with c | c
      · exact hpast m h c
      · have : m = j := by omega
        subst this; exact c1
    · by_cases c2 : s[j].f0 ≤ P[i]
      · simp only [span_Slices.l1, hlt, h0, h1, h2, if_true, rd33 s j hj', rdI P i (by omega), c1, c2, if_false, w64n i (by omega), h3, h4, hz, rdI P (i + 1) hi]
        exact hm j hj hpast ⟨s[j], List.getElem_mem hj', hs.1 _ (List.getElem_mem hj'), c2, by omega⟩
      · simp only [span_Slices.l1, hlt, h0, h1, h2, if_true, rd33 s j hj', rdI P i (by omega), c1, c2, if_false, w64n i (by omega)]
        refine hn j hj hpast fun ⟨p, hp, hin⟩ => ?_
        obtain ⟨m, hm', rfl⟩ := List.mem_iff_getElem.1 hp
        have ha := hin.2.1
        have hb := hin.2.2
        rcases Nat.lt_trichotomy m j with c | c | c
        · have := hpast m hm' c; omega
        · subst c; omega
        · have := List.pairwise_iff_getElem.1 hs.2 j m hj' hm' c
          have := (hs.1 _ (List.getElem_mem hj')).2.1
          omega
theorem span_Slices_loop (l s : List S33) (P : List Int) (hP : P.length < 1000000000) (hA : Asc P) (hs : Sp s) (hls : s.length < 1000000000) (hms : ∀ t, Mem s t ↔ Mem l t) : ∀ (n i j : Nat) (out : List S33), P.length - i = n → i + 1 ≤ P.length → out.length ≤ i → j ≤ s.length →
    (∀ m (h : m < s.length), m < j → s[m].f1 ≤ P[i]!) → Ev (fun k => span_Slices.l0 k P s out (j : Int) (i : Int)) (out ++ slc l (P.drop i)) := by
  intro n
  induction n with
  | zero => intro i j out hn hi ho hj hpast; omega
  | succ n ih =>
    intro i j out hn hi ho hj hpast
    refine Ev.step' ?_
    rcases Nat.lt_or_ge (i + 1) P.length with hlt' | hge'
    · have hlt : ((i + 1 : Nat) : Int) < (P.length : Int) := by omega
      simp only [span_Slices.l0, w64n i (by omega), hlt, if_true]
      have hup : ∀ j', (∀ m (h : m < s.length), m < j' → s[m].f1 ≤ P[i]) → ∀ m (h : m < s.length), m < j' → s[m].f1 ≤ P[i + 1]! := fun j' h m hm hmj => by
        have h1 := h m hm hmj
        have h2 := List.pairwise_iff_getElem.1 hA i (i + 1) (by omega) hlt' (by omega)
        rw [getElem!_pos P (i + 1) hlt']
        omega
      refine span_Slices_inner l s P hP hs hls out i hlt' ho (q := fun _ => False) (fun _ h => h.elim) ?_ ?_ (s.length - j) j rfl hj (fun m h hmj => by have := hpast m h hmj; rwa [getElem!_pos P i (by omega)] at this)
      · intro j' hj' hp' hmem
        have := ih (i + 1) j' (out ++ [⟨P[i], P[i + 1]⟩]) (by omega) (by omega) (by simp; omega) hj' (hup j' hp')
        rw [slc_two l P i hlt', if_pos ((hms _).1 hmem)]
        rw [List.append_assoc, List.singleton_append] at this
        exact this
      · intro j' hj' hp' hmem
        rw [slc_two l P i hlt', if_neg (fun h => hmem ((hms _).2 h))]
        exact ih (i + 1) j' out (by omega) (by omega) (by omega) hj' (hup j' hp')
    · have hge : ¬ (((i + 1 : Nat) : Int) < (P.length : Int)) := by omega
      simp only [span_Slices.l0, w64n i (by omega), hge, if_false]
      rw [slc_one l P i (by omega), List.append_nil]
      exact Ev.now _
theorem span_Slices_ev (l : List S33) (hl : l.length < 1000000) : Ev (fun k => span_Slices.f k l) (slc l (pts l [])) := by
  simp only [span_Slices.f]
  have hp := pts_length l []
  refine Ev.bind (span_Points_ev l (by omega)) ?_
  obtain ⟨s, h1, h2, h3⟩ := span_Of_ev l hl
  refine Ev.bind h1 ?_
  rcases Nat.eq_zero_or_pos (pts l []).length with h | h
  · refine Ev.step' ?_
    rw [List.eq_nil_of_length_eq_zero h]
    have hno : ¬ (wrap64 (0 + 1) < (([] : List Int).length : Int)) := by rw [w64 (by omega) (by omega)]; simp
    simp only [span_Slices.l0, hno, if_false]
    exact Ev.now _
  · have := span_Slices_loop l s (pts l []) (by simp at hp; omega) (pts_asc l List.Pairwise.nil) h2.1 (by omega) (fun t => (h2.2 t).trans ⟨fun h => h.2, fun h => ⟨Mem_range h, h⟩⟩) (pts l []).length 0 0 [] (by omega) (by omega) (by simp) (by omega) (fun m h hm => by omega)
    simpa using this
end Go.Proofs.Ytdcelpppgbmlaaa.P
