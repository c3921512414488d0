/- Plain law: what the program's edges and sweep compute: the span of a combination. No condition. -/
import Derived.Test.YtdcelpppgbmlaaaVMComb
import Derived.Test.YtdcelpppgbmlaaaVPSpan
namespace Go.Proofs.Ytdcelpppgbmlaaa.P
open Go.RowKit Go.Proofs.YtdcelpppgbmlaaaW.PrintWords Go.Proofs.YtdcelpppgbmlaaaW.PrintMore
set_option linter.unusedSimpArgs false
set_option linter.unusedVariables false
theorem pvalid_eq (a b : Int) : period_Valid.f a b = some (decide (Vld ⟨a, b⟩)) := valid_eq a b
theorem rd163 (l : List S163) (i : Nat) (h : i < l.length) : rd_T163 l (i : Int) = l[i] := by
  simp [rd_T163, List.getD_eq_getElem?_getD, List.getElem?_eq_getElem h]
def edA : List S33 → List S163
  | [] => []
  | p :: r => if Vld p then ⟨p.f0, 1, 0⟩ :: ⟨p.f1, -1, 0⟩ :: edA r else edA r
def edB : List S33 → List S163
  | [] => []
  | p :: r => if Vld p then ⟨p.f0, 0, 1⟩ :: ⟨p.f1, 0, -1⟩ :: edB r else edB r
theorem edA_length : ∀ l : List S33, (edA l).length ≤ 2 * l.length
  | [] => by simp [edA]
  | p :: r => by
    have := edA_length r
    unfold edA
    split <;> simp only [List.length_cons] <;> omega
theorem edB_length : ∀ l : List S33, (edB l).length ≤ 2 * l.length
  | [] => by simp [edB]
  | p :: r => by
    have := edB_length r
    unfold edB
    split <;> simp only [List.length_cons] <;> omega
def EdgeOk (e : S163) : Prop := (0 ≤ e.f0 ∧ e.f0 ≤ FV) ∧ (-1 ≤ e.f1 ∧ e.f1 ≤ 1) ∧ -1 ≤ e.f2 ∧ e.f2 ≤ 1
theorem edA_ok : ∀ (l : List S33), ∀ e ∈ edA l, EdgeOk e ∧ e.f2 = 0
  | [], e, h => by simp [edA] at h
  | p :: r, e, h => by
    unfold edA at h
    split at h
    · rename_i hv
      unfold Vld at hv
      rcases List.mem_cons.1 h with rfl | h
      · exact ⟨⟨⟨hv.1, Int.le_of_lt (Int.lt_of_lt_of_le hv.2.1 hv.2.2)⟩, by dsimp only; omega, by dsimp only; omega, by dsimp only; omega⟩, rfl⟩
      · rcases List.mem_cons.1 h with rfl | h
        · exact ⟨⟨⟨Int.le_of_lt (Int.lt_of_le_of_lt hv.1 hv.2.1), hv.2.2⟩, by dsimp only; omega, by dsimp only; omega, by dsimp only; omega⟩, rfl⟩
        · exact edA_ok r e h
    · exact edA_ok r e h
theorem edB_ok : ∀ (l : List S33), ∀ e ∈ edB l, EdgeOk e ∧ e.f1 = 0
  | [], e, h => by simp [edB] at h
  | p :: r, e, h => by
    unfold edB at h
    split at h
    · rename_i hv
      unfold Vld at hv
      rcases List.mem_cons.1 h with rfl | h
      · exact ⟨⟨⟨hv.1, Int.le_of_lt (Int.lt_of_lt_of_le hv.2.1 hv.2.2)⟩, by dsimp only; omega, by dsimp only; omega, by dsimp only; omega⟩, rfl⟩
      · rcases List.mem_cons.1 h with rfl | h
        · exact ⟨⟨⟨Int.le_of_lt (Int.lt_of_le_of_lt hv.1 hv.2.1), hv.2.2⟩, by dsimp only; omega, by dsimp only; omega, by dsimp only; omega⟩, rfl⟩
        · exact edB_ok r e h
    · exact edB_ok r e h
theorem sortF_spec (l : List S163) (hl : l.length < 4611686018427387904) (h : ∀ e ∈ l, EdgeOk e) : ∃ r, slices_SortFunc_edge.f l = some r ∧ r.Perm l ∧ r.Pairwise (fun x y => x.f0 ≤ y.f0) := by
  have hc : l.length < 4611686018427387904 ∧ ∀ x ∈ l, 0 ≤ x.f0 ∧ x.f0 ≤ 1099511627776 := ⟨hl, fun x hx => (h x hx).1⟩
  unfold slices_SortFunc_edge.f
  rw [dif_pos hc]
  obtain ⟨hp, hs⟩ := sortEdges_spec (l.attachWith (fun x : S163 => 0 ≤ x.f0 ∧ x.f0 ≤ 1099511627776) hc.2)
  refine ⟨_, rfl, ?_, ?_⟩
  · have := hp.map (·.1)
    rwa [List.attachWith_map_subtype_val] at this
  · exact List.pairwise_map.2 hs
theorem edges_loopB (b : List S33) (hb : b.length < 100000000) : ∀ (n i : Nat) (out : List S163), b.length - i = n → i ≤ b.length → out.length < 1000000000 + 2 * i → ∀ r,
    (slices_SortFunc_edge.f (out ++ edB (b.drop i)) = some r) → Ev (fun k => span_edges.l1 k out b (b.length : Int) (i : Int)) r := by
  intro n
  induction n with
  | zero =>
    intro i out hn hi ho r hr
    rw [List.drop_of_length_le (by omega)] at hr
    simp only [edB, List.append_nil] at hr
    have hge : ¬ ((i : Int) < (b.length : Int)) := by omega
    refine Ev.step' ?_
    simp only [span_edges.l1, hge, if_false, hr, Option.bind_some]
    exact Ev.now _
  | succ n ih =>
    intro i out hn hi ho r hr
    have hlt : (i : Int) < (b.length : Int) := by omega
    have hi' : i < b.length := by omega
    have h0 : (0 : Int) ≤ (i : Int) := by omega
    have hsz : ∀ x y : S163, out.length + [x, y].length < 5864062014805 := fun x y => by simp; omega
    refine Ev.step' ?_
    simp only [span_edges.l1, hlt, h0, if_true, rd33 b i hi', pvalid_eq, Option.bind_some, w64n i (by omega), hsz]
    rw [List.drop_eq_getElem_cons hi'] at hr
    by_cases hv : Vld b[i]
    · simp only [show (⟨b[i].f0, b[i].f1⟩ : S33) = b[i] from rfl, hv, decide_true, if_true]
      simp only [edB, hv, if_true] at hr
      exact ih (i + 1) _ (by omega) (by omega) (by simp; omega) r (by rw [List.append_assoc]; exact hr)
    · simp only [show (⟨b[i].f0, b[i].f1⟩ : S33) = b[i] from rfl, hv, decide_false, Bool.false_eq_true, if_false]
      simp only [edB, hv, if_false] at hr
      exact ih (i + 1) _ (by omega) (by omega) (by omega) r hr
theorem edges_loopA (a b : List S33) (ha : a.length < 100000000) (hb : b.length < 100000000) : ∀ (n i : Nat) (out : List S163), a.length - i = n → i ≤ a.length → out.length ≤ 2 * i → ∀ r,
    (slices_SortFunc_edge.f (out ++ edA (a.drop i) ++ edB b) = some r) → Ev (fun k => span_edges.l0 k b out a (a.length : Int) (i : Int)) r := by
  intro n
  induction n with
  | zero =>
    intro i out hn hi ho r hr
    rw [List.drop_of_length_le (by omega)] at hr
    simp only [edA, List.append_nil] at hr
    have hge : ¬ ((i : Int) < (a.length : Int)) := by omega
    refine Ev.step' ?_
    simp only [span_edges.l0, hge, if_false]
    exact edges_loopB b hb b.length 0 out (by omega) (by omega) (by omega) r (by simpa using hr)
  | succ n ih =>
    intro i out hn hi ho r hr
    have hlt : (i : Int) < (a.length : Int) := by omega
    have hi' : i < a.length := by omega
    have h0 : (0 : Int) ≤ (i : Int) := by omega
    have hsz : ∀ x y : S163, out.length + [x, y].length < 5864062014805 := fun x y => by simp; omega
    refine Ev.step' ?_
    simp only [span_edges.l0, hlt, h0, if_true, rd33 a i hi', pvalid_eq, Option.bind_some, w64n i (by omega), hsz]
    rw [List.drop_eq_getElem_cons hi'] at hr
    by_cases hv : Vld a[i]
    · simp only [show (⟨a[i].f0, a[i].f1⟩ : S33) = a[i] from rfl, hv, decide_true, if_true]
      simp only [edA, hv, if_true] at hr
      exact ih (i + 1) _ (by omega) (by omega) (by simp; omega) r (by simpa using hr)
    · simp only [show (⟨a[i].f0, a[i].f1⟩ : S33) = a[i] from rfl, hv, decide_false, Bool.false_eq_true, if_false]
      simp only [edA, hv, if_false] at hr
      exact ih (i + 1) _ (by omega) (by omega) (by omega) r hr
theorem edges_ev (a b : List S33) (hl : a.length + b.length < 10000000) : ∃ E, Ev (fun k => span_edges.f k a b) E ∧ E.Perm (edA a ++ edB b) ∧ E.Pairwise (fun x y => x.f0 ≤ y.f0) := by
  have h1 := edA_length a
  have h2 := edB_length b
  obtain ⟨r, hr, hp, hs⟩ := sortF_spec (edA a ++ edB b) (by rw [List.length_append]; omega) (fun e he => by
    rcases List.mem_append.1 he with he | he
    · exact (edA_ok a e he).1
    · exact (edB_ok b e he).1)
  refine ⟨r, ?_, hp, hs⟩
  have := edges_loopA a b (by omega) (by omega) a.length 0 [] (by omega) (by omega) (by simp) r (by simpa using hr)
  simpa [span_edges.f] using this
def sA (t : Int) : List S163 → Int
  | [] => 0
  | e :: r => (if e.f0 ≤ t then e.f1 else 0) + sA t r
def sB (t : Int) : List S163 → Int
  | [] => 0
  | e :: r => (if e.f0 ≤ t then e.f2 else 0) + sB t r
theorem sA_append (t : Int) (l m : List S163) : sA t (l ++ m) = sA t l + sA t m := by
  induction l with
  | nil => simp [sA]
  | cons e r ih => simp only [List.cons_append, sA, ih]; omega
theorem sB_append (t : Int) (l m : List S163) : sB t (l ++ m) = sB t l + sB t m := by
  induction l with
  | nil => simp [sB]
  | cons e r ih => simp only [List.cons_append, sB, ih]; omega
theorem sA_perm (t : Int) {l m : List S163} (h : l.Perm m) : sA t l = sA t m := by
  induction h with
  | nil => rfl
  | cons x _ ih => simp only [sA, ih]
  | swap x y l => simp only [sA]; omega
  | trans _ _ ih1 ih2 => rw [ih1, ih2]
theorem sB_perm (t : Int) {l m : List S163} (h : l.Perm m) : sB t l = sB t m := by
  induction h with
  | nil => rfl
  | cons x _ ih => simp only [sB, ih]
  | swap x y l => simp only [sB]; omega
  | trans _ _ ih1 ih2 => rw [ih1, ih2]
theorem sA_zero (t : Int) : ∀ l : List S163, (∀ e ∈ l, e.f1 = 0) → sA t l = 0
  | [], _ => rfl
  | e :: r, h => by
    have h1 := h e List.mem_cons_self
    have h2 := sA_zero t r fun x hx => h x (List.mem_cons_of_mem _ hx)
    simp only [sA, h1, h2, ite_self, Int.add_zero]
theorem sB_zero (t : Int) : ∀ l : List S163, (∀ e ∈ l, e.f2 = 0) → sB t l = 0
  | [], _ => rfl
  | e :: r, h => by
    have h1 := h e List.mem_cons_self
    have h2 := sB_zero t r fun x hx => h x (List.mem_cons_of_mem _ hx)
    simp only [sB, h1, h2, ite_self, Int.add_zero]
theorem InP_iff (p : S33) (hv : Vld p) (t : Int) : InP p t ↔ p.f0 ≤ t ∧ t < p.f1 := ⟨fun h => h.2, fun h => ⟨hv, h⟩⟩
theorem sA_edA (t : Int) : ∀ l : List S33, 0 ≤ sA t (edA l) ∧ (sA t (edA l) > 0 ↔ Mem l t)
  | [] => ⟨by simp [edA, sA], by simp [edA, sA, Mem]⟩
  | p :: r => by
    obtain ⟨h1, h2⟩ := sA_edA t r
    unfold edA
    by_cases hv : Vld p
    · rw [if_pos hv]
      simp only [sA]
      rw [Mem_cons, ← h2, InP_iff p hv]
      have hv2 := hv.2.1
      generalize sA t (edA r) = s at *
      by_cases c0 : p.f0 ≤ t
      · by_cases c1 : p.f1 ≤ t
        · rw [if_pos c0, if_pos c1]
          exact ⟨by omega, fun h => .inr (by omega), fun h => h.elim (fun h => by omega) (fun h => by omega)⟩
        · rw [if_pos c0, if_neg c1]
          exact ⟨by omega, fun h => .inl ⟨c0, by omega⟩, fun h => by omega⟩
      · have c1 : ¬ p.f1 ≤ t := by omega
        rw [if_neg c0, if_neg c1]
        exact ⟨by omega, fun h => .inr (by omega), fun h => h.elim (fun h => by omega) (fun h => by omega)⟩
    · rw [if_neg hv, Mem_cons, ← h2]
      exact ⟨h1, ⟨fun h => .inr h, fun h => h.elim (fun h => absurd h.1 hv) id⟩⟩
theorem sB_edB (t : Int) : ∀ l : List S33, 0 ≤ sB t (edB l) ∧ (sB t (edB l) > 0 ↔ Mem l t)
  | [] => ⟨by simp [edB, sB], by simp [edB, sB, Mem]⟩
  | p :: r => by
    obtain ⟨h1, h2⟩ := sB_edB t r
    unfold edB
    by_cases hv : Vld p
    · rw [if_pos hv]
      simp only [sB]
      rw [Mem_cons, ← h2, InP_iff p hv]
      have hv2 := hv.2.1
      generalize sB t (edB r) = s at *
      by_cases c0 : p.f0 ≤ t
      · by_cases c1 : p.f1 ≤ t
        · rw [if_pos c0, if_pos c1]
          exact ⟨by omega, fun h => .inr (by omega), fun h => h.elim (fun h => by omega) (fun h => by omega)⟩
        · rw [if_pos c0, if_neg c1]
          exact ⟨by omega, fun h => .inl ⟨c0, by omega⟩, fun h => by omega⟩
      · have c1 : ¬ p.f1 ≤ t := by omega
        rw [if_neg c0, if_neg c1]
        exact ⟨by omega, fun h => .inr (by omega), fun h => h.elim (fun h => by omega) (fun h => by omega)⟩
    · rw [if_neg hv, Mem_cons, ← h2]
      exact ⟨h1, ⟨fun h => .inr h, fun h => h.elim (fun h => absurd h.1 hv) id⟩⟩
theorem count_A {a b : List S33} {E : List S163} (h : E.Perm (edA a ++ edB b)) (t : Int) : sA t E > 0 ↔ Mem a t := by
  rw [sA_perm t h, sA_append, sA_zero t (edB b) (fun e he => (edB_ok b e he).2), Int.add_zero]
  exact (sA_edA t a).2
theorem count_B {a b : List S33} {E : List S163} (h : E.Perm (edA a ++ edB b)) (t : Int) : sB t E > 0 ↔ Mem b t := by
  rw [sB_perm t h, sB_append, sB_zero t (edA a) (fun e he => (edA_ok a e he).2), Int.zero_add]
  exact (sB_edB t b).2
def qA : List S163 → Int
  | [] => 0
  | e :: r => e.f1 + qA r
def qB : List S163 → Int
  | [] => 0
  | e :: r => e.f2 + qB r
theorem qA_snoc (l : List S163) (e : S163) : qA (l ++ [e]) = qA l + e.f1 := by
  induction l with
  | nil => simp [qA]
  | cons x r ih => simp only [List.cons_append, qA, ih]; omega
theorem qB_snoc (l : List S163) (e : S163) : qB (l ++ [e]) = qB l + e.f2 := by
  induction l with
  | nil => simp [qB]
  | cons x r ih => simp only [List.cons_append, qB, ih]; omega
theorem qA_bound : ∀ (l : List S163), (∀ e ∈ l, EdgeOk e) → -(l.length : Int) ≤ qA l ∧ qA l ≤ (l.length : Int)
  | [], _ => by simp [qA]
  | e :: r, h => by
    have h1 := qA_bound r fun x hx => h x (List.mem_cons_of_mem _ hx)
    have h2 := h e List.mem_cons_self
    unfold EdgeOk at h2
    simp only [qA, List.length_cons]
    omega
theorem qB_bound : ∀ (l : List S163), (∀ e ∈ l, EdgeOk e) → -(l.length : Int) ≤ qB l ∧ qB l ≤ (l.length : Int)
  | [], _ => by simp [qB]
  | e :: r, h => by
    have h1 := qB_bound r fun x hx => h x (List.mem_cons_of_mem _ hx)
    have h2 := h e List.mem_cons_self
    unfold EdgeOk at h2
    simp only [qB, List.length_cons]
    omega
theorem sA_all (t : Int) : ∀ l : List S163, (∀ e ∈ l, e.f0 ≤ t) → sA t l = qA l
  | [], _ => rfl
  | e :: r, h => by
    have h2 := sA_all t r fun x hx => h x (List.mem_cons_of_mem _ hx)
    simp only [sA, qA, h e List.mem_cons_self, if_true, h2]
theorem sB_all (t : Int) : ∀ l : List S163, (∀ e ∈ l, e.f0 ≤ t) → sB t l = qB l
  | [], _ => rfl
  | e :: r, h => by
    have h2 := sB_all t r fun x hx => h x (List.mem_cons_of_mem _ hx)
    simp only [sB, qB, h e List.mem_cons_self, if_true, h2]
theorem sA_none (t : Int) : ∀ l : List S163, (∀ e ∈ l, t < e.f0) → sA t l = 0
  | [], _ => rfl
  | e :: r, h => by
    have h2 := sA_none t r fun x hx => h x (List.mem_cons_of_mem _ hx)
    have h1 : ¬ e.f0 ≤ t := by have := h e List.mem_cons_self; omega
    simp only [sA, h1, if_false, h2, Int.add_zero]
theorem sB_none (t : Int) : ∀ l : List S163, (∀ e ∈ l, t < e.f0) → sB t l = 0
  | [], _ => rfl
  | e :: r, h => by
    have h2 := sB_none t r fun x hx => h x (List.mem_cons_of_mem _ hx)
    have h1 : ¬ e.f0 ≤ t := by have := h e List.mem_cons_self; omega
    simp only [sB, h1, if_false, h2, Int.add_zero]
theorem mem_take_lt {E : List S163} {i : Nat} {e : S163} (h : e ∈ E.take i) : ∃ j, ∃ hj : j < E.length, j < i ∧ E[j] = e := by
  obtain ⟨j, hj, rfl⟩ := List.getElem_of_mem h
  rw [List.length_take] at hj
  exact ⟨j, by omega, by omega, by simp⟩
theorem mem_drop_ge {E : List S163} {i : Nat} {e : S163} (h : e ∈ E.drop i) : ∃ j, ∃ hj : j < E.length, i ≤ j ∧ E[j] = e := by
  obtain ⟨j, hj, rfl⟩ := List.getElem_of_mem h
  rw [List.length_drop] at hj
  exact ⟨i + j, by omega, by omega, by simp⟩
theorem count_at {E : List S163} {i : Nat} {t : Int} (h1 : ∀ j (hj : j < E.length), j < i → E[j].f0 ≤ t) (h2 : ∀ j (hj : j < E.length), i ≤ j → t < E[j].f0) : sA t E = qA (E.take i) ∧ sB t E = qB (E.take i) := by
  have e : E = E.take i ++ E.drop i := (List.take_append_drop i E).symm
  have c1 : ∀ x ∈ E.take i, x.f0 ≤ t := fun x hx => by obtain ⟨j, hj, hl, rfl⟩ := mem_take_lt hx; exact h1 j hj hl
  have c2 : ∀ x ∈ E.drop i, t < x.f0 := fun x hx => by obtain ⟨j, hj, hl, rfl⟩ := mem_drop_ge hx; exact h2 j hj hl
  constructor
  · conv => lhs; rw [e]
    rw [sA_append, sA_all t _ c1, sA_none t _ c2, Int.add_zero]
  · conv => lhs; rw [e]
    rw [sB_append, sB_all t _ c1, sB_none t _ c2, Int.add_zero]
section
variable {K : Bool → Bool → Option Bool} {kb : Bool → Bool → Bool} (hK : ∀ x y, K x y = some (kb x y)) {E : List S163} (hE : ∀ e ∈ E, EdgeOk e) (hS : E.Pairwise (fun x y => x.f0 ≤ y.f0)) (hL : E.length < 100000000)
include hE hL in
theorem sweep_eqs (at_ : Int) : ∀ (n i : Nat), E.length - i = n → i ≤ E.length → ∃ i', i ≤ i' ∧ i' ≤ E.length ∧ (∀ j (hj : j < E.length), i ≤ j → j < i' → E[j].f0 = at_) ∧ (∀ h : i' < E.length, E[i'].f0 ≠ at_) ∧
    (∀ out r, Ev (fun k => span_sweep.j2 K k E out (qA (E.take i')) (qB (E.take i')) (i' : Int) at_) r → Ev (fun k => span_sweep.l1 K k E out (qA (E.take i)) (qB (E.take i)) (i : Int) at_) r) := by
  intro n
  induction n with
  | zero =>
    intro i hn hi
    refine ⟨i, Nat.le_refl _, hi, fun j hj h1 h2 => by omega, fun h => by omega, fun out r h => ?_⟩
    have hge : ¬ ((i : Int) < (E.length : Int)) := by omega
    refine Ev.step' ?_
    simp only [span_sweep.l1, hge, if_false]
    exact h
  | succ n ih =>
    intro i hn hi
    have hlt : (i : Int) < (E.length : Int) := by omega
    have hi' : i < E.length := by omega
    have h0 : (0 : Int) ≤ (i : Int) := by omega
    by_cases he : E[i].f0 = at_
    · obtain ⟨i', h1, h2, h3, h4, h5⟩ := ih (i + 1) (by omega) (by omega)
      refine ⟨i', by omega, h2, fun j hj a b => ?_, h4, fun out r h => ?_⟩
      · rcases Nat.lt_or_ge i j with c | c
        · exact h3 j hj (by omega) b
        · have : j = i := by omega
          subst this; exact he
      · refine Ev.step' ?_
        have bA := qA_bound (E.take i) (fun e h => hE e (List.mem_of_mem_take h))
        have bB := qB_bound (E.take i) (fun e h => hE e (List.mem_of_mem_take h))
        have hb : (E.take i).length ≤ E.length := by rw [List.length_take]; omega
        have eo := hE E[i] (List.getElem_mem hi')
        unfold EdgeOk at eo
        have t1 : E.take (i + 1) = E.take i ++ [E[i]] := by rw [List.take_succ_eq_append_getElem hi']
        have wA : wrap64 (qA (E.take i) + E[i].f1) = qA (E.take (i + 1)) := by rw [t1, qA_snoc]; exact w64 (by omega) (by omega)
        have wB : wrap64 (qB (E.take i) + E[i].f2) = qB (E.take (i + 1)) := by rw [t1, qB_snoc]; exact w64 (by omega) (by omega)
        simp only [span_sweep.l1, hlt, h0, if_true, rd163 E i hi', he, wA, wB, w64n i (by omega)]
        exact h5 out r h
    · refine ⟨i, Nat.le_refl _, hi, fun j hj a b => by omega, fun _ => he, fun out r h => ?_⟩
      refine Ev.step' ?_
      simp only [span_sweep.l1, hlt, h0, if_true, rd163 E i hi', he, if_false]
      exact h
def SW (kb : Bool → Bool → Bool) (E : List S163) (t : Int) : Prop := kb (decide (sA t E > 0)) (decide (sB t E > 0)) = true
include hK in
theorem sweep_piece {at_ nx : Int} {out : List S33} {i : Nat} (hu : Upto (SW kb E) at_ out) (h0 : 0 ≤ at_) (hlt : at_ < nx) (hb : nx ≤ FV) (hlen : out.length < 1000000000)
    (h1 : ∀ j (hj : j < E.length), j < i → E[j].f0 ≤ at_) (h2 : ∀ j (hj : j < E.length), i ≤ j → nx ≤ E[j].f0) :
    ∃ out', Upto (SW kb E) nx out' ∧ out'.length ≤ out.length + 1 ∧ ∀ r, Ev (fun k => span_sweep.l0 K k E out' (qA (E.take i)) (qB (E.take i)) (i : Int) nx) r → Ev (fun k => span_sweep.j3 K k E out (qA (E.take i)) (qB (E.take i)) (i : Int) at_ nx) r := by
  have cnt : ∀ t, at_ ≤ t → t < nx → (SW kb E t ↔ kb (decide (qA (E.take i) > 0)) (decide (qB (E.take i) > 0)) = true) := fun t x y => by
    obtain ⟨c1, c2⟩ := count_at (E := E) (i := i) (t := t) (fun j hj hji => Int.le_trans (h1 j hj hji) x) (fun j hj hji => by have := h2 j hj hji; omega)
    unfold SW
    rw [c1, c2]
  by_cases hw : kb (decide (qA (E.take i) > 0)) (decide (qB (E.take i) > 0)) = true
  · have wt : ∀ t, at_ ≤ t → t < nx → SW kb E t := fun t x y => (cnt t x y).2 hw
    have hsz : out.length < 8796093022208 := by omega
    have push : (∀ p ∈ out, p.f1 < at_) → Upto (SW kb E) nx (out ++ [⟨at_, nx⟩]) := fun hg => hu.push h0 hlt hb wt hg
    rcases last_cases out with rfl | ⟨s, p, rfl⟩
    · refine ⟨_, push (by simp), by simp, fun r h => ?_⟩
      refine Ev.step' ?_
      simp only [span_sweep.j3, hK, Option.bind_some, hw, if_true]
      have hz : ¬ ((([] : List S33).length : Int) > 0) := by simp
      simp only [hz, if_false, hsz, if_true]
      exact h
    · have hn : (s ++ [p]).length = s.length + 1 := by simp
      have hi : wrap64 (((s ++ [p]).length : Int) - 1) = (s.length : Int) := by rw [hn]; exact w64p _ (by omega)
      have hrd : rd_T33 (s ++ [p]) ((s.length : Nat) : Int) = p := by rw [rd33 _ _ (by simp)]; simp
      have hpos : ((s ++ [p]).length : Int) > 0 := by omega
      have c1 : (0 : Int) ≤ (s.length : Int) := by omega
      have c2 : (s.length : Int) < ((s ++ [p]).length : Int) := by omega
      have hpa := hu.hi p (by simp)
      by_cases hge : p.f1 = at_
      · have hj : Upto (SW kb E) at_ (s ++ [⟨p.f0, at_⟩]) := by
          have : (⟨p.f0, at_⟩ : S33) = p := S33_ext rfl hge.symm
          rw [this]; exact hu
        have hset : (s ++ [p]).set s.length ⟨p.f0, nx⟩ = s ++ [⟨p.f0, nx⟩] := by simp
        refine ⟨_, hj.join hlt hb wt, by simp, fun r h => ?_⟩
        refine Ev.step' ?_
        simp only [span_sweep.j3, hK, Option.bind_some, hw, if_true, hi, hrd, hpos, c1, c2, hge, Int.toNat_natCast, hset]
        exact h
      · refine ⟨_, push (fun q hq => ?_), by simp, fun r h => ?_⟩
        · rcases List.mem_append.1 hq with hq | hq
          · have := (List.pairwise_append.1 hu.sp.2).2.2 q hq p (by simp)
            have hv := hu.sp.1 p (by simp)
            unfold Vld at hv
            omega
          · obtain rfl := List.mem_singleton.1 hq
            omega
        · refine Ev.step' ?_
          simp only [span_sweep.j3, hK, Option.bind_some, hw, if_true, hi, hrd, hpos, c1, c2, hge, if_false, hsz]
          exact h
  · refine ⟨out, hu.skip (by omega) (fun t x y hc => hw ((cnt t x y).1 hc)), by omega, fun r h => ?_⟩
    refine Ev.step' ?_
    simp only [span_sweep.j3, hK, Option.bind_some, hw, if_false]
    exact h
include hK hE hS hL in
theorem sweep_round {at_ : Int} {out : List S33} {i : Nat} (hi : i ≤ E.length) (hu : Upto (SW kb E) at_ out) (h0 : 0 ≤ at_) (hlt : at_ < FV) (hlen : out.length < 1000000000)
    (h1 : ∀ j (hj : j < E.length), j < i → E[j].f0 ≤ at_) (h2 : ∀ j (hj : j < E.length), i ≤ j → at_ ≤ E[j].f0) :
    ∃ i' nx out', i ≤ i' ∧ i' ≤ E.length ∧ at_ < nx ∧ nx ≤ FV ∧ (nx = FV ∨ ∃ h : i' < E.length, E[i'].f0 = nx) ∧ ((∃ h : i < E.length, E[i].f0 = at_) → i < i') ∧
      (∀ j (hj : j < E.length), j < i' → E[j].f0 ≤ nx) ∧ (∀ j (hj : j < E.length), i' ≤ j → nx ≤ E[j].f0) ∧ Upto (SW kb E) nx out' ∧ out'.length ≤ out.length + 1 ∧
      ∀ r, Ev (fun k => span_sweep.l0 K k E out' (qA (E.take i')) (qB (E.take i')) (i' : Int) nx) r → Ev (fun k => span_sweep.l0 K k E out (qA (E.take i)) (qB (E.take i)) (i : Int) at_) r := by
  obtain ⟨i', g1, g2, g3, g4, g5⟩ := sweep_eqs (K := K) hE hL at_ (E.length - i) i rfl hi
  have le1 : ∀ j (hj : j < E.length), j < i' → E[j].f0 ≤ at_ := fun j hj hji => by
    rcases Nat.lt_or_ge j i with c | c
    · exact h1 j hj c
    · exact Int.le_of_eq (g3 j hj c hji)
  have hadv : (∃ h : i < E.length, E[i].f0 = at_) → i < i' := fun ⟨h, he⟩ => by
    rcases Nat.lt_or_ge i i' with c | c
    · exact c
    · have : i' = i := by omega
      subst this
      exact absurd he (g4 h)
  by_cases hlt' : i' < E.length
  · have hne := g4 hlt'
    have hge := h2 i' hlt' g1
    have hok := (hE E[i'] (List.getElem_mem hlt')).1
    have ge2 : ∀ j (hj : j < E.length), i' ≤ j → E[i'].f0 ≤ E[j].f0 := fun j hj hji => by
      rcases Nat.lt_or_ge i' j with c | c
      · exact List.pairwise_iff_getElem.1 hS i' j hlt' hj c
      · have : j = i' := by omega
        subst this; exact Int.le_refl _
    obtain ⟨out', p1, p2, p3⟩ := sweep_piece (i := i') hK hu h0 (by omega : at_ < E[i'].f0) hok.2 hlen le1 ge2
    refine ⟨i', E[i'].f0, out', g1, g2, by omega, hok.2, .inr ⟨hlt', rfl⟩, hadv, fun j hj hji => Int.le_trans (le1 j hj hji) (by omega), ge2, p1, p2, fun r h => ?_⟩
    refine Ev.step' ?_
    simp only [span_sweep.l0, hlt, if_true]
    refine g5 out r (Ev.step' ?_)
    have c1 : (i' : Int) < (E.length : Int) := by omega
    have c2 : (0 : Int) ≤ (i' : Int) := by omega
    simp only [span_sweep.j2, c1, c2, if_true, rd163 E i' hlt']
    exact p3 r h
  · have he : i' = E.length := by omega
    obtain ⟨out', p1, p2, p3⟩ := sweep_piece (i := i') hK hu h0 hlt (Int.le_refl _) hlen le1 (fun j hj hji => by omega)
    refine ⟨i', FV, out', g1, g2, hlt, Int.le_refl _, .inl rfl, hadv, fun j hj hji => Int.le_trans (le1 j hj hji) (by omega), fun j hj hji => by omega, p1, p2, fun r h => ?_⟩
    refine Ev.step' ?_
    simp only [span_sweep.l0, hlt, if_true]
    refine g5 out r (Ev.step' ?_)
    have c1 : ¬ ((i' : Int) < (E.length : Int)) := by omega
    simp only [span_sweep.j2, c1, if_false]
    exact p3 r h
include hK hE hS hL in
theorem sweep_loop : ∀ (n i : Nat) (at_ : Int) (out : List S33), E.length - i = n → i ≤ E.length → Upto (SW kb E) at_ out → 0 ≤ at_ → at_ ≤ FV → (at_ = FV ∨ ∃ h : i < E.length, E[i].f0 = at_) → out.length ≤ i + 1 →
    (∀ j (hj : j < E.length), j < i → E[j].f0 ≤ at_) → (∀ j (hj : j < E.length), i ≤ j → at_ ≤ E[j].f0) →
    ∃ r, Ev (fun k => span_sweep.l0 K k E out (qA (E.take i)) (qB (E.take i)) (i : Int) at_) r ∧ IsSpan (SW kb E) r ∧ r.length ≤ E.length + 1 := by
  intro n
  induction n using Nat.strongRecOn with
  | _ n ih =>
    intro i at_ out hn hi hu h0 hle hx hlen h1 h2
    rcases Int.lt_or_le at_ FV with hlt | hge
    · have hx' : ∃ h : i < E.length, E[i].f0 = at_ := hx.resolve_left (by omega)
      obtain ⟨i', nx, out', a1, a2, a3, a4, a5, a6, a7, a8, a9, a10, a11⟩ := sweep_round hK hE hS hL hi hu h0 hlt (by omega) h1 h2
      have := a6 hx'
      obtain ⟨r, b1, b2, b3⟩ := ih (E.length - i') (by omega) i' nx out' rfl a2 a9 (by omega) a4 a5 (by omega) a7 a8
      exact ⟨r, a11 r b1, b2, b3⟩
    · have he : at_ = FV := by omega
      subst he
      refine ⟨out, Ev.step' ?_, hu.done, by omega⟩
      simp only [span_sweep.l0, show ¬ (FV < 1099511627776) by decide, if_false]
      exact Ev.now _
end
theorem sweep_ev (a b : List S33) (hl : a.length + b.length < 10000000) {K : Bool → Bool → Option Bool} {kb : Bool → Bool → Bool} (hK : ∀ x y, K x y = some (kb x y)) :
    ∃ r, Ev (fun k => span_sweep.f k a b K) r ∧ IsSpan (fun t => kb (decide (Mem a t)) (decide (Mem b t)) = true) r ∧ r.length ≤ 2 * (a.length + b.length) + 1 := by
  obtain ⟨E, e1, e2, e3⟩ := edges_ev a b hl
  have h1 := edA_length a
  have h2 := edB_length b
  have hL : E.length ≤ 2 * (a.length + b.length) := by rw [e2.length_eq, List.length_append]; omega
  have hE : ∀ e ∈ E, EdgeOk e := fun e he => by
    rcases List.mem_append.1 (e2.mem_iff.1 he) with h | h
    · exact (edA_ok a e h).1
    · exact (edB_ok b e h).1
  obtain ⟨i', nx, out', a1, a2, a3, a4, a5, a6, a7, a8, a9, a10, a11⟩ := sweep_round (i := 0) (at_ := 0) (out := []) hK hE e3 (by omega) (by omega) (Upto.zero (SW kb E)) (by omega) (by decide) (by simp) (fun j hj h => by omega) (fun j hj h => (hE _ (List.getElem_mem hj)).1.1)
  obtain ⟨r, b1, b2, b3⟩ := sweep_loop hK hE e3 (by omega) (E.length - i') i' nx out' rfl a2 a9 (by omega) a4 a5 (by simp at a10; omega) a7 a8
  refine ⟨r, ?_, b2.congr fun t _ _ => ?_, by omega⟩
  · simp only [span_sweep.f]
    refine Ev.bind e1 ?_
    have := a11 r b1
    simpa [qA, qB] using this
  · unfold SW
    rw [dec_eq (count_A e2 t), dec_eq (count_B e2 t)]
end Go.Proofs.Ytdcelpppgbmlaaa.P
