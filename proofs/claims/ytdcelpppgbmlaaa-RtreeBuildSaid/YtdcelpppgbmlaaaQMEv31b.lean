/- Plain law: what the reference's tree is, its bounds, how many nodes it examines. No condition but that lists are not too long. -/
import Derived.Test.YtdcelpppgbmlaaaQMEv31
import Derived.Test.YtdcelpppgbmlaaaQEExam
namespace Go.Proofs.Ytdcelpppgbmlaaa.P
open Go.RowKit Go.Proofs.YtdcelpppgbmlaaaW.PrintWords Go.Proofs.YtdcelpppgbmlaaaW.PrintMore
set_option linter.unusedSimpArgs false
set_option linter.unusedVariables false
theorem Bounds0_ev (bx : List S51) (hl : bx.length < 1000000) : ∀ m i (a : S41), bx.length - i = m → i ≤ bx.length → Ev (fun k => R31_Bounds.l0 k bx (bx.length : Int) (i : Int) a.f0.f0 a.f0.f1 a.f1.f0 a.f1.f1) ((foldR a ((bx.drop i).map (·.f0))).f0.f0, (foldR a ((bx.drop i).map (·.f0))).f0.f1, (foldR a ((bx.drop i).map (·.f0))).f1.f0, (foldR a ((bx.drop i).map (·.f0))).f1.f1, true) := by
  intro m
  induction m with
  | zero =>
    intro i a hm hi
    refine Ev.step' ?_
    have hge : ¬ ((i : Int) < (bx.length : Int)) := by omega
    simp only [R31_Bounds.l0, hge, if_false]
    rw [List.drop_of_length_le (by omega)]
    exact Ev.now _
  | succ m ih =>
    intro i a hm hi
    refine Ev.step' ?_
    have hlt : (i : Int) < (bx.length : Int) := by omega
    have h0 : (0 : Int) ≤ (i : Int) := by omega
    simp only [R31_Bounds.l0, hlt, h0, if_true, rd51e bx i (by omega), w31 i (by omega), around31, Option.bind_some]
    rw [List.drop_eq_getElem_cons (by omega), List.map_cons]
    exact ih (i + 1) (joinR a (bx[i]'(by omega)).f0) (by omega) (by omega)
theorem Bounds_ev (a0 : Int) (bx : List S51) (a2 a3 a4 a5 : Int) (l6 : List S51) (l7 : List S74) (a8 : Int) (hl : bx.length < 1000000) (b : Option S41) (hb : b = if bx = [] then none else some (around (bx.map (·.f0)))) :
    Ev (fun k => R31_Bounds.f k a0 bx a2 a3 a4 a5 l6 l7 a8) ((b.getD z41).f0.f0, (b.getD z41).f0.f1, (b.getD z41).f1.f0, (b.getD z41).f1.f1, b.isSome) := by
  subst hb
  cases bx with
  | nil =>
    have h : (([] : List S51).length : Int) = 0 := rfl
    simp only [R31_Bounds.f, h, if_true]
    exact Ev.now _
  | cons x t =>
    have h : ¬ (((x :: t).length : Nat) : Int) = 0 := by rw [List.length_cons]; omega
    have h2 : (0 : Int) < (((x :: t).length : Nat) : Int) := by rw [List.length_cons]; omega
    simp only [R31_Bounds.f, h, h2, if_true, if_false]
    have := Bounds0_ev (x :: t) hl _ 0 x.f0 rfl (Nat.zero_le _)
    exact this
theorem visits0_ev (r : S41) (d : Nat) (ks : List S74) (ih : ∀ k ∈ ks, Ovr k.f0 r → Ev (fun n => R31_visits.f n k.f0.f0.f0 k.f0.f0.f1 k.f0.f1.f0 k.f0.f1.f1 k.f1 k.f2 r.f0.f0 r.f0.f1 r.f1.f0 r.f1.f1) (visitsOf r d k : Int)) (hl : ks.length < 1000000) :
    ∀ m i (c : Nat), ks.length - i = m → i ≤ ks.length → c + (((ks.drop i).filter fun k => decide (Ovr k.f0 r)).map (visitsOf r d)).sum < 1000000000 →
      Ev (fun n => R31_visits.l0 n (c : Int) ks (ks.length : Int) (i : Int) r.f0.f0 r.f0.f1 r.f1.f0 r.f1.f1) ((c + (((ks.drop i).filter fun k => decide (Ovr k.f0 r)).map (visitsOf r d)).sum : Nat) : Int) := by
  intro m
  induction m with
  | zero =>
    intro i c hm hi hc
    refine Ev.step' ?_
    have hge : ¬ ((i : Int) < (ks.length : Int)) := by omega
    simp only [R31_visits.l0, hge, if_false]
    rw [List.drop_of_length_le (by omega)]
    exact Ev.now _
  | succ m ih2 =>
    intro i c hm hi hc
    refine Ev.step' ?_
    have hlt : (i : Int) < (ks.length : Int) := by omega
    have h0 : (0 : Int) ≤ (i : Int) := by omega
    simp only [R31_visits.l0, hlt, h0, if_true, rd74e ks i (by omega), w31 i (by omega), Overlap31_eq, Option.bind_some]
    rw [List.drop_eq_getElem_cons (by omega)] at hc ⊢
    by_cases hx : Ovr (ks[i]'(by omega)).f0 r
    · simp only [hx, decide_true, if_true]
      rw [List.filter_cons_of_pos (by simpa using hx), List.map_cons, List.sum_cons] at hc ⊢
      refine Ev.bind (ih _ (List.getElem_mem _) hx) ?_
      have hw : wrap64 ((c : Int) + (visitsOf r d (ks[i]'(by omega)) : Nat)) = ((c + visitsOf r d (ks[i]'(by omega)) : Nat) : Int) := by unfold wrap64; omega
      rw [hw, ← Nat.add_assoc]
      exact ih2 (i + 1) _ (by omega) (by omega) (by omega)
    · simp only [hx, decide_false, Bool.false_eq_true, if_false]
      rw [List.filter_cons_of_neg (by simpa using hx)] at hc ⊢
      exact ih2 (i + 1) c (by omega) (by omega) hc
theorem visits_ev (r : S41) (M : Nat) (hM : M < 1000000) : ∀ (d : Nat) (n : S74), Uni d n → BoxMax M d n → visitsOf r d n < 1000000000 → Ev (fun k => R31_visits.f k n.f0.f0.f0 n.f0.f0.f1 n.f0.f1.f0 n.f0.f1.f1 n.f1 n.f2 r.f0.f0 r.f0.f1 r.f1.f0 r.f1.f1) (visitsOf r d n : Int)
  | 0, n, h, hb, _ => by
    refine Ev.step' ?_
    simp only [R31_visits.f]
    rw [h.1]
    refine Ev.step' ?_
    simp only [R31_visits.l0, List.length_nil, Int.natCast_zero, Int.lt_irrefl, if_false]
    exact Ev.now _
  | d + 1, n, h, hb, hv => by
    refine Ev.step' ?_
    simp only [R31_visits.f]
    rw [visitsOf] at hv ⊢
    refine visits0_ev r d n.f2 (fun k hk hx => ?_) (Nat.lt_of_le_of_lt hb.2.1 hM) _ 0 1 rfl (Nat.zero_le _) hv
    refine visits_ev r M hM d k (h.2.2.2 k hk) (hb.2.2 k hk) ?_
    have := le_sum (List.mem_map.2 ⟨k, List.mem_filter.2 ⟨hk, decide_eq_true hx⟩, rfl⟩ : visitsOf r d k ∈ (n.f2.filter fun k => decide (Ovr k.f0 r)).map (visitsOf r d))
    omega
theorem Check1_ev (l : List S51) (hl : l.length < 1000000) (i : Nat) (hi : i < l.length) (a b c d : Int) (n : Int) (res : Int) (hnext : Ev (fun k => R31_Check.l0 k l l (l.length : Int) ((i + 1 : Nat) : Int)) res) :
    ∀ m j, i - j = m → j ≤ i → Ev (fun k => R31_Check.l1 k l l (l.length : Int) (i : Int) (l.take i) ((l.take i).length : Int) (j : Int) a b c d n) (if n ∈ ((l.take i).drop j).map (·.f1) then 10 else res) := by
  have hlen : (l.take i).length = i := by rw [List.length_take]; omega
  intro m
  induction m with
  | zero =>
    intro j hm hj
    refine Ev.step' ?_
    have hge : ¬ ((j : Int) < ((l.take i).length : Int)) := by omega
    simp only [R31_Check.l1, hge, if_false, w31 i (by omega)]
    rw [List.drop_of_length_le (by omega)]
    exact hnext
  | succ m ih =>
    intro j hm hj
    refine Ev.step' ?_
    have hlt : (j : Int) < ((l.take i).length : Int) := by omega
    have h0 : (0 : Int) ≤ (j : Int) := by omega
    simp only [R31_Check.l1, hlt, h0, if_true, rd51e (l.take i) j (by omega), w31 j (by omega)]
    rw [List.drop_eq_getElem_cons (by omega), List.map_cons]
    by_cases hx : ((l.take i)[j]'(by omega)).f1 = n
    · simp only [hx, if_true]
      rw [if_pos List.mem_cons_self]
      exact Ev.now _
    · simp only [hx, if_false]
      have := ih (j + 1) (by omega) (by omega)
      have he : (if n ∈ ((l.take i)[j]'(by omega)).f1 :: ((l.take i).drop (j + 1)).map (·.f1) then (10 : Int) else res) = if n ∈ ((l.take i).drop (j + 1)).map (·.f1) then 10 else res := by
        by_cases h : n ∈ ((l.take i).drop (j + 1)).map (·.f1)
        · rw [if_pos h, if_pos (List.mem_cons_of_mem _ h)]
        · rw [if_neg h, if_neg (fun h' => (List.mem_cons.1 h').elim (fun e => hx e.symm) h)]
      rw [he]
      exact this
theorem Check0_ev (l : List S51) (hl : l.length < 1000000) : ∀ m i, l.length - i = m → i ≤ l.length → Ev (fun k => R31_Check.l0 k l l (l.length : Int) (i : Int)) (checkP ((l.take i).map (·.f1)) (l.drop i)) := by
  intro m
  induction m with
  | zero =>
    intro i hm hi
    refine Ev.step' ?_
    have hge : ¬ ((i : Int) < (l.length : Int)) := by omega
    simp only [R31_Check.l0, hge, if_false]
    rw [List.drop_of_length_le (by omega)]
    exact Ev.now _
  | succ m ih =>
    intro i hm hi
    refine Ev.step' ?_
    have hlt : (i : Int) < (l.length : Int) := by omega
    have hle : (i : Int) ≤ (l.length : Int) := by omega
    have h0 : (0 : Int) ≤ (i : Int) := by omega
    simp only [R31_Check.l0, hlt, hle, h0, if_true, rd51e l i (by omega), Valid31_eq, Option.bind_some, Int.toNat_natCast]
    rw [List.drop_eq_getElem_cons (by omega), checkP]
    by_cases hs : SndR (l[i]'(by omega)).f0
    · simp only [hs, decide_true, if_true]
      have hn := ih (i + 1) (by omega) (by omega)
      rw [List.take_succ_eq_append_getElem (by omega), List.map_append] at hn
      have := Check1_ev l hl i (by omega) (l[i]'(by omega)).f0.f0.f0 (l[i]'(by omega)).f0.f0.f1 (l[i]'(by omega)).f0.f1.f0 (l[i]'(by omega)).f0.f1.f1 (l[i]'(by omega)).f1 _ hn _ 0 rfl (Nat.zero_le _)
      exact this
    · simp only [hs, decide_false, Bool.false_eq_true, if_false]
      exact Ev.now _
theorem Check_ev (l : List S51) (wd : Int) (hl : l.length < 1000000) : Ev (fun k => R31_Check.f k l wd) (errP l wd) := by
  unfold errP
  have hj : ∀ b : Bool, Ev (fun k => R31_Check.j0 k l b) (if b = true then 6 else if l.length > 4096 then 5 else checkP [] l) := fun b => by
    refine Ev.step' ?_
    simp only [R31_Check.j0]
    cases b with
    | true => simp only [if_true]; exact Ev.now _
    | false =>
      simp only [Bool.false_eq_true, if_false]
      by_cases h : l.length > 4096
      · have h' : (l.length : Int) > 4096 := by omega
        simp only [h, h', if_true]
        exact Ev.now _
      · have h' : ¬ (l.length : Int) > 4096 := by omega
        simp only [h, h', if_false]
        exact Check0_ev l hl _ 0 rfl (Nat.zero_le _)
  by_cases h1 : wd < 2
  · simp only [R31_Check.f, h1, if_true, true_or]
    exact hj true
  · simp only [R31_Check.f, h1, if_false, false_or]
    by_cases h2 : wd > 64
    · simp only [h2, decide_true, if_true]
      exact hj true
    · simp only [h2, decide_false, if_false]
      exact hj false
theorem before31_eq (a b : S51) : R31_before.f a.f0.f0.f0 a.f0.f0.f1 a.f0.f1.f0 a.f0.f1.f1 a.f1 b.f0.f0.f0 b.f0.f0.f1 b.f0.f1.f0 b.f0.f1.f1 b.f1 = some (decide (blt a b)) := by
  unfold R31_before.f
  congr 1
  rw [show decide (blt a b) = decide (a.f0.f0.f0 < b.f0.f0.f0 ∨ a.f0.f0.f0 = b.f0.f0.f0 ∧ (a.f0.f0.f1 < b.f0.f0.f1 ∨ a.f0.f0.f1 = b.f0.f0.f1 ∧ (a.f0.f1.f0 < b.f0.f1.f0 ∨ a.f0.f1.f0 = b.f0.f1.f0 ∧ (a.f0.f1.f1 < b.f0.f1.f1 ∨ a.f0.f1.f1 = b.f0.f1.f1 ∧ a.f1 < b.f1)))) from decide_eq_decide.2 (blt_iff a b)]
  simp only [befL]
  by_cases h1 : a.f0.f0.f0 = b.f0.f0.f0
  · by_cases h2 : a.f0.f0.f1 = b.f0.f0.f1
    · by_cases h3 : a.f0.f1.f0 = b.f0.f1.f0
      · by_cases h4 : a.f0.f1.f1 = b.f0.f1.f1
        · by_cases h5 : a.f1 = b.f1
          · simp [h1, h2, h3, h4, h5]
          · simp [h1, h2, h3, h4, h5]
        · simp [h1, h2, h3, h4]
      · simp [h1, h2, h3]
    · simp [h1, h2]
  · simp [h1]
theorem ordered2_ev (l : List S51) (i : Nat) (x : S51) (out : List S51) (hol : out.length < 1000000)
    (hnext : ∀ nx : List S51, nx.length ≤ out.length + 1 → Ev (fun k => R31_ordered.l0 k nx l (l.length : Int) (wrap64 ((i : Int) + 1))) (l.drop (i + 1) |>.foldl ordIns nx)) :
    ∀ m j (nx : List S51), out.length - j = m → j ≤ out.length → nx.length ≤ out.length + 1 + j → nx.length + ((out.drop j).filter fun y => !decide (blt y x)).length ≤ out.length + 1 →
      Ev (fun k => R31_ordered.l2 k nx l (l.length : Int) (i : Int) out (out.length : Int) (j : Int) x.f0.f0.f0 x.f0.f0.f1 x.f0.f1.f0 x.f0.f1.f1 x.f1) ((l.drop (i + 1)).foldl ordIns (nx ++ (out.drop j).filter fun y => !decide (blt y x))) := by
  intro m
  induction m with
  | zero =>
    intro j nx hm hj hn hs
    refine Ev.step' ?_
    have hge : ¬ ((j : Int) < (out.length : Int)) := by omega
    simp only [R31_ordered.l2, hge, if_false]
    rw [List.drop_of_length_le (by omega), List.filter_nil, List.append_nil]
    exact hnext nx (by rw [List.drop_of_length_le (by omega), List.filter_nil, List.length_nil] at hs; omega)
  | succ m ih =>
    intro j nx hm hj hn hs
    refine Ev.step' ?_
    have hlt : (j : Int) < (out.length : Int) := by omega
    have h0 : (0 : Int) ≤ (j : Int) := by omega
    have hnl : nx.length < 3518437208883 := by omega
    simp only [R31_ordered.l2, hlt, h0, hnl, if_true, rd51e out j (by omega), w31 j (by omega), before31_eq, Option.bind_some, eta51]
    rw [List.drop_eq_getElem_cons (by omega : j < out.length)] at hs ⊢
    by_cases hx : blt (out[j]'(by omega)) x
    · simp only [hx, decide_true, if_true]
      rw [List.filter_cons_of_neg (by simpa using hx)] at hs ⊢
      exact ih (j + 1) nx (by omega) (by omega) (by omega) hs
    · simp only [hx, decide_false, Bool.false_eq_true, if_false]
      rw [List.filter_cons_of_pos (by simpa using hx)] at hs ⊢
      rw [List.length_cons] at hs
      have := ih (j + 1) (nx ++ [out[j]'(by omega)]) (by omega) (by omega) (by rw [List.length_append, List.length_singleton]; omega) (by rw [List.length_append, List.length_singleton]; omega)
      simpa using this
theorem ordered1_ev (l : List S51) (i : Nat) (x : S51) (out : List S51) (hol : out.length < 1000000)
    (hnext : ∀ nx : List S51, nx.length ≤ out.length + 1 → Ev (fun k => R31_ordered.l0 k nx l (l.length : Int) (wrap64 ((i : Int) + 1))) (l.drop (i + 1) |>.foldl ordIns nx)) :
    ∀ m j (nx : List S51), out.length - j = m → j ≤ out.length → nx.length ≤ j → nx.length + ((out.drop j).filter fun y => decide (blt y x)).length + 1 + (out.filter fun y => !decide (blt y x)).length ≤ out.length + 1 →
      Ev (fun k => R31_ordered.l1 k out nx l (l.length : Int) (i : Int) out (out.length : Int) (j : Int) x.f0.f0.f0 x.f0.f0.f1 x.f0.f1.f0 x.f0.f1.f1 x.f1) ((l.drop (i + 1)).foldl ordIns (nx ++ (out.drop j).filter (fun y => decide (blt y x)) ++ x :: out.filter fun y => !decide (blt y x))) := by
  intro m
  induction m with
  | zero =>
    intro j nx hm hj hn hs
    refine Ev.step' ?_
    have hge : ¬ ((j : Int) < (out.length : Int)) := by omega
    have hnl : nx.length < 3518437208883 := by omega
    simp only [R31_ordered.l1, hge, hnl, if_false, if_true, eta51]
    rw [List.drop_of_length_le (by omega), List.filter_nil, List.append_nil]
    have := ordered2_ev l i x out hol hnext _ 0 (nx ++ [x]) rfl (Nat.zero_le _) (by rw [List.length_append, List.length_singleton]; omega) (by rw [List.length_append, List.length_singleton, List.drop_zero]; rw [List.drop_of_length_le (by omega), List.filter_nil, List.length_nil] at hs; omega)
    simpa using this
  | succ m ih =>
    intro j nx hm hj hn hs
    refine Ev.step' ?_
    have hlt : (j : Int) < (out.length : Int) := by omega
    have h0 : (0 : Int) ≤ (j : Int) := by omega
    have hnl : nx.length < 3518437208883 := by omega
    simp only [R31_ordered.l1, hlt, h0, hnl, if_true, rd51e out j (by omega), w31 j (by omega), before31_eq, Option.bind_some, eta51]
    rw [List.drop_eq_getElem_cons (by omega : j < out.length)] at hs ⊢
    by_cases hx : blt (out[j]'(by omega)) x
    · simp only [hx, decide_true, if_true]
      rw [List.filter_cons_of_pos (by simpa using hx)] at hs ⊢
      rw [List.length_cons] at hs
      have := ih (j + 1) (nx ++ [out[j]'(by omega)]) (by omega) (by omega) (by rw [List.length_append, List.length_singleton]; omega) (by rw [List.length_append, List.length_singleton]; omega)
      simpa using this
    · simp only [hx, decide_false, Bool.false_eq_true, if_false]
      rw [List.filter_cons_of_neg (by simpa using hx)] at hs ⊢
      exact ih (j + 1) nx (by omega) (by omega) (by omega) hs
theorem ordIns_length (out : List S51) (x : S51) : (ordIns out x).length = out.length + 1 := by rw [(ordIns_perm out x).length_eq, List.length_cons]
theorem ordered0_ev (l : List S51) (hl : l.length < 1000000) : ∀ m i (out : List S51), l.length - i = m → i ≤ l.length → out.length ≤ i → Ev (fun k => R31_ordered.l0 k out l (l.length : Int) (i : Int)) ((l.drop i).foldl ordIns out) := by
  intro m
  induction m with
  | zero =>
    intro i out hm hi ho
    refine Ev.step' ?_
    have hge : ¬ ((i : Int) < (l.length : Int)) := by omega
    simp only [R31_ordered.l0, hge, if_false]
    rw [List.drop_of_length_le (by omega)]
    exact Ev.now _
  | succ m ih =>
    intro i out hm hi ho
    refine Ev.step' ?_
    have hlt : (i : Int) < (l.length : Int) := by omega
    have h0 : (0 : Int) ≤ (i : Int) := by omega
    simp only [R31_ordered.l0, hlt, h0, if_true, rd51e l i (by omega)]
    rw [List.drop_eq_getElem_cons (by omega : i < l.length), List.foldl_cons]
    have hlen := ordIns_length out (l[i]'(by omega))
    unfold ordIns at hlen
    rw [List.length_append, List.length_cons] at hlen
    have := ordered1_ev l i (l[i]'(by omega)) out (by omega) (fun nx hnx => by rw [w31 i (by omega)]; exact ih (i + 1) nx (by omega) (by omega) (by omega)) _ 0 [] rfl (Nat.zero_le _) (Nat.le_refl _) (by rw [List.length_nil, List.drop_zero]; omega)
    exact this
theorem ordered_ev (l : List S51) (hl : l.length < 1000000) : Ev (fun k => R31_ordered.f k l) (orderedP l) := ordered0_ev l hl _ 0 [] rfl (Nat.zero_le _) (Nat.le_refl _)
end Go.Proofs.Ytdcelpppgbmlaaa.P
