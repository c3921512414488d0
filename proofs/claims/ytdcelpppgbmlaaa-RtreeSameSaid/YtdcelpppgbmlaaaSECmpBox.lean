/- rtree.before as a comparison for slices.SortFunc: draws and new blocks alone; slices.SortFunc at boxes. No condition. -/
import Derived.Test.YtdcelpppgbmlaaaSMAll
import Derived.Test.YtdcelpppgbmlaaaSESort
import Derived.Test.YtdcelpppgbmlaaaSEPack
namespace Go.Proofs.Ytdcelpppgbmlaaa.P
open Go.RowKit Go.Sort Go.Shelf Go.Proofs.YtdcelpppgbmlaaaW.PrintWords Go.Proofs.YtdcelpppgbmlaaaW.PrintLast Go.Proofs.YtdcelpppgbmlaaaW.PrintMore
set_option linter.unusedSimpArgs false
set_option linter.unusedVariables false
theorem grow0 (W : World) : W = grow (W.drewN 0) #[] := by rw [grow_empty]; rfl
theorem grow1 (W : World) : W.drew = grow (W.drewN 1) #[] := by rw [grow_empty]; rfl
theorem grow_step {W A B : World} (h : ∃ (q : Nat) (os : Array Obj), A = grow (W.drewN q) os) (k : ∃ (q : Nat) (os : Array Obj), B = grow (A.drewN q) os) : ∃ (q : Nat) (os : Array Obj), B = grow (W.drewN q) os := by
  obtain ⟨q, os, rfl⟩ := h
  obtain ⟨q', os', rfl⟩ := k
  exact ⟨q + q', os ++ os', by show grow (grow ((W.drewN q).drewN q') os) os' = _; rw [grow_grow, World.drewN_drewN]⟩
theorem cell_grow_step {A B : World} {a : Addr} {v : Value} (k : ∃ (q : Nat) (os : Array Obj), B = grow (A.drewN q) os) (h : A.cell? a = some v) : B.cell? a = some v := by
  obtain ⟨q, os, rfl⟩ := k
  exact cell_grown (World.block_lt_of_cell? A a h) h q os
def icmpP (a b : Int) : Int := if a < b then -1 else if b < a then 1 else 0
def pcmpP (p q : S33) : Int := if p.f0 = q.f0 then icmpP p.f1 q.f1 else icmpP p.f0 q.f0
def orL : List Int → Int
  | [] => 0
  | x :: l => if x ≠ 0 then x else orL l
def or3P (a b c : Int) : Int := orL [a, b, c]
def bcmpP (x y : S51) : Int := or3P (pcmpP x.f0.f0 y.f0.f0) (pcmpP x.f0.f1 y.f0.f1) (icmpP x.f1 y.f1)
set_option maxHeartbeats 1000000 in
theorem nan_calls (a : Int) (w : World) : Calls Try.prog 211 #[.int .i64 a] w fun e w' => e = .returned (.bool false) ∧ w' = w := by
  go_enter Try.func211, Try.ntmps211
  go_wp2
  go_ret
  exact ⟨rfl, rfl⟩
set_option maxHeartbeats 2000000 in
theorem icmp_calls (a b : Int) (w : World) : Calls Try.prog 164 #[.int .i64 a, .int .i64 b] w fun e w' => e = .returned (.int .i64 (icmpP a b)) ∧ ∃ (q : Nat) (os : Array Obj), w' = grow (w.drewN q) os := by
  refine Calls.mono (R := fun e w' => e = .returned (.int .i64 (icmpP a b)) ∧ w' = w) ?_ (by rintro e w' ⟨he, rfl⟩; exact ⟨he, 0, _, grow0 _⟩)
  unfold icmpP
  go_enter Try.func164, Try.ntmps164
  by_cases h1 : a < b
  · rw [if_pos h1]
    go_wp2_with (go_at_call 211; refine (nan_calls _ _).mono ?_; rintro e w' ⟨rfl, rfl⟩)
    go_ret
    exact ⟨rfl, rfl⟩
  · rw [if_neg h1]
    by_cases h2 : b < a
    · rw [if_pos h2]
      go_wp2_with (go_at_call 211; refine (nan_calls _ _).mono ?_; rintro e w' ⟨rfl, rfl⟩)
      go_ret
      exact ⟨rfl, rfl⟩
    · rw [if_neg h2]
      go_wp2_with (go_at_call 211; refine (nan_calls _ _).mono ?_; rintro e w' ⟨rfl, rfl⟩)
      go_ret
      exact ⟨rfl, rfl⟩
set_option maxHeartbeats 2000000 in
theorem sign_calls (a b : Int) (w : World) : Calls Try.prog 210 #[.int .i64 a, .int .i64 b] w fun e w' => e = .returned (.int .i64 (icmpP a b)) ∧ w' = w := by
  unfold icmpP
  go_enter Try.func210, Try.ntmps210
  by_cases h1 : a < b
  · rw [if_pos h1]
    go_wp2
    go_ret
    exact ⟨rfl, rfl⟩
  · rw [if_neg h1]
    by_cases h2 : b < a
    · rw [if_pos h2]
      go_wp2
      go_ret
      exact ⟨rfl, rfl⟩
    · rw [if_neg h2]
      go_wp2
      go_ret
      exact ⟨rfl, rfl⟩
set_option maxRecDepth 100000 in
set_option maxHeartbeats 2000000 in
theorem pcmp_calls (a b c d : Int) (w : World) : Calls Try.prog 163 #[.agg #[.int .i64 a, .int .i64 b], .agg #[.int .i64 c, .int .i64 d]] w fun e w' => e = .returned (.int .i64 (pcmpP ⟨a, b⟩ ⟨c, d⟩)) ∧ ∃ (q : Nat) (os : Array Obj), w' = grow (w.drewN q) os := by
  have hu33 := Try.underlying33
  refine Calls.mono (R := fun e w' => e = .returned (.int .i64 (pcmpP ⟨a, b⟩ ⟨c, d⟩)) ∧ w' = (w.alloc (.cells #[.int .i64 a, .int .i64 b] 33)).alloc (.cells #[.int .i64 c, .int .i64 d] 33)) ?_ (by rintro e w' ⟨he, rfl⟩; exact ⟨he, 0, _, by rw [alloc_eq_grow, alloc_eq_grow, grow_grow]; rfl⟩)
  unfold pcmpP
  go_enter Try.func163, Try.ntmps163
  by_cases h1 : a = c
  · rw [if_pos h1]
    subst h1
    go_wp2_with (go_at_call 210; refine (sign_calls _ _ _).mono ?_; rintro e w' ⟨rfl, rfl⟩)
    go_ret
    exact ⟨rfl, rfl⟩
  · rw [if_neg h1]
    go_wp2_with (go_at_call 210; refine (sign_calls _ _ _).mono ?_; rintro e w' ⟨rfl, rfl⟩)
    go_ret
    exact ⟨rfl, rfl⟩
theorem or3_calls (a b c : Int) (w : World) (g : Nat) (hg : w.heap[g]? = some (.cells #[.int .i64 a, .int .i64 b, .int .i64 c] 3 (0, 0))) : Calls Try.prog 162 #[.slice (some ⟨g, 0, none⟩) 3 3] w fun e w' => e = .returned (.int .i64 (or3P a b c)) ∧ ∃ (q : Nat) (os : Array Obj), w' = grow (w.drewN q) os := by
  refine Calls.mono (R := fun e w' => e = .returned (.int .i64 (or3P a b c)) ∧ w' = w) ?_ (by rintro e w' ⟨he, rfl⟩; exact ⟨he, 0, _, grow0 _⟩)
  have cj : ∀ j, j < 3 → w.cell? ⟨g, j, none⟩ = some (.int .i64 ([a, b, c].getD j 0)) := by
    intro j hj
    rw [blk_cell hg j]
    match j, hj with
    | 0, _ => rfl
    | 1, _ => rfl
    | 2, _ => rfl
  unfold or3P
  obtain ⟨xs, hxs⟩ : ∃ xs, [a, b, c] = xs := ⟨_, rfl⟩
  rw [hxs] at cj ⊢
  have hl : xs.length = 3 := by rw [← hxs]; rfl
  have CJ := Aside0.mk cj
  have HL := Aside0.mk hl
  clear hg hxs cj hl
  go_enter Try.func162, Try.ntmps162
  go_wp2
  go_loopw [8] (fun i wr => ∃ j : Nat, j ≤ 3 ∧ i = .int .i64 j ∧ Aside0 (orL (xs.drop j) = orL xs) ∧ wr = w) (fun i _ => 3 - (intOf i).toNat)
  case atStart => exact ⟨0, by omega, rfl, ⟨rfl⟩, rfl⟩
  case round =>
    obtain ⟨j, hj, rfl, hO, rfl⟩ := hrel
    by_cases hlt : j < 3
    · have hlt' : (j : Int) < 3 := by omega
      have h1 := CJ.out j hlt
      have HD := Aside0.mk (show orL (xs.drop j) = if xs.getD j 0 ≠ 0 then xs.getD j 0 else orL (xs.drop (j + 1)) by
        have := HL.out
        rw [List.drop_eq_getElem_cons (by omega), orL, List.getD_eq_getElem?_getD, List.getElem?_eq_getElem (by omega)]
        rfl)
      generalize xs.getD j 0 = q at h1 HD
      by_cases hq : q = 0
      · subst hq
        go_wp2
        refine ⟨⟨j + 1, by omega, by rw [Int.natCast_add]; rfl, ⟨?_⟩, trivial⟩, by simp only [intOf]; omega⟩
        have := HD.out
        rw [if_neg (by simp)] at this
        rw [← this]
        exact hO.out
      · go_wp2
        go_ret
        have := HD.out
        rw [if_pos hq] at this
        exact ⟨by rw [← hO.out, this]; rfl, rfl⟩
    · have hlt' : ¬ (j : Int) < 3 := by omega
      go_wp2
      go_ret
      have := hO.out
      rw [List.drop_of_length_le (by have := HL.out; omega)] at this
      exact ⟨by rw [← this]; rfl, rfl⟩
set_option maxHeartbeats 8000000 in
set_option maxRecDepth 100000 in
theorem before_cmp (x y : S51) (w : World) : Calls Try.prog 125 #[.agg #[.int .i64 x.f0.f0.f0, .int .i64 x.f0.f0.f1, .int .i64 x.f0.f1.f0, .int .i64 x.f0.f1.f1, .int .i64 x.f1], .agg #[.int .i64 y.f0.f0.f0, .int .i64 y.f0.f0.f1, .int .i64 y.f0.f1.f0, .int .i64 y.f0.f1.f1, .int .i64 y.f1]] w fun e w' => e = .returned (.int .i64 (bcmpP x y)) ∧ ∃ (q : Nat) (os : Array Obj), w' = grow (w.drewN q) os := by
  have hu51 := Try.underlying51
  have hu33 := Try.underlying33
  go_enter Try.func125, Try.ntmps125
  go_wp2_with (fail)
  obtain ⟨W2, hW2⟩ : ∃ W2, W2 = (w.alloc (.cells #[.int .i64 x.f0.f0.f0, .int .i64 x.f0.f0.f1, .int .i64 x.f0.f1.f0, .int .i64 x.f0.f1.f1, .int .i64 x.f1] 51)).alloc (.cells #[.int .i64 y.f0.f0.f0, .int .i64 y.f0.f0.f1, .int .i64 y.f0.f1.f0, .int .i64 y.f0.f1.f1, .int .i64 y.f1] 51) := ⟨_, rfl⟩
  rw [← hW2]
  have hx : W2.drew.heap[w.heap.size]? = some (.cells #[.int .i64 x.f0.f0.f0, .int .i64 x.f0.f0.f1, .int .i64 x.f0.f1.f0, .int .i64 x.f0.f1.f1, .int .i64 x.f1] 51 (0, 0)) := by rw [hW2]; exact blk_alloc (blk_new w _) _
  have hy : W2.drew.heap[w.heap.size + 1]? = some (.cells #[.int .i64 y.f0.f0.f0, .int .i64 y.f0.f0.f1, .int .i64 y.f0.f1.f0, .int .i64 y.f0.f1.f1, .int .i64 y.f1] 51 (0, 0)) := by rw [hW2]; have := blk_new (w.alloc (.cells #[.int .i64 x.f0.f0.f0, .int .i64 x.f0.f0.f1, .int .i64 x.f0.f1.f0, .int .i64 x.f0.f1.f1, .int .i64 x.f1] 51)) (.cells #[.int .i64 y.f0.f0.f0, .int .i64 y.f0.f0.f1, .int .i64 y.f0.f1.f0, .int .i64 y.f0.f1.f1, .int .i64 y.f1] 51); rw [World.size_alloc] at this; exact this
  have hg2 : ∃ (q : Nat) (os : Array Obj), W2 = grow (w.drewN q) os := ⟨0, _, by rw [hW2, alloc_eq_grow, alloc_eq_grow, grow_grow]; rfl⟩
  have p0 : W2.drew.cell? ⟨w.heap.size, 0, none⟩ = some (.int .i64 x.f0.f0.f0) := (blk_cell hx 0).trans rfl
  have p1 : W2.drew.cell? ⟨w.heap.size, 1, none⟩ = some (.int .i64 x.f0.f0.f1) := (blk_cell hx 1).trans rfl
  have p2 : W2.drew.cell? ⟨w.heap.size, 2, none⟩ = some (.int .i64 x.f0.f1.f0) := (blk_cell hx 2).trans rfl
  have p3 : W2.drew.cell? ⟨w.heap.size, 3, none⟩ = some (.int .i64 x.f0.f1.f1) := (blk_cell hx 3).trans rfl
  have p4 : W2.drew.cell? ⟨w.heap.size, 4, none⟩ = some (.int .i64 x.f1) := (blk_cell hx 4).trans rfl
  have p5 : W2.drew.cell? ⟨w.heap.size + 1, 0, none⟩ = some (.int .i64 y.f0.f0.f0) := (blk_cell hy 0).trans rfl
  have p6 : W2.drew.cell? ⟨w.heap.size + 1, 1, none⟩ = some (.int .i64 y.f0.f0.f1) := (blk_cell hy 1).trans rfl
  have p7 : W2.drew.cell? ⟨w.heap.size + 1, 2, none⟩ = some (.int .i64 y.f0.f1.f0) := (blk_cell hy 2).trans rfl
  have p8 : W2.drew.cell? ⟨w.heap.size + 1, 3, none⟩ = some (.int .i64 y.f0.f1.f1) := (blk_cell hy 3).trans rfl
  have p9 : W2.drew.cell? ⟨w.heap.size + 1, 4, none⟩ = some (.int .i64 y.f1) := (blk_cell hy 4).trans rfl
  have HG2 := Aside0.mk hg2
  clear hW2 hx hy hg2
  refine start_ (n := 22) (S := fun w' => (∃ (q : Nat) (os : Array Obj), w' = Go.Sort.grow (W2.drewN q) os) ∧ w'.cell? ⟨w.heap.size, 0, none⟩ = some (.int .i64 x.f0.f0.f0) ∧ w'.cell? ⟨w.heap.size, 1, none⟩ = some (.int .i64 x.f0.f0.f1) ∧ w'.cell? ⟨w.heap.size, 2, none⟩ = some (.int .i64 x.f0.f1.f0) ∧ w'.cell? ⟨w.heap.size, 3, none⟩ = some (.int .i64 x.f0.f1.f1) ∧ w'.cell? ⟨w.heap.size, 4, none⟩ = some (.int .i64 x.f1) ∧ w'.cell? ⟨w.heap.size + 1, 0, none⟩ = some (.int .i64 y.f0.f0.f0) ∧ w'.cell? ⟨w.heap.size + 1, 1, none⟩ = some (.int .i64 y.f0.f0.f1) ∧ w'.cell? ⟨w.heap.size + 1, 2, none⟩ = some (.int .i64 y.f0.f1.f0) ∧ w'.cell? ⟨w.heap.size + 1, 3, none⟩ = some (.int .i64 y.f0.f1.f1) ∧ w'.cell? ⟨w.heap.size + 1, 4, none⟩ = some (.int .i64 y.f1)) (ds := []) #[false, false, false, false, false, false, false, false, false, false, false, false, false, false, false, false, false, false, false, false, false, false] (by kernel_rfl) rfl rfl ⟨⟨1, #[], grow1 _⟩, p0, p1, p2, p3, p4, p5, p6, p7, p8, p9⟩ (fun hHeld => ?_)
  refine pure_ (i := 0) (N := some 5) (v := ?_) (a' := ?_) #[true, false, false, false, false, false, false, false, false, false, false, false, false, false, false, false, false, false, false, false, false, false] rfl rfl (by kernel_rfl) (fun _ _ _ h => h) (Or.inl ⟨by rfl, ?_⟩) ?_ ?_
  rotate_left
  · intro w'
    go_simp
    with_reducible rfl
  rotate_left
  · simp only [Act.put, List.setIfInBounds_toArray, List.set_cons_zero, List.set_cons_succ, i64_w, i32_w]
    rfl
  refine pure_ (i := 1) (N := some 6) (v := ?_) (a' := ?_) #[true, true, false, false, false, false, false, false, false, false, false, false, false, false, false, false, false, false, false, false, false, false] rfl rfl (by kernel_rfl) (fun _ _ _ h => h) (Or.inl ⟨by rfl, ?_⟩) ?_ ?_
  rotate_left
  · intro w'
    go_simp
    with_reducible rfl
  rotate_left
  · simp only [Act.put, List.setIfInBounds_toArray, List.set_cons_zero, List.set_cons_succ, i64_w, i32_w]
    rfl
  refine pure_ (i := 3) (N := some 8) (v := ?_) (a' := ?_) #[true, true, false, true, false, false, false, false, false, false, false, false, false, false, false, false, false, false, false, false, false, false] rfl rfl (by kernel_rfl) (fun _ _ _ h => h) (Or.inl ⟨by rfl, ?_⟩) ?_ ?_
  rotate_left
  · intro w'
    go_simp
    with_reducible rfl
  rotate_left
  · simp only [Act.put, List.setIfInBounds_toArray, List.set_cons_zero, List.set_cons_succ, i64_w, i32_w]
    rfl
  refine pure_ (i := 4) (N := some 9) (v := ?_) (a' := ?_) #[true, true, false, true, true, false, false, false, false, false, false, false, false, false, false, false, false, false, false, false, false, false] rfl rfl (by kernel_rfl) (fun _ _ _ h => h) (Or.inl ⟨by rfl, ?_⟩) ?_ ?_
  rotate_left
  · intro w'
    go_simp
    with_reducible rfl
  rotate_left
  · simp only [Act.put, List.setIfInBounds_toArray, List.set_cons_zero, List.set_cons_succ, i64_w, i32_w]
    rfl
  refine pure_ (i := 7) (N := some 12) (v := ?_) (a' := ?_) #[true, true, false, true, true, false, false, true, false, false, false, false, false, false, false, false, false, false, false, false, false, false] rfl rfl (by kernel_rfl) (fun _ _ _ h => h) (Or.inl ⟨by rfl, ?_⟩) ?_ ?_
  rotate_left
  · intro w'
    go_simp
    with_reducible rfl
  rotate_left
  · simp only [Act.put, List.setIfInBounds_toArray, List.set_cons_zero, List.set_cons_succ, i64_w, i32_w]
    rfl
  refine pure_ (i := 8) (N := some 13) (v := ?_) (a' := ?_) #[true, true, false, true, true, false, false, true, true, false, false, false, false, false, false, false, false, false, false, false, false, false] rfl rfl (by kernel_rfl) (fun _ _ _ h => h) (Or.inl ⟨by rfl, ?_⟩) ?_ ?_
  rotate_left
  · intro w'
    go_simp
    with_reducible rfl
  rotate_left
  · simp only [Act.put, List.setIfInBounds_toArray, List.set_cons_zero, List.set_cons_succ, i64_w, i32_w]
    rfl
  refine pure_ (i := 10) (N := some 15) (v := ?_) (a' := ?_) #[true, true, false, true, true, false, false, true, true, false, true, false, false, false, false, false, false, false, false, false, false, false] rfl rfl (by kernel_rfl) (fun _ _ _ h => h) (Or.inl ⟨by rfl, ?_⟩) ?_ ?_
  rotate_left
  · intro w'
    go_simp
    with_reducible rfl
  rotate_left
  · simp only [Act.put, List.setIfInBounds_toArray, List.set_cons_zero, List.set_cons_succ, i64_w, i32_w]
    rfl
  refine pure_ (i := 11) (N := some 16) (v := ?_) (a' := ?_) #[true, true, false, true, true, false, false, true, true, false, true, true, false, false, false, false, false, false, false, false, false, false] rfl rfl (by kernel_rfl) (fun _ _ _ h => h) (Or.inl ⟨by rfl, ?_⟩) ?_ ?_
  rotate_left
  · intro w'
    go_simp
    with_reducible rfl
  rotate_left
  · simp only [Act.put, List.setIfInBounds_toArray, List.set_cons_zero, List.set_cons_succ, i64_w, i32_w]
    rfl
  refine pure_ (i := 14) (N := some 19) (v := ?_) (a' := ?_) #[true, true, false, true, true, false, false, true, true, false, true, true, false, false, true, false, false, false, false, false, false, false] rfl rfl (by kernel_rfl) (fun _ _ _ h => h) (Or.inl ⟨by rfl, ?_⟩) ?_ ?_
  rotate_left
  · intro w'
    go_simp
    with_reducible rfl
  rotate_left
  · simp only [Act.put, List.setIfInBounds_toArray, List.set_cons_zero, List.set_cons_succ, i64_w, i32_w]
    rfl
  refine pure_ (i := 16) (N := some 21) (v := ?_) (a' := ?_) #[true, true, false, true, true, false, false, true, true, false, true, true, false, false, true, false, true, false, false, false, false, false] rfl rfl (by kernel_rfl) (fun _ _ _ h => h) (Or.inl ⟨by rfl, ?_⟩) ?_ ?_
  rotate_left
  · intro w'
    go_simp
    with_reducible rfl
  rotate_left
  · simp only [Act.put, List.setIfInBounds_toArray, List.set_cons_zero, List.set_cons_succ, i64_w, i32_w]
    rfl
  refine take_ (i := 2) (N := some 7) (v := ?_) (a' := ?_) #[true, true, true, true, true, false, false, true, true, false, true, true, false, false, true, false, true, false, false, false, false, false] rfl rfl (by kernel_rfl) (fun _ _ _ h => h) (Or.inl ⟨by rfl, ?_⟩) hHeld ?_ ?_
  rotate_left
  · rintro w' ⟨s0, s1, s2, s3, s4, s5, s6, s7, s8, s9, s10⟩
    go_simp
    with_reducible rfl
  rotate_left
  · simp only [Act.put, List.setIfInBounds_toArray, List.set_cons_zero, List.set_cons_succ, i64_w, i32_w]
    rfl
  refine take_ (i := 5) (N := some 10) (v := ?_) (a' := ?_) #[true, true, true, true, true, true, false, true, true, false, true, true, false, false, true, false, true, false, false, false, false, false] rfl rfl (by kernel_rfl) (fun _ _ _ h => h) (Or.inl ⟨by rfl, ?_⟩) hHeld ?_ ?_
  rotate_left
  · rintro w' ⟨s0, s1, s2, s3, s4, s5, s6, s7, s8, s9, s10⟩
    go_simp
    with_reducible rfl
  rotate_left
  · simp only [Act.put, List.setIfInBounds_toArray, List.set_cons_zero, List.set_cons_succ, i64_w, i32_w]
    rfl
  refine take_ (i := 9) (N := some 14) (v := ?_) (a' := ?_) #[true, true, true, true, true, true, false, true, true, true, true, true, false, false, true, false, true, false, false, false, false, false] rfl rfl (by kernel_rfl) (fun _ _ _ h => h) (Or.inl ⟨by rfl, ?_⟩) hHeld ?_ ?_
  rotate_left
  · rintro w' ⟨s0, s1, s2, s3, s4, s5, s6, s7, s8, s9, s10⟩
    go_simp
    with_reducible rfl
  rotate_left
  · simp only [Act.put, List.setIfInBounds_toArray, List.set_cons_zero, List.set_cons_succ, i64_w, i32_w]
    rfl
  refine take_ (i := 12) (N := some 17) (v := ?_) (a' := ?_) #[true, true, true, true, true, true, false, true, true, true, true, true, true, false, true, false, true, false, false, false, false, false] rfl rfl (by kernel_rfl) (fun _ _ _ h => h) (Or.inl ⟨by rfl, ?_⟩) hHeld ?_ ?_
  rotate_left
  · rintro w' ⟨s0, s1, s2, s3, s4, s5, s6, s7, s8, s9, s10⟩
    go_simp
    with_reducible rfl
  rotate_left
  · simp only [Act.put, List.setIfInBounds_toArray, List.set_cons_zero, List.set_cons_succ, i64_w, i32_w]
    rfl
  refine take_ (i := 15) (N := some 20) (v := ?_) (a' := ?_) #[true, true, true, true, true, true, false, true, true, true, true, true, true, false, true, true, true, false, false, false, false, false] rfl rfl (by kernel_rfl) (fun _ _ _ h => h) (Or.inl ⟨by rfl, ?_⟩) hHeld ?_ ?_
  rotate_left
  · rintro w' ⟨s0, s1, s2, s3, s4, s5, s6, s7, s8, s9, s10⟩
    go_simp
    with_reducible rfl
  rotate_left
  · simp only [Act.put, List.setIfInBounds_toArray, List.set_cons_zero, List.set_cons_succ, i64_w, i32_w]
    rfl
  refine take_ (i := 17) (N := some 22) (v := ?_) (a' := ?_) #[true, true, true, true, true, true, false, true, true, true, true, true, true, false, true, true, true, true, false, false, false, false] rfl rfl (by kernel_rfl) (fun _ _ _ h => h) (Or.inl ⟨by rfl, ?_⟩) hHeld ?_ ?_
  rotate_left
  · rintro w' ⟨s0, s1, s2, s3, s4, s5, s6, s7, s8, s9, s10⟩
    go_simp
    with_reducible rfl
  rotate_left
  · simp only [Act.put, List.setIfInBounds_toArray, List.set_cons_zero, List.set_cons_succ, i64_w, i32_w]
    rfl
  refine one_ (i := 6) (N := some 11) #[true, true, true, true, true, true, true, true, true, true, true, true, true, false, true, true, true, true, false, false, false, false] rfl rfl (by kernel_rfl) (by decide) (fun K hK => ?_)
  refine goes_ Try.func163 (by kernel_rfl) rfl #[.agg #[.int .i64 x.f0.f0.f0, .int .i64 x.f0.f0.f1], .agg #[.int .i64 y.f0.f0.f0, .int .i64 y.f0.f0.f1]] (by rfl) rfl rfl (by simp only [List.map_toArray, List.map_cons, List.map_nil]; rfl) ?_
  with_reducible refine (pcmp_calls _ _ _ _ _).mono ?_
  rintro e w3 ⟨rfl, g3⟩
  refine ⟨_, rfl, ?_⟩
  refine hK.out _ _ ⟨(grow_step hHeld.1 g3), (cell_grow_step g3 hHeld.2.1), (cell_grow_step g3 hHeld.2.2.1), (cell_grow_step g3 hHeld.2.2.2.1), (cell_grow_step g3 hHeld.2.2.2.2.1), (cell_grow_step g3 hHeld.2.2.2.2.2.1), (cell_grow_step g3 hHeld.2.2.2.2.2.2.1), (cell_grow_step g3 hHeld.2.2.2.2.2.2.2.1), (cell_grow_step g3 hHeld.2.2.2.2.2.2.2.2.1), (cell_grow_step g3 hHeld.2.2.2.2.2.2.2.2.2.1), (cell_grow_step g3 hHeld.2.2.2.2.2.2.2.2.2.2)⟩ (fun hHeld => ?_)
  clear hK K
  refine norm_ (a' := ?_) ?_ ?_
  rotate_left
  · show Act.put _ (some 11) _ = _
    simp only [Act.put, List.setIfInBounds_toArray, List.set_cons_zero, List.set_cons_succ, i64_w, i32_w]
    rfl
  refine one_ (i := 13) (N := some 18) #[true, true, true, true, true, true, true, true, true, true, true, true, true, true, true, true, true, true, false, false, false, false] rfl rfl (by kernel_rfl) (by decide) (fun K hK => ?_)
  refine goes_ Try.func163 (by kernel_rfl) rfl #[.agg #[.int .i64 x.f0.f1.f0, .int .i64 x.f0.f1.f1], .agg #[.int .i64 y.f0.f1.f0, .int .i64 y.f0.f1.f1]] (by rfl) rfl rfl (by simp only [List.map_toArray, List.map_cons, List.map_nil]; rfl) ?_
  with_reducible refine (pcmp_calls _ _ _ _ _).mono ?_
  rintro e w4 ⟨rfl, g4⟩
  refine ⟨_, rfl, ?_⟩
  refine hK.out _ _ ⟨(grow_step hHeld.1 g4), (cell_grow_step g4 hHeld.2.1), (cell_grow_step g4 hHeld.2.2.1), (cell_grow_step g4 hHeld.2.2.2.1), (cell_grow_step g4 hHeld.2.2.2.2.1), (cell_grow_step g4 hHeld.2.2.2.2.2.1), (cell_grow_step g4 hHeld.2.2.2.2.2.2.1), (cell_grow_step g4 hHeld.2.2.2.2.2.2.2.1), (cell_grow_step g4 hHeld.2.2.2.2.2.2.2.2.1), (cell_grow_step g4 hHeld.2.2.2.2.2.2.2.2.2.1), (cell_grow_step g4 hHeld.2.2.2.2.2.2.2.2.2.2)⟩ (fun hHeld => ?_)
  clear hK K
  refine norm_ (a' := ?_) ?_ ?_
  rotate_left
  · show Act.put _ (some 18) _ = _
    simp only [Act.put, List.setIfInBounds_toArray, List.set_cons_zero, List.set_cons_succ, i64_w, i32_w]
    rfl
  refine one_ (i := 18) (N := some 23) #[true, true, true, true, true, true, true, true, true, true, true, true, true, true, true, true, true, true, true, false, false, false] rfl rfl (by kernel_rfl) (by decide) (fun K hK => ?_)
  refine goes_ Try.func164 (by kernel_rfl) rfl #[.int .i64 x.f1, .int .i64 y.f1] (by rfl) rfl rfl (by simp only [List.map_toArray, List.map_cons, List.map_nil]; rfl) ?_
  with_reducible refine (icmp_calls _ _ _).mono ?_
  rintro e w5 ⟨rfl, g5⟩
  refine ⟨_, rfl, ?_⟩
  refine hK.out _ _ ⟨(grow_step hHeld.1 g5), (cell_grow_step g5 hHeld.2.1), (cell_grow_step g5 hHeld.2.2.1), (cell_grow_step g5 hHeld.2.2.2.1), (cell_grow_step g5 hHeld.2.2.2.2.1), (cell_grow_step g5 hHeld.2.2.2.2.2.1), (cell_grow_step g5 hHeld.2.2.2.2.2.2.1), (cell_grow_step g5 hHeld.2.2.2.2.2.2.2.1), (cell_grow_step g5 hHeld.2.2.2.2.2.2.2.2.1), (cell_grow_step g5 hHeld.2.2.2.2.2.2.2.2.2.1), (cell_grow_step g5 hHeld.2.2.2.2.2.2.2.2.2.2)⟩ (fun hHeld => ?_)
  clear hK K
  refine norm_ (a' := ?_) ?_ ?_
  rotate_left
  · show Act.put _ (some 23) _ = _
    simp only [Act.put, List.setIfInBounds_toArray, List.set_cons_zero, List.set_cons_succ, i64_w, i32_w]
    rfl
  refine one_ (i := 19) (N := some 24) #[true, true, true, true, true, true, true, true, true, true, true, true, true, true, true, true, true, true, true, true, false, false] rfl rfl (by kernel_rfl) (by decide) (fun K hK => ?_)
  refine value_ (w1 := ?_) (v := ?_) (by rfl) rfl ?_ ?_
  rotate_left 2
  · go_simp
    constructor
    · rfl
    · rfl
  have g6 : ∃ (q : Nat) (os : Array Obj), w5.alloc (.cells #[.int .i64 (pcmpP x.f0.f0 y.f0.f0), .int .i64 (pcmpP x.f0.f1 y.f0.f1), .int .i64 (icmpP x.f1 y.f1)] 3) = Go.Sort.grow (w5.drewN q) os := ⟨0, _, by rw [alloc_eq_grow]; rfl⟩
  have hb6 := blk_new w5 (.cells #[.int .i64 (pcmpP x.f0.f0 y.f0.f0), .int .i64 (pcmpP x.f0.f1 y.f0.f1), .int .i64 (icmpP x.f1 y.f1)] 3)
  refine hK.out _ _ ⟨(grow_step hHeld.1 g6), (cell_grow_step g6 hHeld.2.1), (cell_grow_step g6 hHeld.2.2.1), (cell_grow_step g6 hHeld.2.2.2.1), (cell_grow_step g6 hHeld.2.2.2.2.1), (cell_grow_step g6 hHeld.2.2.2.2.2.1), (cell_grow_step g6 hHeld.2.2.2.2.2.2.1), (cell_grow_step g6 hHeld.2.2.2.2.2.2.2.1), (cell_grow_step g6 hHeld.2.2.2.2.2.2.2.2.1), (cell_grow_step g6 hHeld.2.2.2.2.2.2.2.2.2.1), (cell_grow_step g6 hHeld.2.2.2.2.2.2.2.2.2.2)⟩ (fun hHeld => ?_)
  clear hK K
  refine norm_ (a' := ?_) ?_ ?_
  rotate_left
  · show Act.put _ (some 24) _ = _
    simp only [Act.put, List.setIfInBounds_toArray, List.set_cons_zero, List.set_cons_succ, i64_w, i32_w]
    rfl
  refine one_ (i := 20) (N := some 25) #[true, true, true, true, true, true, true, true, true, true, true, true, true, true, true, true, true, true, true, true, true, false] rfl rfl (by kernel_rfl) (by decide) (fun K hK => ?_)
  refine goes_ Try.func162 (by kernel_rfl) rfl #[.slice (some ⟨w5.heap.size, 0, none⟩) 3 3] (by rfl) rfl rfl (by simp only [List.map_toArray, List.map_cons, List.map_nil]; rfl) ?_
  with_reducible refine (or3_calls _ _ _ _ _ hb6).mono ?_
  rintro e w7 ⟨rfl, g7⟩
  refine ⟨_, rfl, ?_⟩
  refine hK.out _ _ ⟨(grow_step hHeld.1 g7), (cell_grow_step g7 hHeld.2.1), (cell_grow_step g7 hHeld.2.2.1), (cell_grow_step g7 hHeld.2.2.2.1), (cell_grow_step g7 hHeld.2.2.2.2.1), (cell_grow_step g7 hHeld.2.2.2.2.2.1), (cell_grow_step g7 hHeld.2.2.2.2.2.2.1), (cell_grow_step g7 hHeld.2.2.2.2.2.2.2.1), (cell_grow_step g7 hHeld.2.2.2.2.2.2.2.2.1), (cell_grow_step g7 hHeld.2.2.2.2.2.2.2.2.2.1), (cell_grow_step g7 hHeld.2.2.2.2.2.2.2.2.2.2)⟩ (fun hHeld => ?_)
  clear hK K
  refine norm_ (a' := ?_) ?_ ?_
  rotate_left
  · show Act.put _ (some 25) _ = _
    simp only [Act.put, List.setIfInBounds_toArray, List.set_cons_zero, List.set_cons_succ, i64_w, i32_w]
    rfl
  refine pure_ (i := 21) (N := some 4) (v := ?_) (a' := ?_) #[true, true, true, true, true, true, true, true, true, true, true, true, true, true, true, true, true, true, true, true, true, true] rfl rfl (by kernel_rfl) (fun _ _ _ h => h) (Or.inl ⟨by rfl, ?_⟩) ?_ ?_
  rotate_left
  · intro w'
    go_simp
    with_reducible rfl
  rotate_left
  · simp only [Act.put, List.setIfInBounds_toArray, List.set_cons_zero, List.set_cons_succ, i64_w, i32_w]
    rfl
  refine done_ (by kernel_rfl) ?_
  have HF := Aside0.mk (grow_step HG2.out hHeld.1)
  clear hHeld
  go_wp2
  go_ret
  exact ⟨rfl, HF.out⟩
instance : Inhabited S51 := ⟨⟨⟨⟨0, 0⟩, ⟨0, 0⟩⟩, 0⟩⟩
def encBox (x : S51) : List Value := [.int .i64 x.f0.f0.f0, .int .i64 x.f0.f0.f1, .int .i64 x.f0.f1.f0, .int .i64 x.f0.f1.f1, .int .i64 x.f1]
theorem Flat_k51 : Flat k51 encBox := ⟨fun _ => rfl, fun w base ok x => k51_mkM w base ok x, fun h => k51_openM h⟩
theorem icmpP_lt (a b : Int) : icmpP a b < 0 ↔ a < b := by unfold icmpP; split <;> (try split) <;> omega
theorem icmpP_eq (a b : Int) : icmpP a b = 0 ↔ a = b := by unfold icmpP; split <;> (try split) <;> omega
theorem pcmpP_lt (p q : S33) : pcmpP p q < 0 ↔ p.f0 < q.f0 ∨ p.f0 = q.f0 ∧ p.f1 < q.f1 := by
  unfold pcmpP
  split
  · rename_i h; rw [icmpP_lt]; omega
  · rename_i h; rw [icmpP_lt]; omega
theorem pcmpP_eq (p q : S33) : pcmpP p q = 0 ↔ p.f0 = q.f0 ∧ p.f1 = q.f1 := by
  unfold pcmpP
  split
  · rename_i h; rw [icmpP_eq]; omega
  · rename_i h; rw [icmpP_eq]; omega
theorem ltBox (x y : S51) : ltOf bcmpP x y = decide (blt x y) := by
  unfold ltOf bcmpP or3P
  refine decide_eq_decide.2 ?_
  rw [blt_iff]
  have h1 := pcmpP_lt x.f0.f0 y.f0.f0
  have h2 := pcmpP_eq x.f0.f0 y.f0.f0
  have h3 := pcmpP_lt x.f0.f1 y.f0.f1
  have h4 := pcmpP_eq x.f0.f1 y.f0.f1
  have h5 := icmpP_lt x.f1 y.f1
  simp only [orL]
  generalize pcmpP x.f0.f0 y.f0.f0 = a at *
  generalize pcmpP x.f0.f1 y.f0.f1 = b at *
  generalize icmpP x.f1 y.f1 = c at *
  by_cases ha : a = 0
  · have e := h2.1 ha
    rw [if_neg (by simp [ha])]
    by_cases hb : b = 0
    · have e2 := h4.1 hb
      rw [if_neg (by simp [hb])]
      by_cases hc : c = 0
      · rw [if_neg (by simp [hc])]; omega
      · rw [if_pos hc]; omega
    · rw [if_pos hb]; omega
  · rw [if_pos ha]; omega
theorem swoBox : SWO (ltOf bcmpP) where
  irrefl x := by rw [ltBox]; exact decide_eq_false (blt_irrefl x)
  trans x y z h1 h2 := by rw [ltBox] at *; exact decide_eq_true (blt_trans (of_decide_eq_true h1) (of_decide_eq_true h2))
  ntrans x y z h1 h2 := by
    rw [ltBox] at *
    have h1 := of_decide_eq_false h1
    have h2 := of_decide_eq_false h2
    refine decide_eq_false fun h3 => ?_
    by_cases h4 : blt y x
    · exact h2 (blt_trans h4 h3)
    · have := blt_tri h1 h4
      subst this
      exact h2 h3
set_option maxHeartbeats 1000000 in
theorem sortBox_calls (P0_ : Nat → Prop) (u : Value) (l0 : List S51) (hlt : l0.length < 4611686018427387904) (w0 w : World) (hB : Below w0.heap.size w0 w) (ho0 : Kd.R k51 51 w w0.heap.size P0_ u l0) :
    Calls Try.prog 124 #[u, .func (.func 125) #[] #[]] w fun e w' => e = .returned (.tuple #[]) ∧ Kd.R k51 51 w' w0.heap.size (fun k_ => (P0_ k_ ∨ w.heap.size ≤ k_)) u (orderedP l0) ∧ Below w0.heap.size w0 w' ∧ Kept w w' (fun k_ => P0_ k_) := by
  have hF := Flat_k51
  have eg : ∀ args w, (callFunc 125 args).run Try.prog w = .ok (.enter 125 args) w := enters_of Try.func125 (by kernel_rfl) rfl
  rcases R_shape hF ho0 with ⟨rfl, rfl⟩ | ⟨g, cap, cur, rfl, hg, hb, h1, h2, h4⟩
  · refine (AnyF.slices_SortFunc_none Try.sortBox none 0 _ w).mono ?_
    rintro e w' ⟨rfl, rfl⟩
    exact ⟨rfl, Kd.R_mono ho0 (fun k hk => .inl hk), hB, Kept.refl _ _⟩
  · have hfl : (flatK encBox 5 l0.toArray).toList = l0.flatMap encBox := by
      rw [flatK_toList encBox 5 (fun _ => rfl), List.toList_toArray]
    have hH : HoldsK encBox 5 w g 0 l0.toArray := by
      refine holds_row id _ hb ?_
      rw [size_flatK, List.map_id, hfl, List.size_toArray]
      exact h4
    have hcon := AnyQ.slices_SortFunc_eq Try.sortBox 5 Try.isAgg51 Try.sizeOf51 encBox (fun _ => rfl) (fun x v hv => by simp [encBox] at hv; rcases hv with rfl | rfl | rfl | rfl | rfl <;> rfl) bcmpP swoBox 125 #[] g 0 cap l0.toArray w eg (fun _ _ _ _ x y => before_cmp x y _) hH hg (by simpa using hlt)
    have hsp := pdq_sorts (ltOf bcmpP) swoBox l0.toArray 0 l0.toArray.size (Lib.bitLen l0.toArray.size) true true (Nat.zero_le _) (Nat.le_refl _) (Or.inl rfl)
    refine (show Calls Try.prog 124 #[.slice (some ⟨g, 0, none⟩) l0.length cap, .func (.func 125) #[] #[]] w _ from hcon).mono ?_
    rintro e w' ⟨rfl, n, os, rfl⟩
    generalize pdq (ltOf bcmpP) l0.toArray 0 l0.toArray.size (Lib.bitLen l0.toArray.size) true true = d' at hsp ⊢
    obtain ⟨⟨hs, _, hp⟩, hs2⟩ := hsp
    have hs' : d'.size = l0.length := by simpa using hs
    have e1 : (d'.extract 0 l0.toArray.size).toList = d'.toList := by rw [← hs, Array.extract_size]
    rw [e1] at hp
    have hperm : d'.toList.Perm l0 := by simpa using hp
    have hasc : BAsc d'.toList := by
      unfold BAsc
      rw [List.pairwise_iff_getElem]
      intro i j hi hj hij
      have hi' : i < d'.size := by simpa using hi
      have hj' : j < d'.size := by simpa using hj
      have := hs2 i j (Nat.zero_le _) hij (by simpa [hs'] using hj')
      rw [getElem!_pos d' i hi', getElem!_pos d' j hj'] at this
      rw [ltBox] at this
      have := of_decide_eq_false this
      simpa only [Array.getElem_toList] using this
    have hord := orderedP_law l0
    have heq : d'.toList = orderedP l0 := BAsc.eq hasc hord.1 (hperm.trans hord.2.symm)
    have hol : (orderedP l0).length = l0.length := hord.2.length_eq
    have hfl' : (flatK encBox 5 d').toList = (orderedP l0).flatMap encBox := by rw [flatK_toList encBox 5 (fun _ => rfl), heq]
    have hpr := put_R id (flatK encBox 5 d') hF hB ho0 n os (by rw [size_flatK, hs']; rfl) (orderedP l0) (by omega) (by
      rw [List.map_id, hfl']
      exact List.take_of_length_le (by rw [flat_length hF.len]; exact Nat.le_refl _))
    rw [hol] at hpr
    exact ⟨rfl, hpr⟩
end Go.Proofs.Ytdcelpppgbmlaaa.P
