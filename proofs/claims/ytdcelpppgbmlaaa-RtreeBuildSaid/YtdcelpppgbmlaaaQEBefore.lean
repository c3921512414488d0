/- bitemporalref31.before: one box comes ahead of another. -/
import Derived.Test.YtdcelpppgbmlaaaQP0
namespace Go.Proofs.Ytdcelpppgbmlaaa.P
set_option linter.unusedSimpArgs false
set_option linter.unusedVariables false
open Go.RowKit Go.Proofs.YtdcelpppgbmlaaaW.PrintWords Go.Proofs.YtdcelpppgbmlaaaW.PrintLast Go.Proofs.YtdcelpppgbmlaaaW.PrintMore
def befL : List Int → List Int → Bool
  | a :: l, b :: m => if a = b then befL l m else decide (a < b)
  | _, _ => false
theorem befL_drop {xs ys : List Int} {j : Nat} (h1 : j < xs.length) (h2 : j < ys.length) : befL (xs.drop j) (ys.drop j) = if xs.getD j 0 = ys.getD j 0 then befL (xs.drop (j + 1)) (ys.drop (j + 1)) else decide (xs.getD j 0 < ys.getD j 0) := by
  rw [List.drop_eq_getElem_cons h1, List.drop_eq_getElem_cons h2, befL, List.getD_eq_getElem?_getD, List.getD_eq_getElem?_getD, List.getElem?_eq_getElem h1, List.getElem?_eq_getElem h2]
  rfl
def R31_before.f (a0_0 : Int) (a0_1 : Int) (a0_2 : Int) (a0_3 : Int) (a0_4 : Int) (a1_0 : Int) (a1_1 : Int) (a1_2 : Int) (a1_3 : Int) (a1_4 : Int) : Option (Bool) := some (befL [a0_0, a0_1, a0_2, a0_3, a0_4] [a1_0, a1_1, a1_2, a1_3, a1_4])
theorem arr5 {W : World} {g : Nat} {t : TypeId} {x0 x1 x2 x3 x4 : Int} (h : W.heap[g]? = some (.cells #[.int .i64 x0, .int .i64 x1, .int .i64 x2, .int .i64 x3, .int .i64 x4] t (0, 0))) (j : Nat) (hj : j < 5) : W.cell? ⟨g, j, none⟩ = some (.int .i64 ([x0, x1, x2, x3, x4].getD j 0)) := by
  rw [blk_cell h j]
  match j, hj with
  | 0, _ => rfl
  | 1, _ => rfl
  | 2, _ => rfl
  | 3, _ => rfl
  | 4, _ => rfl
set_option maxHeartbeats 8000000 in
set_option maxRecDepth 100000 in
theorem R31_before.calls (a0_0 : Int) (a0_1 : Int) (a0_2 : Int) (a0_3 : Int) (a0_4 : Int) (a1_0 : Int) (a1_1 : Int) (a1_2 : Int) (a1_3 : Int) (a1_4 : Int) (r : Bool) (w : World) (h : R31_before.f a0_0 a0_1 a0_2 a0_3 a0_4 a1_0 a1_1 a1_2 a1_3 a1_4 = some r) :
    Calls Try.prog 175 #[.agg #[.int .i64 a0_0, .int .i64 a0_1, .int .i64 a0_2, .int .i64 a0_3, .int .i64 a0_4], .agg #[.int .i64 a1_0, .int .i64 a1_1, .int .i64 a1_2, .int .i64 a1_3, .int .i64 a1_4]] w fun e w' => e = .returned (.bool r) ∧ Below w.heap.size w w' := by
  injection h with h
  go_enter Try.func175, Try.ntmps175
  go_wp2_with (fail)
  have hsz : ∀ (W : World) (o : Obj), (W.alloc o).heap.size = W.heap.size + 1 := fun W o => by simp
  obtain ⟨W0, hW0⟩ : ∃ W0, W0 = (((w.alloc (.cells #[.int .i64 a0_0, .int .i64 a0_1, .int .i64 a0_2, .int .i64 a0_3, .int .i64 a0_4] 51)).alloc (.cells #[.int .i64 a1_0, .int .i64 a1_1, .int .i64 a1_2, .int .i64 a1_3, .int .i64 a1_4] 51)).alloc (.cells #[.int .i64 a0_0, .int .i64 a0_1, .int .i64 a0_2, .int .i64 a0_3, .int .i64 a0_4] 232)).alloc (.cells #[.int .i64 a1_0, .int .i64 a1_1, .int .i64 a1_2, .int .i64 a1_3, .int .i64 a1_4] 232) := ⟨_, rfl⟩
  have hB0 : Below w.heap.size w W0 := by rw [hW0]; exact below_alloc (below_alloc (below_alloc (below_alloc (Below.refl _ _) _) _) _) _
  have hx : W0.heap[w.heap.size + 1 + 1]? = some (.cells #[.int .i64 a0_0, .int .i64 a0_1, .int .i64 a0_2, .int .i64 a0_3, .int .i64 a0_4] 232 (0, 0)) := by
    rw [hW0]; refine blk_alloc ?_ _; have := blk_new ((w.alloc (.cells #[.int .i64 a0_0, .int .i64 a0_1, .int .i64 a0_2, .int .i64 a0_3, .int .i64 a0_4] 51)).alloc (.cells #[.int .i64 a1_0, .int .i64 a1_1, .int .i64 a1_2, .int .i64 a1_3, .int .i64 a1_4] 51)) (.cells #[.int .i64 a0_0, .int .i64 a0_1, .int .i64 a0_2, .int .i64 a0_3, .int .i64 a0_4] 232)
    simpa [hsz] using this
  have hy : W0.heap[w.heap.size + 1 + 1 + 1]? = some (.cells #[.int .i64 a1_0, .int .i64 a1_1, .int .i64 a1_2, .int .i64 a1_3, .int .i64 a1_4] 232 (0, 0)) := by
    rw [hW0]; have := blk_new (((w.alloc (.cells #[.int .i64 a0_0, .int .i64 a0_1, .int .i64 a0_2, .int .i64 a0_3, .int .i64 a0_4] 51)).alloc (.cells #[.int .i64 a1_0, .int .i64 a1_1, .int .i64 a1_2, .int .i64 a1_3, .int .i64 a1_4] 51)).alloc (.cells #[.int .i64 a0_0, .int .i64 a0_1, .int .i64 a0_2, .int .i64 a0_3, .int .i64 a0_4] 232)) (.cells #[.int .i64 a1_0, .int .i64 a1_1, .int .i64 a1_2, .int .i64 a1_3, .int .i64 a1_4] 232)
    simpa [hsz] using this
  rw [← hW0]
  clear hW0
  generalize w.heap.size + 1 + 1 + 1 = g6 at hy ⊢
  generalize w.heap.size + 1 + 1 = g5 at hx ⊢
  generalize hxs : [a0_0, a0_1, a0_2, a0_3, a0_4] = xs at h
  generalize hys : [a1_0, a1_1, a1_2, a1_3, a1_4] = ys at h
  have cx : ∀ j, j < 5 → W0.cell? ⟨g5, j, none⟩ = some (.int .i64 (xs.getD j 0)) := fun j hj => by rw [← hxs]; exact arr5 hx j hj
  have cy : ∀ j, j < 5 → W0.cell? ⟨g6, j, none⟩ = some (.int .i64 (ys.getD j 0)) := fun j hj => by rw [← hys]; exact arr5 hy j hj
  have lx : xs.length = 5 := by rw [← hxs]; rfl
  have ly : ys.length = 5 := by rw [← hys]; rfl
  clear hx hy hxs hys
  go_loopw [7] (fun i wr => ∃ j : Nat, j ≤ 5 ∧ i = .int .i64 j ∧ befL (xs.drop j) (ys.drop j) = r ∧ Below W0.heap.size W0 wr) (fun i _ => 5 - (intOf i).toNat)
  case atStart => exact ⟨0, by omega, rfl, h, Below.refl _ _⟩
  case round =>
    obtain ⟨j, hj, rfl, hr, hB1⟩ := hrel
    have hr' := Aside0.mk hr
    clear hr h
    by_cases hlt : j < 5
    · have hlt' : (j : Int) < 5 := by omega
      have h1 := cx j hlt
      have h2 := cy j hlt
      have ex := befL_drop (j := j) (xs := xs) (ys := ys) (by omega) (by omega)
      replace h1 := (hB1.cell (World.block_lt_of_cell? W0 _ h1)).trans h1
      replace h2 := (hB1.cell (World.block_lt_of_cell? W0 _ h2)).trans h2
      have ex' := Aside0.mk ex
      clear ex cx cy
      generalize xs.getD j 0 = x at h1 h2 ex'
      generalize ys.getD j 0 = y at h1 h2 ex'
      have h1d : wr.drew.cell? ⟨g5, j, none⟩ = some (.int .i64 x) := h1
      have h2d : wr.drew.cell? ⟨g6, j, none⟩ = some (.int .i64 y) := h2
      go_wp2_with (fail)
      go_region
      have hw : wrap64 ((j : Int) + 1) = ((j + 1 : Nat) : Int) := by unfold wrap64; omega
      by_cases hxy : x = y
      · have e2 := ex'.out
        rw [if_pos hxy, hr'.out] at e2
        subst hxy
        have e2' := Aside0.mk e2
        clear e2 ex' hr'
        go_wp2_with (fail)
        exact ⟨⟨j + 1, by omega, by simp, e2'.out.symm, below_drew hB1⟩, by simp only [intOf]; omega⟩
      · have e2 := ex'.out
        rw [if_neg hxy, hr'.out] at e2
        have e2' := Aside0.mk e2
        clear e2 ex' hr'
        have h1e : wr.drew.drew.cell? ⟨g5, j, none⟩ = some (.int .i64 x) := h1
        have h2e : wr.drew.drew.cell? ⟨g6, j, none⟩ = some (.int .i64 y) := h2
        go_wp2_with (fail)
        go_region
        go_wp2_with (fail)
        go_ret
        rw [e2'.out]
        exact ⟨rfl, below_step hB0 (below_drew (below_drew hB1))⟩
    · have hlt' : ¬ (j : Int) < 5 := by omega
      have : j = 5 := by omega
      subst this
      go_wp2_with (fail)
      go_ret
      have := hr'.out
      rw [List.drop_of_length_le (by omega), List.drop_of_length_le (by omega)] at this
      subst this
      exact ⟨rfl, below_step hB0 hB1⟩
end Go.Proofs.Ytdcelpppgbmlaaa.P
