/- rtree's Bounds, Len, Depth, Stab. No condition but that the tree is one that Build has made. -/
import Derived.Test.YtdcelpppgbmlaaaSESearch
namespace Go.Proofs.Ytdcelpppgbmlaaa.P
open Go.RowKit Go.Shelf Go.Proofs.YtdcelpppgbmlaaaW.PrintWords Go.Proofs.YtdcelpppgbmlaaaW.PrintLast Go.Proofs.YtdcelpppgbmlaaaW.PrintMore
set_option linter.unusedSimpArgs false
set_option linter.unusedVariables false
set_option maxHeartbeats 1000000 in
theorem rtree_Len.calls (v : Value) (T : RT) (w : World) (hT : rtK w v T) : Calls Try.prog 89 #[v] w fun e w' => e = .returned (.int .i64 (rtLen T : Nat)) ∧ Below w.heap.size w w' := by
  rcases T with _ | ⟨root, n, dp⟩
  · obtain rfl : v = .pointer none := hT
    go_enter Try.func89, Try.ntmps89
    go_wp2_with (fail)
    go_ret
    exact ⟨rfl, Below.refl _ _⟩
  · obtain ⟨tb, rv, rfl, h1, _⟩ := hT
    have c1 : w.cell? ⟨tb, 1, none⟩ = some (.int .i64 (n : Nat)) := (blk_cell h1 1).trans rfl
    go_enter Try.func89, Try.ntmps89
    go_wp2_with (fail)
    go_ret
    exact ⟨rfl, Below.refl _ _⟩
set_option maxHeartbeats 1000000 in
theorem rtree_Depth.calls (v : Value) (T : RT) (w : World) (hT : rtK w v T) : Calls Try.prog 90 #[v] w fun e w' => e = .returned (.int .i64 (rtDepth T : Nat)) ∧ Below w.heap.size w w' := by
  rcases T with _ | ⟨root, n, dp⟩
  · obtain rfl : v = .pointer none := hT
    go_enter Try.func90, Try.ntmps90
    go_wp2_with (fail)
    go_ret
    exact ⟨rfl, Below.refl _ _⟩
  · obtain ⟨tb, rv, rfl, h1, _⟩ := hT
    have c1 : w.cell? ⟨tb, 2, none⟩ = some (.int .i64 (dp : Nat)) := (blk_cell h1 2).trans rfl
    go_enter Try.func90, Try.ntmps90
    go_wp2_with (fail)
    go_ret
    exact ⟨rfl, Below.refl _ _⟩
def orZ (b : Option S41) : S41 := b.getD z41
set_option maxHeartbeats 2000000 in
theorem rtree_Bounds.calls (v : Value) (T : RT) (w : World) (hT : rtK w v T) : Calls Try.prog 87 #[v] w fun e w' => e = .returned (.tuple #[.agg #[.int .i64 (orZ (rtBounds T)).f0.f0, .int .i64 (orZ (rtBounds T)).f0.f1, .int .i64 (orZ (rtBounds T)).f1.f0, .int .i64 (orZ (rtBounds T)).f1.f1], .bool (rtBounds T).isSome]) ∧ Below w.heap.size w w' := by
  have hu41 := Try.underlying41
  have hu33 := Try.underlying33
  rcases T with _ | ⟨_ | ⟨d, x⟩, n, dp⟩
  · obtain rfl : v = .pointer none := hT
    go_enter Try.func87, Try.ntmps87
    go_wp2_with (fail)
    refine bodyPost_ret (results_ct rfl _ _ w.heap.size 41 #[.int .i64 0, .int .i64 0, .int .i64 0, .int .i64 0] (0, 0) _ rfl (blk_new w _) hu41 rfl (by kernel_rfl)) rfl ?_
    exact ⟨rfl, below_alloc (Below.refl _ _) _⟩
  · obtain ⟨tb, rv, rfl, h1, h2⟩ := hT
    obtain rfl : rv = .pointer none := h2
    have c1 : ∀ o, (w.alloc o).cell? ⟨tb, 0, none⟩ = some (.pointer none) := fun o => (blk_cell (blk_alloc h1 o) 0).trans rfl
    go_enter Try.func87, Try.ntmps87
    go_wp2_with (fail)
    refine bodyPost_ret (results_ct rfl _ _ w.heap.size 41 #[.int .i64 0, .int .i64 0, .int .i64 0, .int .i64 0] (0, 0) _ rfl (blk_new w _) hu41 rfl (by kernel_rfl)) rfl ?_
    exact ⟨rfl, below_alloc (Below.refl _ _) _⟩
  · obtain ⟨tb, rv, rfl, h1, b, rfl, hK⟩ := hT
    have c1 : ∀ o, (w.alloc o).cell? ⟨tb, 0, none⟩ = some (nodeV b) := fun o => (blk_cell (blk_alloc h1 o) 0).trans rfl
    obtain ⟨b', A4, c4, A5, c5, hbe, hn0, _, _, _, _⟩ := kN_open hK
    obtain rfl : b = b' := by simpa [nodeV] using hbe
    have z0 : ∀ o, (w.alloc o).cell? ⟨b, 0, none⟩ = some (.int .i64 x.f0.f0.f0) := fun o => (blk_cell (blk_alloc hn0 o) 0).trans rfl
    have z1 : ∀ o, (w.alloc o).cell? ⟨b, 1, none⟩ = some (.int .i64 x.f0.f0.f1) := fun o => (blk_cell (blk_alloc hn0 o) 1).trans rfl
    have z2 : ∀ o, (w.alloc o).cell? ⟨b, 2, none⟩ = some (.int .i64 x.f0.f1.f0) := fun o => (blk_cell (blk_alloc hn0 o) 2).trans rfl
    have z3 : ∀ o, (w.alloc o).cell? ⟨b, 3, none⟩ = some (.int .i64 x.f0.f1.f1) := fun o => (blk_cell (blk_alloc hn0 o) 3).trans rfl
    clear h1 hK hn0 hbe
    go_enter Try.func87, Try.ntmps87
    go_wp2_with (fail)
    refine bodyPost_ret (results_ct rfl _ _ w.heap.size 41 #[.int .i64 x.f0.f0.f0, .int .i64 x.f0.f0.f1, .int .i64 x.f0.f1.f0, .int .i64 x.f0.f1.f1] (0, 0) _ rfl (blk_new w _) hu41 rfl (by kernel_rfl)) rfl ?_
    exact ⟨rfl, below_alloc (Below.refl _ _) _⟩
set_option maxHeartbeats 2000000 in
theorem rtree_Stab.calls (v : Value) (T : RT) (a b : Int) (M : Nat) (hM1 : M ≤ 1000000) (hG : GoodT M T) (hN : ∀ r, rtVisits T r ≤ 1000000) (w : World) (hT : rtK w v T) :
    Calls Try.prog 95 #[v, .int .i64 a, .int .i64 b] w fun e w' => ∃ v0 : Value, e = .returned v0 ∧ Kd.R (Kd.int .i64) 3 w' w.heap.size (fun _ => True) v0 (rtStab T a b) ∧ Below w.heap.size w w' := by
  obtain ⟨p, rfl⟩ := rtK_ptr hT
  have HT := Aside0.mk hT
  clear hT
  by_cases h1 : a < 0
  · have hs : rtStab T a b = [] := by unfold rtStab; rw [if_pos (.inl h1)]
    rw [hs]
    go_enter Try.func95, Try.ntmps95
    go_wp2_with (fail)
    go_ret
    exact ⟨_, rfl, Kd.R_nil _ _ _ _ _, Below.refl _ _⟩
  by_cases h2 : a ≥ 1099511627776
  · have hs : rtStab T a b = [] := by unfold rtStab; rw [if_pos (.inr (.inl h2))]
    rw [hs]
    go_enter Try.func95, Try.ntmps95
    go_wp2_with (fail)
    go_ret
    exact ⟨_, rfl, Kd.R_nil _ _ _ _ _, Below.refl _ _⟩
  by_cases h3 : b < 0
  · have hs : rtStab T a b = [] := by unfold rtStab; rw [if_pos (.inr (.inr (.inl h3)))]
    rw [hs]
    go_enter Try.func95, Try.ntmps95
    go_wp2_with (fail)
    go_ret
    exact ⟨_, rfl, Kd.R_nil _ _ _ _ _, Below.refl _ _⟩
  by_cases h4 : b ≥ 1099511627776
  · have hs : rtStab T a b = [] := by unfold rtStab; rw [if_pos (.inr (.inr (.inr h4)))]
    rw [hs]
    go_enter Try.func95, Try.ntmps95
    go_wp2_with (fail)
    go_ret
    exact ⟨_, rfl, Kd.R_nil _ _ _ _ _, Below.refl _ _⟩
  have hs : rtStab T a b = rtSearch T ⟨⟨a, a + 1⟩, ⟨b, b + 1⟩⟩ := by unfold rtStab; rw [if_neg (by omega)]
  rw [hs]
  have w1 : wrap64 (a + 1) = a + 1 := by unfold wrap64; omega
  have w2 : wrap64 (b + 1) = b + 1 := by unfold wrap64; omega
  go_enter Try.func95, Try.ntmps95
  go_wp2_with (go_at_call 59; refine (rtree_Search.calls (.pointer p) T ⟨⟨a, a + 1⟩, ⟨b, b + 1⟩⟩ M hM1 hG (hN _) _ HT.out).mono ?_; rintro e w3 ⟨v0, rfl, hR, hB⟩; obtain ⟨A1, c1, rfl⟩ := Kd.R_slice hR; have HR := Aside0.mk (And.intro hR hB); clear hR hB)
  go_ret
  exact ⟨_, rfl, HR.out.1, HR.out.2⟩
end Go.Proofs.Ytdcelpppgbmlaaa.P
