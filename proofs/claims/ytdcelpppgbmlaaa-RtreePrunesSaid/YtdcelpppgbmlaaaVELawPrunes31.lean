/- The law RtreePrunes of package bitemporallaw31 answers true. No condition. -/
import Derived.Test.YtdcelpppgbmlaaaVELaw31
namespace Go.Proofs.Ytdcelpppgbmlaaa.P
open Go.RowKit Go.Shelf Go.Proofs.YtdcelpppgbmlaaaW.PrintWords Go.Proofs.YtdcelpppgbmlaaaW.PrintLast Go.Proofs.YtdcelpppgbmlaaaW.PrintMore
set_option linter.unusedSimpArgs false
set_option linter.unusedVariables false
attribute [local go_sem high] eqA41
theorem none_search (r : S41) (w : World) : Calls Try.prog 59 #[.pointer none, .agg #[.int .i64 r.f0.f0, .int .i64 r.f0.f1, .int .i64 r.f1.f0, .int .i64 r.f1.f1]] w fun e w' => (∃ A c, e = .returned (.slice A 0 c)) ∧ Below w.heap.size w w' :=
  (search_calls (.pointer none) none (.inl rfl) r w rfl).mono fun e w' ⟨⟨A, c, h, _⟩, hB⟩ => by
    have e0 : rtSearch none r = [] := by unfold rtSearch; simp [rtHits, rtRoot]
    rw [e0] at h
    exact ⟨⟨A, c, h⟩, hB⟩
theorem none_visits (r : S41) (w : World) : Calls Try.prog 93 #[.pointer none, .agg #[.int .i64 r.f0.f0, .int .i64 r.f0.f1, .int .i64 r.f1.f0, .int .i64 r.f1.f1]] w fun e w' => e = .returned (.int .i64 0) ∧ Below w.heap.size w w' := visits_calls (.pointer none) none (.inl rfl) r w rfl
theorem none_len (w : World) : Calls Try.prog 89 #[.pointer none] w fun e w' => e = .returned (.int .i64 0) ∧ Below w.heap.size w w' := rtree_Len.calls (.pointer none) none w rfl
theorem none_depth (w : World) : Calls Try.prog 90 #[.pointer none] w fun e w' => e = .returned (.int .i64 0) ∧ Below w.heap.size w w' := rtree_Depth.calls (.pointer none) none w rfl
theorem none_stab (w : World) : Calls Try.prog 95 #[.pointer none, .int .i64 0, .int .i64 0] w fun e w' => (∃ A c, e = .returned (.slice A 0 c)) ∧ Below w.heap.size w w' :=
  (stab_calls (.pointer none) none (.inl rfl) 0 0 w rfl).mono fun e w' ⟨⟨A, c, h, _⟩, hB⟩ => by
    have e0 : rtStab none 0 0 = [] := by unfold rtStab rtSearch; rw [if_neg (by decide)]; simp [rtHits, rtRoot]
    rw [e0] at h
    exact ⟨⟨A, c, h⟩, hB⟩
theorem none_bounds (w : World) : Calls Try.prog 87 #[.pointer none] w fun e w' => e = .returned (.tuple #[.agg #[.int .i64 0, .int .i64 0, .int .i64 0, .int .i64 0], .bool false]) ∧ Below w.heap.size w w' := rtree_Bounds.calls (.pointer none) none w rfl
theorem Fine.prunes {l : List S51} {T : RT} (h : Fine l T) (r : S41) : ((rtSearch T r).length = 0 ∨ rtDepth T ≤ rtVisits T r) ∧ ((rtBounds T).isSome = true → ¬ Ovr (orZ (rtBounds T)) r → (rtSearch T r).length = 0 ∧ rtVisits T r ≤ 1) := by
  have hlen : (rtSearch T r).length = (rtHits T r).length := by unfold rtSearch; rw [List.length_mergeSort, List.length_map]
  by_cases hn : l = []
  · have hr := (h.nil hn).1
    have hh : rtHits T r = [] := by unfold rtHits; rw [hr]
    refine ⟨.inl (by rw [hlen, hh]; rfl), fun hb => ?_⟩
    unfold rtBounds at hb
    rw [hr] at hb
    cases hb
  · obtain ⟨d, x, e1, e0, e2, e3, _⟩ := h.root hn
    have hh : rtHits T r = if SndR r then P.hits r d x else [] := by unfold rtHits; rw [e1]
    have hv : rtVisits T r = if SndR r then visitsOf r d x else 0 := by unfold rtVisits; rw [e1]
    have hbd : rtBounds T = some x.f0 := by unfold rtBounds; rw [e1]; rfl
    constructor
    · by_cases hs : SndR r
      · rw [if_pos hs] at hh hv
        by_cases hi : P.hits r d x = []
        · exact .inl (by rw [hlen, hh, hi]; rfl)
        · exact .inr (by rw [hv, e0]; exact visits_depth r hi)
      · exact .inl (by rw [hlen, hh, if_neg hs]; rfl)
    · intro _ hno
      rw [hbd] at hno
      have ho := visits_out r e2 (h.sndB e3) hno
      by_cases hs : SndR r
      · rw [if_pos hs] at hh hv
        exact ⟨by rw [hlen, hh, ho.2]; rfl, by rw [hv, ho.1]; exact Nat.le_refl _⟩
      · exact ⟨by rw [hlen, hh, if_neg hs]; rfl, by rw [hv, if_neg hs]; exact Nat.zero_le _⟩
theorem ovl_calls (b r : S41) (v : Bool) (hv : decide (Ovr b r) = v) (w : World) : Calls Try.prog 100 #[.agg #[.int .i64 b.f0.f0, .int .i64 b.f0.f1, .int .i64 b.f1.f0, .int .i64 b.f1.f1], .agg #[.int .i64 r.f0.f0, .int .i64 r.f0.f1, .int .i64 r.f1.f0, .int .i64 r.f1.f1]] w fun e w' => e = .returned (.bool v) ∧ Below w.heap.size w w' := by
  subst hv
  exact R31_Overlap.calls _ _ _ _ _ _ _ _ _ w (Overlap31_eq b r)
set_option maxHeartbeats 4000000 in
set_option maxRecDepth 100000 in
theorem L31_RtreePrunes.calls (A0 : Option Addr) (c0 : Nat) (l : List S51) (a : Int) (r : S41) (hwf : ∀ b ∈ l, (Lit.int .i64 b.f1).wf = true) (ha : 0 ≤ a ∧ a < 256) (w : World) (hr0 : Kd.C k51 w A0 l.length l) (hc0 : l.length ≤ c0) :
    Calls Try.prog 23 #[.slice A0 l.length c0, .int .u8 a, .agg #[.int .i64 r.f0.f0, .int .i64 r.f0.f1, .int .i64 r.f1.f0, .int .i64 r.f1.f1]] w fun e w' => e = .returned (.bool true) ∧ Below w.heap.size w w' := by
  have hu41 := Try.underlying41
  have HR := Aside0.mk hr0
  have HWF := Aside0.mk hwf
  have HB0 : Aside0 (Below w.heap.size w (w.alloc (.cells #[.int .i64 r.f0.f0, .int .i64 r.f0.f1, .int .i64 r.f1.f0, .int .i64 r.f1.f1] 41))) := ⟨below_alloc (Below.refl _ _) _⟩
  have HBW := HB0
  have HP0 : Aside0 ((w.alloc (.cells #[.int .i64 r.f0.f0, .int .i64 r.f0.f1, .int .i64 r.f1.f0, .int .i64 r.f1.f1] 41)).heap[w.heap.size]? = some (.cells #[.int .i64 r.f0.f0, .int .i64 r.f0.f1, .int .i64 r.f1.f0, .int .i64 r.f1.f1] 41 (0, 0))) := ⟨blk_new w _⟩
  clear hr0 hwf
  go_enter Try.func23, Try.ntmps23
  go_wp2_with (first
    | (go_at_call 87; refine (none_bounds _).mono ?_; rintro e w1 ⟨rfl, hB⟩; have HB1 := Aside0.mk hB; clear hB)
    | fail)
  obtain ⟨W0, hW0⟩ : ∃ W0, W0 = w1.alloc (.cells #[.int .i64 0, .int .i64 0, .int .i64 0, .int .i64 0] 41) := ⟨_, rfl⟩
  rw [← hW0]
  have hB7 : Below w1.heap.size w1 W0.drew := by rw [hW0]; exact (below_alloc (Below.refl _ _) _).trans (below_drew (Below.refl _ _))
  have hPr : W0.drew.heap[w.heap.size]? = some (.cells #[.int .i64 r.f0.f0, .int .i64 r.f0.f1, .int .i64 r.f1.f0, .int .i64 r.f1.f1] 41 (0, 0)) := blk_below (blk_below HP0.out HB1.out) hB7
  have HBW := Aside0.mk ((HBW.out.trans (HB1.out.mono HBW.out.size)).trans (hB7.mono (Nat.le_trans HBW.out.size HB1.out.size)))
  have q0 : W0.drew.cell? ⟨w.heap.size, 0, none⟩ = some (.int .i64 r.f0.f0) := (blk_cell hPr 0).trans rfl
  have q1 : W0.drew.cell? ⟨w.heap.size, 1, none⟩ = some (.int .i64 r.f0.f1) := (blk_cell hPr 1).trans rfl
  have q2 : W0.drew.cell? ⟨w.heap.size, 2, none⟩ = some (.int .i64 r.f1.f0) := (blk_cell hPr 2).trans rfl
  have q3 : W0.drew.cell? ⟨w.heap.size, 3, none⟩ = some (.int .i64 r.f1.f1) := (blk_cell hPr 3).trans rfl
  clear hW0 hB7 hPr HB0 HP0 HB1
  refine start_ (n := 22) (S := fun w' => w'.cell? ⟨w.heap.size, 0, none⟩ = some (.int .i64 r.f0.f0) ∧ w'.cell? ⟨w.heap.size, 1, none⟩ = some (.int .i64 r.f0.f1) ∧ w'.cell? ⟨w.heap.size, 2, none⟩ = some (.int .i64 r.f1.f0) ∧ w'.cell? ⟨w.heap.size, 3, none⟩ = some (.int .i64 r.f1.f1)) (ds := []) #[false, false, false, false, false, false, false, false, false, false, false, false, false, false, false, false, false, false, false, false, false, false] (by kernel_rfl) rfl rfl ⟨q0, q1, q2, q3⟩ (fun hHeld => ?_)
  refine pure_ (i := 0) (N := some 21) (v := ?_) (a' := ?_) #[true, false, false, false, false, false, false, false, false, false, false, false, false, false, false, false, false, false, false, false, false, false] rfl rfl (by kernel_rfl) (fun _ _ _ h => h) (Or.inl ⟨by rfl, ?_⟩) ?_ ?_
  rotate_left
  · intro w'
    go_simp
    with_reducible rfl
  rotate_left
  · simp only [Act.put, List.setIfInBounds_toArray, List.set_cons_zero, List.set_cons_succ, i64_w, i32_w]
    rfl
  refine pure_ (i := 1) (N := some 22) (v := ?_) (a' := ?_) #[true, true, false, false, false, false, false, false, false, false, false, false, false, false, false, false, false, false, false, false, false, false] rfl rfl (by kernel_rfl) (fun _ _ _ h => h) (Or.inl ⟨by rfl, ?_⟩) ?_ ?_
  rotate_left
  · intro w'
    go_simp
    with_reducible rfl
  rotate_left
  · simp only [Act.put, List.setIfInBounds_toArray, List.set_cons_zero, List.set_cons_succ, i64_w, i32_w]
    rfl
  refine pure_ (i := 2) (N := some 23) (v := ?_) (a' := ?_) #[true, true, true, false, false, false, false, false, false, false, false, false, false, false, false, false, false, false, false, false, false, false] rfl rfl (by kernel_rfl) (fun _ _ _ h => h) (Or.inl ⟨by rfl, ?_⟩) ?_ ?_
  rotate_left
  · intro w'
    go_simp
    with_reducible rfl
  rotate_left
  · simp only [Act.put, List.setIfInBounds_toArray, List.set_cons_zero, List.set_cons_succ, i64_w, i32_w]
    rfl
  refine pure_ (i := 6) (N := some 27) (v := ?_) (a' := ?_) #[true, true, true, false, false, false, true, false, false, false, false, false, false, false, false, false, false, false, false, false, false, false] rfl rfl (by kernel_rfl) (fun _ _ _ h => h) (Or.inl ⟨by rfl, ?_⟩) ?_ ?_
  rotate_left
  · intro w'
    go_simp
    with_reducible rfl
  rotate_left
  · simp only [Act.put, List.setIfInBounds_toArray, List.set_cons_zero, List.set_cons_succ, i64_w, i32_w]
    rfl
  refine pure_ (i := 10) (N := some 31) (v := ?_) (a' := ?_) #[true, true, true, false, false, false, true, false, false, false, true, false, false, false, false, false, false, false, false, false, false, false] rfl rfl (by kernel_rfl) (fun _ _ _ h => h) (Or.inl ⟨by rfl, ?_⟩) ?_ ?_
  rotate_left
  · intro w'
    go_simp
    with_reducible rfl
  rotate_left
  · simp only [Act.put, List.setIfInBounds_toArray, List.set_cons_zero, List.set_cons_succ, i64_w, i32_w]
    rfl
  refine pure_ (i := 13) (N := some 34) (v := ?_) (a' := ?_) #[true, true, true, false, false, false, true, false, false, false, true, false, false, true, false, false, false, false, false, false, false, false] rfl rfl (by kernel_rfl) (fun _ _ _ h => h) (Or.inl ⟨by rfl, ?_⟩) ?_ ?_
  rotate_left
  · intro w'
    go_simp
    with_reducible rfl
  rotate_left
  · simp only [Act.put, List.setIfInBounds_toArray, List.set_cons_zero, List.set_cons_succ, i64_w, i32_w]
    rfl
  refine pure_ (i := 16) (N := some 37) (v := ?_) (a' := ?_) #[true, true, true, false, false, false, true, false, false, false, true, false, false, true, false, false, true, false, false, false, false, false] rfl rfl (by kernel_rfl) (fun _ _ _ h => h) (Or.inl ⟨by rfl, ?_⟩) ?_ ?_
  rotate_left
  · intro w'
    go_simp
    with_reducible rfl
  rotate_left
  · simp only [Act.put, List.setIfInBounds_toArray, List.set_cons_zero, List.set_cons_succ, i64_w, i32_w]
    rfl
  refine take_ (i := 3) (N := some 24) (v := ?_) (a' := ?_) #[true, true, true, true, false, false, true, false, false, false, true, false, false, true, false, false, true, false, false, false, false, false] rfl rfl (by kernel_rfl) (fun _ _ _ h => h) (Or.inl ⟨by rfl, ?_⟩) hHeld ?_ ?_
  rotate_left
  · rintro w' ⟨s0, s1, s2, s3⟩
    go_simp
    with_reducible rfl
  rotate_left
  · simp only [Act.put, List.setIfInBounds_toArray, List.set_cons_zero, List.set_cons_succ, i64_w, i32_w]
    rfl
  refine take_ (i := 7) (N := some 28) (v := ?_) (a' := ?_) #[true, true, true, true, false, false, true, true, false, false, true, false, false, true, false, false, true, false, false, false, false, false] rfl rfl (by kernel_rfl) (fun _ _ _ h => h) (Or.inl ⟨by rfl, ?_⟩) hHeld ?_ ?_
  rotate_left
  · rintro w' ⟨s0, s1, s2, s3⟩
    go_simp
    with_reducible rfl
  rotate_left
  · simp only [Act.put, List.setIfInBounds_toArray, List.set_cons_zero, List.set_cons_succ, i64_w, i32_w]
    rfl
  refine one_ (i := 4) (N := some 25) #[true, true, true, true, true, false, true, true, false, false, true, false, false, true, false, false, true, false, false, false, false, false] rfl rfl (by kernel_rfl) (by decide) (fun K hK => ?_)
  refine goes_ Try.func59 (by kernel_rfl) rfl #[.pointer none, .agg #[.int .i64 r.f0.f0, .int .i64 r.f0.f1, .int .i64 r.f1.f0, .int .i64 r.f1.f1]] (by rfl) rfl rfl (by simp only [List.map_toArray, List.map_cons, List.map_nil]; rfl) ?_
  with_reducible refine (none_search r _).mono ?_
  rintro e w4_ ⟨⟨A_, c_, rfl⟩, hB⟩
  refine ⟨_, rfl, ?_⟩
  have HBK := Aside0.mk hB
  clear hB
  have HBW := Aside0.mk (HBW.out.trans (HBK.out.mono HBW.out.size))
  refine hK.out _ _ ⟨(pw_cell_below HBK.out hHeld.1), (pw_cell_below HBK.out hHeld.2.1), (pw_cell_below HBK.out hHeld.2.2.1), (pw_cell_below HBK.out hHeld.2.2.2)⟩ (fun hHeld => ?_)
  clear hK K
  refine norm_ (a' := ?_) ?_ ?_
  rotate_left
  · show Act.put _ (some 25) _ = _
    simp only [Act.put, List.setIfInBounds_toArray, List.set_cons_zero, List.set_cons_succ, i64_w, i32_w]
    rfl
  refine pure_ (i := 5) (N := some 26) (v := ?_) (a' := ?_) #[true, true, true, true, true, true, true, true, false, false, true, false, false, true, false, false, true, false, false, false, false, false] rfl rfl (by kernel_rfl) (fun _ _ _ h => h) (Or.inl ⟨by rfl, ?_⟩) ?_ ?_
  rotate_left
  · intro w'
    go_simp
    with_reducible rfl
  rotate_left
  · simp only [Act.put, List.setIfInBounds_toArray, List.set_cons_zero, List.set_cons_succ, i64_w, i32_w]
    rfl
  refine one_ (i := 8) (N := some 29) #[true, true, true, true, true, true, true, true, true, false, true, false, false, true, false, false, true, false, false, false, false, false] rfl rfl (by kernel_rfl) (by decide) (fun K hK => ?_)
  refine goes_ Try.func93 (by kernel_rfl) rfl #[.pointer none, .agg #[.int .i64 r.f0.f0, .int .i64 r.f0.f1, .int .i64 r.f1.f0, .int .i64 r.f1.f1]] (by rfl) rfl rfl (by simp only [List.map_toArray, List.map_cons, List.map_nil]; rfl) ?_
  with_reducible refine (none_visits r _).mono ?_
  rintro e w8_ ⟨rfl, hB⟩
  refine ⟨_, rfl, ?_⟩
  have HBK := Aside0.mk hB
  clear hB
  have HBW := Aside0.mk (HBW.out.trans (HBK.out.mono HBW.out.size))
  refine hK.out _ _ ⟨(pw_cell_below HBK.out hHeld.1), (pw_cell_below HBK.out hHeld.2.1), (pw_cell_below HBK.out hHeld.2.2.1), (pw_cell_below HBK.out hHeld.2.2.2)⟩ (fun hHeld => ?_)
  clear hK K
  refine norm_ (a' := ?_) ?_ ?_
  rotate_left
  · show Act.put _ (some 29) _ = _
    simp only [Act.put, List.setIfInBounds_toArray, List.set_cons_zero, List.set_cons_succ, i64_w, i32_w]
    rfl
  refine pure_ (i := 9) (N := some 30) (v := ?_) (a' := ?_) #[true, true, true, true, true, true, true, true, true, true, true, false, false, true, false, false, true, false, false, false, false, false] rfl rfl (by kernel_rfl) (fun _ _ _ h => h) (Or.inl ⟨by rfl, ?_⟩) ?_ ?_
  rotate_left
  · intro w'
    go_simp
    with_reducible rfl
  rotate_left
  · simp only [Act.put, List.setIfInBounds_toArray, List.set_cons_zero, List.set_cons_succ, i64_w, i32_w]
    rfl
  refine one_ (i := 11) (N := some 32) #[true, true, true, true, true, true, true, true, true, true, true, true, false, true, false, false, true, false, false, false, false, false] rfl rfl (by kernel_rfl) (by decide) (fun K hK => ?_)
  refine goes_ Try.func89 (by kernel_rfl) rfl #[.pointer none] (by rfl) rfl rfl (by simp only [List.map_toArray, List.map_cons, List.map_nil]; rfl) ?_
  with_reducible refine (none_len _).mono ?_
  rintro e w11_ ⟨rfl, hB⟩
  refine ⟨_, rfl, ?_⟩
  have HBK := Aside0.mk hB
  clear hB
  have HBW := Aside0.mk (HBW.out.trans (HBK.out.mono HBW.out.size))
  refine hK.out _ _ ⟨(pw_cell_below HBK.out hHeld.1), (pw_cell_below HBK.out hHeld.2.1), (pw_cell_below HBK.out hHeld.2.2.1), (pw_cell_below HBK.out hHeld.2.2.2)⟩ (fun hHeld => ?_)
  clear hK K
  refine norm_ (a' := ?_) ?_ ?_
  rotate_left
  · show Act.put _ (some 32) _ = _
    simp only [Act.put, List.setIfInBounds_toArray, List.set_cons_zero, List.set_cons_succ, i64_w, i32_w]
    rfl
  refine pure_ (i := 12) (N := some 33) (v := ?_) (a' := ?_) #[true, true, true, true, true, true, true, true, true, true, true, true, true, true, false, false, true, false, false, false, false, false] rfl rfl (by kernel_rfl) (fun _ _ _ h => h) (Or.inl ⟨by rfl, ?_⟩) ?_ ?_
  rotate_left
  · intro w'
    go_simp
    with_reducible rfl
  rotate_left
  · simp only [Act.put, List.setIfInBounds_toArray, List.set_cons_zero, List.set_cons_succ, i64_w, i32_w]
    rfl
  refine one_ (i := 14) (N := some 35) #[true, true, true, true, true, true, true, true, true, true, true, true, true, true, true, false, true, false, false, false, false, false] rfl rfl (by kernel_rfl) (by decide) (fun K hK => ?_)
  refine goes_ Try.func90 (by kernel_rfl) rfl #[.pointer none] (by rfl) rfl rfl (by simp only [List.map_toArray, List.map_cons, List.map_nil]; rfl) ?_
  with_reducible refine (none_depth _).mono ?_
  rintro e w14_ ⟨rfl, hB⟩
  refine ⟨_, rfl, ?_⟩
  have HBK := Aside0.mk hB
  clear hB
  have HBW := Aside0.mk (HBW.out.trans (HBK.out.mono HBW.out.size))
  refine hK.out _ _ ⟨(pw_cell_below HBK.out hHeld.1), (pw_cell_below HBK.out hHeld.2.1), (pw_cell_below HBK.out hHeld.2.2.1), (pw_cell_below HBK.out hHeld.2.2.2)⟩ (fun hHeld => ?_)
  clear hK K
  refine norm_ (a' := ?_) ?_ ?_
  rotate_left
  · show Act.put _ (some 35) _ = _
    simp only [Act.put, List.setIfInBounds_toArray, List.set_cons_zero, List.set_cons_succ, i64_w, i32_w]
    rfl
  refine pure_ (i := 15) (N := some 36) (v := ?_) (a' := ?_) #[true, true, true, true, true, true, true, true, true, true, true, true, true, true, true, true, true, false, false, false, false, false] rfl rfl (by kernel_rfl) (fun _ _ _ h => h) (Or.inl ⟨by rfl, ?_⟩) ?_ ?_
  rotate_left
  · intro w'
    go_simp
    with_reducible rfl
  rotate_left
  · simp only [Act.put, List.setIfInBounds_toArray, List.set_cons_zero, List.set_cons_succ, i64_w, i32_w]
    rfl
  refine one_ (i := 17) (N := some 38) #[true, true, true, true, true, true, true, true, true, true, true, true, true, true, true, true, true, true, false, false, false, false] rfl rfl (by kernel_rfl) (by decide) (fun K hK => ?_)
  refine goes_ Try.func95 (by kernel_rfl) rfl #[.pointer none, .int .i64 0, .int .i64 0] (by rfl) rfl rfl (by simp only [List.map_toArray, List.map_cons, List.map_nil]; rfl) ?_
  with_reducible refine (none_stab _).mono ?_
  rintro e w17_ ⟨⟨A2_, c2_, rfl⟩, hB⟩
  refine ⟨_, rfl, ?_⟩
  have HBK := Aside0.mk hB
  clear hB
  have HBW := Aside0.mk (HBW.out.trans (HBK.out.mono HBW.out.size))
  refine hK.out _ _ ⟨(pw_cell_below HBK.out hHeld.1), (pw_cell_below HBK.out hHeld.2.1), (pw_cell_below HBK.out hHeld.2.2.1), (pw_cell_below HBK.out hHeld.2.2.2)⟩ (fun hHeld => ?_)
  clear hK K
  refine norm_ (a' := ?_) ?_ ?_
  rotate_left
  · show Act.put _ (some 38) _ = _
    simp only [Act.put, List.setIfInBounds_toArray, List.set_cons_zero, List.set_cons_succ, i64_w, i32_w]
    rfl
  refine pure_ (i := 18) (N := some 39) (v := ?_) (a' := ?_) #[true, true, true, true, true, true, true, true, true, true, true, true, true, true, true, true, true, true, true, false, false, false] rfl rfl (by kernel_rfl) (fun _ _ _ h => h) (Or.inl ⟨by rfl, ?_⟩) ?_ ?_
  rotate_left
  · intro w'
    go_simp
    with_reducible rfl
  rotate_left
  · simp only [Act.put, List.setIfInBounds_toArray, List.set_cons_zero, List.set_cons_succ, i64_w, i32_w]
    rfl
  refine pure_ (i := 19) (N := some 40) (v := ?_) (a' := ?_) #[true, true, true, true, true, true, true, true, true, true, true, true, true, true, true, true, true, true, true, true, false, false] rfl rfl (by kernel_rfl) (fun _ _ _ h => h) (Or.inl ⟨by rfl, ?_⟩) ?_ ?_
  rotate_left
  · intro w'
    go_simp
    with_reducible rfl
  rotate_left
  · simp only [Act.put, List.setIfInBounds_toArray, List.set_cons_zero, List.set_cons_succ, i64_w, i32_w]
    rfl
  refine pure_ (i := 20) (N := some 41) (v := ?_) (a' := ?_) #[true, true, true, true, true, true, true, true, true, true, true, true, true, true, true, true, true, true, true, true, true, false] rfl rfl (by kernel_rfl) (fun _ _ _ h => h) (Or.inl ⟨by rfl, ?_⟩) ?_ ?_
  rotate_left
  · intro w'
    go_simp
    with_reducible rfl
  rotate_left
  · simp only [Act.put, List.setIfInBounds_toArray, List.set_cons_zero, List.set_cons_succ, i64_w, i32_w]
    rfl
  refine pure_ (i := 21) (N := some 42) (v := ?_) (a' := ?_) #[true, true, true, true, true, true, true, true, true, true, true, true, true, true, true, true, true, true, true, true, true, true] rfl rfl (by kernel_rfl) (fun _ _ _ h => h) (Or.inl ⟨by rfl, ?_⟩) ?_ ?_
  rotate_left
  · intro w'
    go_simp
    with_reducible rfl
  rotate_left
  · simp only [Act.put, List.setIfInBounds_toArray, List.set_cons_zero, List.set_cons_succ, i64_w, i32_w]
    rfl
  refine done_ (by kernel_rfl) ?_
  rw [show decide (0 < wrap64 (wrap64 (wrap64 (wrap64 0)))) = false by kernel_rfl]
  by_cases hl : l.length ≤ 200
  · have hl' : ¬ (l.length : Int) > 200 := by omega
    obtain ⟨wd, hwd⟩ : ∃ wd, wd = 2 + a % 63 := ⟨_, rfl⟩
    have HWD := Aside0.mk hwd
    clear hwd
    by_cases he : errP l (2 + a % 63) = 0
    · have HF := Aside0.mk (rtOf_fine he)
      have HOK : Aside0 (Ok31 (rtOf l (2 + a % 63))) := ⟨.inr ⟨l, hl, HF.out⟩⟩
      have he' : (errP l (2 + a % 63) == 0) = true := by simpa using he
      go_wp2_with (first
        | (go_at_call 56; refine (rtree_Build.calls A0 c0 l (2 + a % 63) (Nat.lt_of_le_of_lt hl (by decide)) HWF.out _ (Kd.C_below HR.out HBW.out) hc0).mono ?_; rintro e w3 ⟨v, rfl, hT, hB⟩; obtain ⟨p, rfl⟩ := rtK_ptr hT; have HBW := Aside0.mk (HBW.out.trans (hB.mono HBW.out.size)); have HB3 := Aside0.mk hB; have HT := Aside0.mk hT; clear hB hT)
        | (go_at_call 87; refine (rtree_Bounds.calls _ _ _ HT.out).mono ?_; rintro e w4 ⟨rfl, hB⟩; have HBW := Aside0.mk (HBW.out.trans (hB.mono HBW.out.size)); have HB4 := Aside0.mk hB; have HT := Aside0.mk (rtK_below HT.out hB); clear hB)
        | fail)
      have HPR := Aside0.mk (HF.out.prunes r)
      obtain ⟨b, hb_⟩ : ∃ b, b = orZ (rtBounds (rtOf l (2 + a % 63))) := ⟨_, rfl⟩
      obtain ⟨W2, hW2⟩ : ∃ W2, W2 = w4.alloc (.cells #[.int .i64 (orZ (rtBounds (rtOf l (2 + a % 63)))).f0.f0, .int .i64 (orZ (rtBounds (rtOf l (2 + a % 63)))).f0.f1, .int .i64 (orZ (rtBounds (rtOf l (2 + a % 63)))).f1.f0, .int .i64 (orZ (rtBounds (rtOf l (2 + a % 63)))).f1.f1] 41) := ⟨_, rfl⟩
      rw [← hW2]
      rw [← hb_] at hW2 HPR
      have hB8 : Below w4.heap.size w4 W2.drew := by rw [hW2]; exact (below_alloc (Below.refl _ _) _).trans (below_drew (Below.refl _ _))
      obtain ⟨g12, hg12⟩ : ∃ g12, g12 = w4.heap.size := ⟨_, rfl⟩
      rw [← hg12]
      have hP12 : W2.drew.heap[g12]? = some (.cells #[.int .i64 b.f0.f0, .int .i64 b.f0.f1, .int .i64 b.f1.f0, .int .i64 b.f1.f1] 41 (0, 0)) := by rw [hW2, hg12]; exact blk_new w4 _
      have q0 := pw_cell_below hB8 (pw_cell_below HB4.out (pw_cell_below HB3.out hHeld.1))
      have q1 := pw_cell_below hB8 (pw_cell_below HB4.out (pw_cell_below HB3.out hHeld.2.1))
      have q2 := pw_cell_below hB8 (pw_cell_below HB4.out (pw_cell_below HB3.out hHeld.2.2.1))
      have q3 := pw_cell_below hB8 (pw_cell_below HB4.out (pw_cell_below HB3.out hHeld.2.2.2))
      have s0 : W2.drew.cell? ⟨g12, 0, none⟩ = some (.int .i64 b.f0.f0) := (blk_cell hP12 0).trans rfl
      have s1 : W2.drew.cell? ⟨g12, 1, none⟩ = some (.int .i64 b.f0.f1) := (blk_cell hP12 1).trans rfl
      have s2 : W2.drew.cell? ⟨g12, 2, none⟩ = some (.int .i64 b.f1.f0) := (blk_cell hP12 2).trans rfl
      have s3 : W2.drew.cell? ⟨g12, 3, none⟩ = some (.int .i64 b.f1.f1) := (blk_cell hP12 3).trans rfl
      have HT := Aside0.mk (rtK_below HT.out hB8)
      have HBW := Aside0.mk (HBW.out.trans (hB8.mono HBW.out.size))
      clear hW2 hB8 hP12 hg12 hb_
      refine start_ (n := 8) (S := fun w' => w'.cell? ⟨w.heap.size, 0, none⟩ = some (.int .i64 r.f0.f0) ∧ w'.cell? ⟨w.heap.size, 1, none⟩ = some (.int .i64 r.f0.f1) ∧ w'.cell? ⟨w.heap.size, 2, none⟩ = some (.int .i64 r.f1.f0) ∧ w'.cell? ⟨w.heap.size, 3, none⟩ = some (.int .i64 r.f1.f1) ∧ w'.cell? ⟨g12, 0, none⟩ = some (.int .i64 b.f0.f0) ∧ w'.cell? ⟨g12, 1, none⟩ = some (.int .i64 b.f0.f1) ∧ w'.cell? ⟨g12, 2, none⟩ = some (.int .i64 b.f1.f0) ∧ w'.cell? ⟨g12, 3, none⟩ = some (.int .i64 b.f1.f1)) (ds := []) #[false, false, false, false, false, false, false, false] (by kernel_rfl) rfl rfl ⟨q0, q1, q2, q3, s0, s1, s2, s3⟩ (fun hHeld => ?_)
      refine pure_ (i := 0) (N := some 64) (v := ?_) (a' := ?_) #[true, false, false, false, false, false, false, false] rfl rfl (by kernel_rfl) (fun _ _ _ h => h) (Or.inl ⟨by rfl, ?_⟩) ?_ ?_
      rotate_left
      · intro w'
        go_simp
        with_reducible rfl
      rotate_left
      · simp only [Act.put, List.setIfInBounds_toArray, List.set_cons_zero, List.set_cons_succ, i64_w, i32_w]
        rfl
      refine pure_ (i := 3) (N := some 67) (v := ?_) (a' := ?_) #[true, false, false, true, false, false, false, false] rfl rfl (by kernel_rfl) (fun _ _ _ h => h) (Or.inl ⟨by rfl, ?_⟩) ?_ ?_
      rotate_left
      · intro w'
        go_simp
        with_reducible rfl
      rotate_left
      · simp only [Act.put, List.setIfInBounds_toArray, List.set_cons_zero, List.set_cons_succ, i64_w, i32_w]
        rfl
      refine take_ (i := 1) (N := some 65) (v := ?_) (a' := ?_) #[true, true, false, true, false, false, false, false] rfl rfl (by kernel_rfl) (fun _ _ _ h => h) (Or.inl ⟨by rfl, ?_⟩) hHeld ?_ ?_
      rotate_left
      · rintro w' ⟨s0, s1, s2, s3, s4, s5, s6, s7⟩
        go_simp
        with_reducible rfl
      rotate_left
      · simp only [Act.put, List.setIfInBounds_toArray, List.set_cons_zero, List.set_cons_succ, i64_w, i32_w]
        rfl
      refine take_ (i := 4) (N := some 68) (v := ?_) (a' := ?_) #[true, true, false, true, true, false, false, false] rfl rfl (by kernel_rfl) (fun _ _ _ h => h) (Or.inl ⟨by rfl, ?_⟩) hHeld ?_ ?_
      rotate_left
      · rintro w' ⟨s0, s1, s2, s3, s4, s5, s6, s7⟩
        go_simp
        with_reducible rfl
      rotate_left
      · simp only [Act.put, List.setIfInBounds_toArray, List.set_cons_zero, List.set_cons_succ, i64_w, i32_w]
        rfl
      refine one_ (i := 2) (N := some 66) #[true, true, true, true, true, false, false, false] rfl rfl (by kernel_rfl) (by decide) (fun K hK => ?_)
      refine goes_ Try.func59 (by kernel_rfl) rfl #[.pointer p, .agg #[.int .i64 r.f0.f0, .int .i64 r.f0.f1, .int .i64 r.f1.f0, .int .i64 r.f1.f1]] (by rfl) rfl rfl (by simp only [List.map_toArray, List.map_cons, List.map_nil]; rfl) ?_
      with_reducible refine (search_calls _ _ HOK.out r _ HT.out).mono ?_
      rintro e w2_ ⟨⟨A_, c_, rfl, hc_, hC_⟩, hB⟩
      refine ⟨_, rfl, ?_⟩
      have HBK := Aside0.mk hB
      clear hB
      have HBW := Aside0.mk (HBW.out.trans (HBK.out.mono HBW.out.size))
      have HT := Aside0.mk (rtK_below HT.out HBK.out)
      clear hc_ hC_
      refine hK.out _ _ ⟨(pw_cell_below HBK.out hHeld.1), (pw_cell_below HBK.out hHeld.2.1), (pw_cell_below HBK.out hHeld.2.2.1), (pw_cell_below HBK.out hHeld.2.2.2.1), (pw_cell_below HBK.out hHeld.2.2.2.2.1), (pw_cell_below HBK.out hHeld.2.2.2.2.2.1), (pw_cell_below HBK.out hHeld.2.2.2.2.2.2.1), (pw_cell_below HBK.out hHeld.2.2.2.2.2.2.2)⟩ (fun hHeld => ?_)
      clear hK K
      refine norm_ (a' := ?_) ?_ ?_
      rotate_left
      · show Act.put _ (some 66) _ = _
        simp only [Act.put, List.setIfInBounds_toArray, List.set_cons_zero, List.set_cons_succ, i64_w, i32_w]
        rfl
      refine one_ (i := 5) (N := some 69) #[true, true, true, true, true, true, false, false] rfl rfl (by kernel_rfl) (by decide) (fun K hK => ?_)
      refine goes_ Try.func93 (by kernel_rfl) rfl #[.pointer p, .agg #[.int .i64 r.f0.f0, .int .i64 r.f0.f1, .int .i64 r.f1.f0, .int .i64 r.f1.f1]] (by rfl) rfl rfl (by simp only [List.map_toArray, List.map_cons, List.map_nil]; rfl) ?_
      with_reducible refine (visits_calls _ _ HOK.out r _ HT.out).mono ?_
      rintro e w5_ ⟨rfl, hB⟩
      refine ⟨_, rfl, ?_⟩
      have HBK := Aside0.mk hB
      clear hB
      have HBW := Aside0.mk (HBW.out.trans (HBK.out.mono HBW.out.size))
      have HT := Aside0.mk (rtK_below HT.out HBK.out)
      refine hK.out _ _ ⟨(pw_cell_below HBK.out hHeld.1), (pw_cell_below HBK.out hHeld.2.1), (pw_cell_below HBK.out hHeld.2.2.1), (pw_cell_below HBK.out hHeld.2.2.2.1), (pw_cell_below HBK.out hHeld.2.2.2.2.1), (pw_cell_below HBK.out hHeld.2.2.2.2.2.1), (pw_cell_below HBK.out hHeld.2.2.2.2.2.2.1), (pw_cell_below HBK.out hHeld.2.2.2.2.2.2.2)⟩ (fun hHeld => ?_)
      clear hK K
      refine norm_ (a' := ?_) ?_ ?_
      rotate_left
      · show Act.put _ (some 69) _ = _
        simp only [Act.put, List.setIfInBounds_toArray, List.set_cons_zero, List.set_cons_succ, i64_w, i32_w]
        rfl
      refine pure_ (i := 6) (N := some 14) (v := ?_) (a' := ?_) #[true, true, true, true, true, true, true, false] rfl rfl (by kernel_rfl) (fun _ _ _ h => h) (Or.inl ⟨by rfl, ?_⟩) ?_ ?_
      rotate_left
      · intro w'
        go_simp
        with_reducible rfl
      rotate_left
      · simp only [Act.put, List.setIfInBounds_toArray, List.set_cons_zero, List.set_cons_succ, i64_w, i32_w]
        rfl
      refine pure_ (i := 7) (N := some 15) (v := ?_) (a' := ?_) #[true, true, true, true, true, true, true, true] rfl rfl (by kernel_rfl) (fun _ _ _ h => h) (Or.inl ⟨by rfl, ?_⟩) ?_ ?_
      rotate_left
      · intro w'
        go_simp
        with_reducible rfl
      rotate_left
      · simp only [Act.put, List.setIfInBounds_toArray, List.set_cons_zero, List.set_cons_succ, i64_w, i32_w]
        rfl
      refine done_ (by kernel_rfl) ?_
      obtain ⟨q0, q1, q2, q3, s0, s1, s2, s3⟩ := hHeld
      have hv0 : (((rtVisits (rtOf l (2 + a % 63)) r : Nat)) : Int) ≥ 0 := by omega
      obtain ⟨hp1, hp2⟩ := HPR.out
      by_cases hF : (rtSearch (rtOf l (2 + a % 63)) r).length = 0
      · have hF0 : (((rtSearch (rtOf l (2 + a % 63)) r).length : Nat) : Int) = 0 := by rw [hF]; rfl
        have hF1 : ¬ (((rtSearch (rtOf l (2 + a % 63)) r).length : Nat) : Int) > 0 := by omega
        have hF2 : ((((rtSearch (rtOf l (2 + a % 63)) r).length : Nat) : Int) == 0) = true := by rw [hF0]; rfl
        clear hp1
        cases hbS : (rtBounds (rtOf l (2 + a % 63))).isSome with
        | false =>
          clear hp2
          have HOD : Aside0 (decide (Ovr b r) = decide (Ovr b r)) := ⟨rfl⟩
          go_wp2_with (first
            | (go_at_call 100; refine (ovl_calls b r _ HOD.out _).mono ?_; rintro e w7 ⟨rfl, hB⟩; have HBW := Aside0.mk (HBW.out.trans (hB.mono HBW.out.size)); have HT := Aside0.mk (rtK_below HT.out hB); clear hB)
            | (go_at_call 90; refine (rtree_Depth.calls _ _ _ HT.out).mono ?_; rintro e w8 ⟨rfl, hB⟩; have HBW := Aside0.mk (HBW.out.trans (hB.mono HBW.out.size)); have HT := Aside0.mk (rtK_below HT.out hB); clear hB)
            | (go_at_call 85; refine (works31.calls _).mono ?_; rintro e w9 ⟨rfl, hB⟩; have HBW := Aside0.mk (HBW.out.trans (hB.mono HBW.out.size)); clear hB)
            | fail)
          go_ret
          exact ⟨rfl, HBW.out⟩
        | true =>
          by_cases ho : Ovr b r
          · have HOD : Aside0 (decide (Ovr b r) = true) := ⟨decide_eq_true ho⟩
            clear hp2
            go_wp2_with (first
              | (go_at_call 100; refine (ovl_calls b r _ HOD.out _).mono ?_; rintro e w7 ⟨rfl, hB⟩; have HBW := Aside0.mk (HBW.out.trans (hB.mono HBW.out.size)); have HT := Aside0.mk (rtK_below HT.out hB); clear hB)
              | (go_at_call 90; refine (rtree_Depth.calls _ _ _ HT.out).mono ?_; rintro e w8 ⟨rfl, hB⟩; have HBW := Aside0.mk (HBW.out.trans (hB.mono HBW.out.size)); have HT := Aside0.mk (rtK_below HT.out hB); clear hB)
              | (go_at_call 85; refine (works31.calls _).mono ?_; rintro e w9 ⟨rfl, hB⟩; have HBW := Aside0.mk (HBW.out.trans (hB.mono HBW.out.size)); clear hB)
              | fail)
            go_ret
            exact ⟨rfl, HBW.out⟩
          · have HOD : Aside0 (decide (Ovr b r) = false) := ⟨decide_eq_false ho⟩
            have hv1 : ¬ (((rtVisits (rtOf l (2 + a % 63)) r : Nat)) : Int) > 1 := by have := (hp2 hbS ho).2; omega
            clear hp2
            go_wp2_with (first
              | (go_at_call 100; refine (ovl_calls b r _ HOD.out _).mono ?_; rintro e w7 ⟨rfl, hB⟩; have HBW := Aside0.mk (HBW.out.trans (hB.mono HBW.out.size)); have HT := Aside0.mk (rtK_below HT.out hB); clear hB)
              | (go_at_call 90; refine (rtree_Depth.calls _ _ _ HT.out).mono ?_; rintro e w8 ⟨rfl, hB⟩; have HBW := Aside0.mk (HBW.out.trans (hB.mono HBW.out.size)); have HT := Aside0.mk (rtK_below HT.out hB); clear hB)
              | (go_at_call 85; refine (works31.calls _).mono ?_; rintro e w9 ⟨rfl, hB⟩; have HBW := Aside0.mk (HBW.out.trans (hB.mono HBW.out.size)); clear hB)
              | fail)
            go_ret
            exact ⟨rfl, HBW.out⟩
      · have hF1 : (((rtSearch (rtOf l (2 + a % 63)) r).length : Nat) : Int) > 0 := by omega
        have hF2 : ((((rtSearch (rtOf l (2 + a % 63)) r).length : Nat) : Int) == 0) = false := by simp; intro h; exact hF (by rw [h]; rfl)
        have hge : (((rtVisits (rtOf l (2 + a % 63)) r : Nat)) : Int) ≥ (((rtDepth (rtOf l (2 + a % 63)) : Nat)) : Int) := by have := hp1.resolve_left hF; omega
        clear hp1
        cases hbS : (rtBounds (rtOf l (2 + a % 63))).isSome with
        | false =>
          clear hp2
          have HOD : Aside0 (decide (Ovr b r) = decide (Ovr b r)) := ⟨rfl⟩
          go_wp2_with (first
            | (go_at_call 100; refine (ovl_calls b r _ HOD.out _).mono ?_; rintro e w7 ⟨rfl, hB⟩; have HBW := Aside0.mk (HBW.out.trans (hB.mono HBW.out.size)); have HT := Aside0.mk (rtK_below HT.out hB); clear hB)
            | (go_at_call 90; refine (rtree_Depth.calls _ _ _ HT.out).mono ?_; rintro e w8 ⟨rfl, hB⟩; have HBW := Aside0.mk (HBW.out.trans (hB.mono HBW.out.size)); have HT := Aside0.mk (rtK_below HT.out hB); clear hB)
            | (go_at_call 85; refine (works31.calls _).mono ?_; rintro e w9 ⟨rfl, hB⟩; have HBW := Aside0.mk (HBW.out.trans (hB.mono HBW.out.size)); clear hB)
            | fail)
          go_ret
          exact ⟨rfl, HBW.out⟩
        | true =>
          have ho : Ovr b r := by
            by_cases ho : Ovr b r
            · exact ho
            · exact absurd (hp2 hbS ho).1 hF
          have HOD : Aside0 (decide (Ovr b r) = true) := ⟨decide_eq_true ho⟩
          clear hp2
          go_wp2_with (first
            | (go_at_call 100; refine (ovl_calls b r _ HOD.out _).mono ?_; rintro e w7 ⟨rfl, hB⟩; have HBW := Aside0.mk (HBW.out.trans (hB.mono HBW.out.size)); have HT := Aside0.mk (rtK_below HT.out hB); clear hB)
            | (go_at_call 90; refine (rtree_Depth.calls _ _ _ HT.out).mono ?_; rintro e w8 ⟨rfl, hB⟩; have HBW := Aside0.mk (HBW.out.trans (hB.mono HBW.out.size)); have HT := Aside0.mk (rtK_below HT.out hB); clear hB)
            | (go_at_call 85; refine (works31.calls _).mono ?_; rintro e w9 ⟨rfl, hB⟩; have HBW := Aside0.mk (HBW.out.trans (hB.mono HBW.out.size)); clear hB)
            | fail)
          go_ret
          exact ⟨rfl, HBW.out⟩
    · have HNE : Aside0 (errP l (2 + a % 63) ≠ 0) := ⟨he⟩
      have he' : (errP l (2 + a % 63) == 0) = false := by simpa using he
      go_wp2_with (first
        | (go_at_call 56; refine (rtree_Build.calls A0 c0 l (2 + a % 63) (Nat.lt_of_le_of_lt hl (by decide)) HWF.out _ (Kd.C_below HR.out HBW.out) hc0).mono ?_; rintro e w3 ⟨v, rfl, hT, hB⟩; obtain ⟨p, rfl⟩ := rtK_ptr hT; have HBW := Aside0.mk (HBW.out.trans (hB.mono HBW.out.size)); clear hB hT)
        | (go_at_call 85; refine (works31.calls _).mono ?_; rintro e w4 ⟨rfl, hB⟩; have HBW := Aside0.mk (HBW.out.trans (hB.mono HBW.out.size)); clear hB)
        | fail)
      go_ret
      exact ⟨rfl, HBW.out⟩
  · have hl' : (l.length : Int) > 200 := by omega
    go_wp2_with (go_at_call 85; refine (works31.calls _).mono ?_; rintro e w3 ⟨rfl, hB⟩; have HB := Aside0.mk hB; clear hB)
    go_ret
    exact ⟨rfl, HBW.out.trans (HB.out.mono HBW.out.size)⟩
end Go.Proofs.Ytdcelpppgbmlaaa.P
