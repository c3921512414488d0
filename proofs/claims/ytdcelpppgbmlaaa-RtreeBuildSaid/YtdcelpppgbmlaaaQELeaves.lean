/- bitemporalref31.leaves: the leaves of ordered boxes. -/
import Derived.Test.YtdcelpppgbmlaaaQEAbove
namespace Go.Proofs.Ytdcelpppgbmlaaa.P
set_option linter.unusedSimpArgs false
set_option linter.unusedVariables false
open Go.RowKit Go.Proofs.YtdcelpppgbmlaaaW.PrintWords Go.Proofs.YtdcelpppgbmlaaaW.PrintLast Go.Proofs.YtdcelpppgbmlaaaW.PrintMore
theorem rd51 (l : List S51) (i : Nat) (h : i < l.length) : rd_T51 l (i : Int) = l[i] := by simp [rd_T51, List.getD_eq_getElem?_getD, List.getElem?_eq_getElem h]
set_option maxHeartbeats 8000000 in
set_option maxRecDepth 100000 in
theorem R31_leaves.calls (P0 : Nat → Prop) (A0 : Option Addr) (c0 : Nat) (l : List S51) (wd : Nat) (hw1 : 1 ≤ wd) (hw2 : wd < 1000000) (hl : l.length < 1000000) (w : World) (hr0 : Kd.F k51 w P0 A0 l.length l) (hc0 : l.length ≤ c0) :
    Calls Try.prog 137 #[.slice A0 l.length c0, .int .i64 (wd : Int)] w fun e w' => ∃ v0_ : Value, e = .returned (v0_) ∧ Kd.N k74 74 w' w.heap.size (fun k => P0 k ∨ w.heap.size ≤ k) v0_ (leavesP wd l) ∧ Below w.heap.size w w' := by
  have hu74 := Try.underlying74
  replace hr0 := Aside0.mk hr0
  go_enter Try.func137, Try.ntmps137
  go_wp2_with (fail)
  go_loopw [5, 6] (fun v i wr => ∃ (n : Nat) (done : List S74), i = .int .i64 n ∧ n < l.length + wd ∧ Aside0 (done ++ leavesP wd (l.drop n) = leavesP wd l) ∧ Aside0 (done.length ≤ n) ∧ Aside0 (Kd.N k74 74 wr w.heap.size (fun k => P0 k ∨ w.heap.size ≤ k) v done) ∧ Aside0 (Below w.heap.size w wr)) (fun _ i _ => l.length - (intOf i).toNat)
  case atStart => exact ⟨0, [], rfl, by omega, ⟨by simp⟩, ⟨by simp⟩, ⟨Kd.N_nil _ _ _ _ _⟩, ⟨Below.refl _ _⟩⟩
  case round =>
    obtain ⟨n, done, rfl, hn, hD, hDL, hN, hB⟩ := hrel
    by_cases hlt : n < l.length
    · have hlt' : (n : Int) < (l.length : Int) := by omega
      have hC := Kd.F_now (Kd.F_below hr0.out hB.out)
      obtain ⟨ad, rfl, x0, x1, x2, x3, x4⟩ := at_T51 hC (n : Int) (by omega) hlt'
      rw [rd51 l n hlt] at x0 x1 x2 x3 x4
      clear x4
      obtain ⟨m, hm⟩ : ∃ m : Nat, min (n + wd) l.length = m := ⟨_, rfl⟩
      have hm1 : n < m := by omega
      have hm2 : m ≤ l.length := by omega
      have hnm : n ≤ m := by omega
      have hma : n + wd < l.length → m = n + wd := by omega
      have hmb : l.length ≤ n + wd → m = l.length := by omega
      have hmi : (if (l.length : Int) < (n : Int) + (wd : Int) then (l.length : Int) else (n : Int) + (wd : Int)) = (m : Int) := by rw [← hm]; exact min_int2 _ _ _
      have hcl : ¬ c0 = n := by omega
      have hnc : n ≤ c0 := by omega
      have hmc : m ≤ c0 := by omega
      generalize hr : (l[n]).f0 = rc at x0 x1 x2 x3
      simp only [Int.toNat_natCast] at x0 x1 x2 x3
      have hw : wrap64 ((n : Int) + (wd : Int)) = ((n + wd : Nat) : Int) := by unfold wrap64; omega
      have x0d : wr.drew.cell? _ = _ := x0
      have x1d : wr.drew.cell? _ = _ := x1
      have x2d : wr.drew.cell? _ = _ := x2
      have x3d : wr.drew.cell? _ = _ := x3
      go_wp2_with (fail)
      refine start_ (n := 17) (S := fun w' => w'.cell? (ad.add (n * 5)) = some (.int .i64 rc.f0.f0) ∧ w'.cell? ⟨(ad.add (n * 5)).block, (ad.add (n * 5)).off + 1, none⟩ = some (.int .i64 rc.f0.f1) ∧ w'.cell? ⟨(ad.add (n * 5)).block, (ad.add (n * 5)).off + 2, none⟩ = some (.int .i64 rc.f1.f0) ∧ w'.cell? ⟨(ad.add (n * 5)).block, (ad.add (n * 5)).off + 3, none⟩ = some (.int .i64 rc.f1.f1)) (ds := [16]) #[false, false, false, false, false, false, false, false, false, false, false, false, false, false, false, false, false] (by kernel_rfl) rfl rfl ⟨x0d, x1d, x2d, x3d⟩ (fun hHeld => ?_)
      refine pure_ (i := 0) (N := some 17) (v := ?_) (a' := ?_) #[true, false, false, false, false, false, false, false, false, false, false, false, false, false, false, false, false] rfl rfl (by kernel_rfl) (fun _ _ _ h => h) (Or.inl ⟨by rfl, ?_⟩) ?_ ?_
      rotate_left
      · intro w'
        go_simp
        with_reducible rfl
      rotate_left
      · simp only [Act.put, List.setIfInBounds_toArray, List.set_cons_zero, List.set_cons_succ, i64_w, i32_w]
        rfl
      refine pure_ (i := 1) (N := some 18) (v := ?_) (a' := ?_) #[true, true, false, false, false, false, false, false, false, false, false, false, false, false, false, false, false] rfl rfl (by kernel_rfl) (fun _ _ _ h => h) (Or.inl ⟨by rfl, ?_⟩) ?_ ?_
      rotate_left
      · intro w'
        go_simp
        with_reducible rfl
      rotate_left
      · simp only [Act.put, List.setIfInBounds_toArray, List.set_cons_zero, List.set_cons_succ, i64_w, i32_w]
        rfl
      refine pure_ (i := 2) (N := some 19) (v := ?_) (a' := ?_) #[true, true, true, false, false, false, false, false, false, false, false, false, false, false, false, false, false] rfl rfl (by kernel_rfl) (fun _ _ _ h => h) (Or.inl ⟨by rfl, ?_⟩) ?_ ?_
      rotate_left
      · intro w'
        go_simp
        with_reducible rfl
      rotate_left
      · simp only [Act.put, List.setIfInBounds_toArray, List.set_cons_zero, List.set_cons_succ, i64_w, i32_w]
        rfl
      refine pure_ (i := 3) (N := some 20) (v := ?_) (a' := ?_) #[true, true, true, true, false, false, false, false, false, false, false, false, false, false, false, false, false] rfl rfl (by kernel_rfl) (fun _ _ _ h => h) (Or.inl ⟨by rfl, ?_⟩) ?_ ?_
      rotate_left
      · intro w'
        go_simp
        with_reducible rfl
      rotate_left
      · simp only [Act.put, List.setIfInBounds_toArray, List.set_cons_zero, List.set_cons_succ, i64_w, i32_w]
        rfl
      refine pure_ (i := 5) (N := some 22) (v := ?_) (a' := ?_) #[true, true, true, true, false, true, false, false, false, false, false, false, false, false, false, false, false] rfl rfl (by kernel_rfl) (fun _ _ _ h => h) (Or.inl ⟨by rfl, ?_⟩) ?_ ?_
      rotate_left
      · intro w'
        go_simp
        with_reducible rfl
      rotate_left
      · simp only [Act.put, List.setIfInBounds_toArray, List.set_cons_zero, List.set_cons_succ, i64_w, i32_w]
        rfl
      refine pure_ (i := 6) (N := some 23) (v := ?_) (a' := ?_) #[true, true, true, true, false, true, true, false, false, false, false, false, false, false, false, false, false] rfl rfl (by kernel_rfl) (fun _ _ _ h => h) (Or.inl ⟨by rfl, ?_⟩) ?_ ?_
      rotate_left
      · intro w'
        go_simp
        with_reducible rfl
      rotate_left
      · simp only [Act.put, List.setIfInBounds_toArray, List.set_cons_zero, List.set_cons_succ, i64_w, i32_w]
        rfl
      refine pure_ (i := 7) (N := some 24) (v := ?_) (a' := ?_) #[true, true, true, true, false, true, true, true, false, false, false, false, false, false, false, false, false] rfl rfl (by kernel_rfl) (fun _ _ _ h => h) (Or.inl ⟨by rfl, ?_⟩) ?_ ?_
      rotate_left
      · intro w'
        go_simp
        with_reducible rfl
      rotate_left
      · simp only [Act.put, List.setIfInBounds_toArray, List.set_cons_zero, List.set_cons_succ, i64_w, i32_w]
        rfl
      refine pure_ (i := 8) (N := some 25) (v := ?_) (a' := ?_) #[true, true, true, true, false, true, true, true, true, false, false, false, false, false, false, false, false] rfl rfl (by kernel_rfl) (fun _ _ _ h => h) (Or.inl ⟨by rfl, ?_⟩) ?_ ?_
      rotate_left
      · intro w'
        go_simp
        with_reducible rfl
      rotate_left
      · simp only [Act.put, List.setIfInBounds_toArray, List.set_cons_zero, List.set_cons_succ, i64_w, i32_w]
        rfl
      refine pure_ (i := 9) (N := some 26) (v := ?_) (a' := ?_) #[true, true, true, true, false, true, true, true, true, true, false, false, false, false, false, false, false] rfl rfl (by kernel_rfl) (fun _ _ _ h => h) (Or.inl ⟨by rfl, ?_⟩) ?_ ?_
      rotate_left
      · intro w'
        go_simp
        with_reducible rfl
      rotate_left
      · simp only [Act.put, List.setIfInBounds_toArray, List.set_cons_zero, List.set_cons_succ, i64_w, i32_w]
        rfl
      refine pure_ (i := 10) (N := some 27) (v := ?_) (a' := ?_) #[true, true, true, true, false, true, true, true, true, true, true, false, false, false, false, false, false] rfl rfl (by kernel_rfl) (fun _ _ _ h => h) (Or.inl ⟨by rfl, ?_⟩) ?_ ?_
      rotate_left
      · intro w'
        go_simp
        with_reducible rfl
      rotate_left
      · simp only [Act.put, List.setIfInBounds_toArray, List.set_cons_zero, List.set_cons_succ, i64_w, i32_w]
        rfl
      refine pure_ (i := 11) (N := some 28) (v := ?_) (a' := ?_) #[true, true, true, true, false, true, true, true, true, true, true, true, false, false, false, false, false] rfl rfl (by kernel_rfl) (fun _ _ _ h => h) (Or.inl ⟨by rfl, ?_⟩) ?_ ?_
      rotate_left
      · intro w'
        go_simp
        with_reducible rfl
      rotate_left
      · simp only [Act.put, List.setIfInBounds_toArray, List.set_cons_zero, List.set_cons_succ, i64_w, i32_w]
        rfl
      refine pure_ (i := 12) (N := some 29) (v := ?_) (a' := ?_) #[true, true, true, true, false, true, true, true, true, true, true, true, true, false, false, false, false] rfl rfl (by kernel_rfl) (fun _ _ _ h => h) (Or.inl ⟨by rfl, ?_⟩) ?_ ?_
      rotate_left
      · intro w'
        go_simp
        with_reducible rfl
      rotate_left
      · simp only [Act.put, List.setIfInBounds_toArray, List.set_cons_zero, List.set_cons_succ, i64_w, i32_w]
        rfl
      refine pure_ (i := 13) (N := some 30) (v := ?_) (a' := ?_) #[true, true, true, true, false, true, true, true, true, true, true, true, true, true, false, false, false] rfl rfl (by kernel_rfl) (fun _ _ _ h => h) (Or.inl ⟨by rfl, ?_⟩) ?_ ?_
      rotate_left
      · intro w'
        go_simp
        with_reducible rfl
      rotate_left
      · simp only [Act.put, List.setIfInBounds_toArray, List.set_cons_zero, List.set_cons_succ, i64_w, i32_w]
        rfl
      refine take_ (i := 4) (N := some 21) (v := ?_) (a' := ?_) #[true, true, true, true, true, true, true, true, true, true, true, true, true, true, false, false, false] rfl rfl (by kernel_rfl) (fun _ _ _ h => h) (Or.inl ⟨by rfl, ?_⟩) hHeld ?_ ?_
      rotate_left
      · rintro w' ⟨s0, s1, s2, s3⟩
        go_simp
        with_reducible rfl
      rotate_left
      · simp only [Act.put, List.setIfInBounds_toArray, List.set_cons_zero, List.set_cons_succ, i64_w, i32_w]
        rfl
      refine pure_ (i := 14) (N := some 31) (v := ?_) (a' := ?_) #[true, true, true, true, true, true, true, true, true, true, true, true, true, true, true, false, false] rfl rfl (by kernel_rfl) (fun _ _ _ h => h) (Or.inl ⟨by rfl, ?_⟩) ?_ ?_
      rotate_left
      · intro w'
        go_simp
        with_reducible rfl
      rotate_left
      · simp only [Act.put, List.setIfInBounds_toArray, List.set_cons_zero, List.set_cons_succ, i64_w, i32_w]
        rfl
      refine one_ (i := 15) (N := some 7) #[true, true, true, true, true, true, true, true, true, true, true, true, true, true, true, true, false] rfl rfl (by kernel_rfl) (by decide) (fun K hK => ?_)
      refine value_ (w1 := ?_) (v := ?_) (by rfl) rfl ?_ ?_
      rotate_left 2
      · go_simp
        constructor
        · rfl
        · rfl
      refine hK.out _ _ ⟨(pw_cell_below (below_alloc (Below.refl _ _) _) x0d), (pw_cell_below (below_alloc (Below.refl _ _) _) x1d), (pw_cell_below (below_alloc (Below.refl _ _) _) x2d), (pw_cell_below (below_alloc (Below.refl _ _) _) x3d)⟩ (fun hHeld => ?_)
      clear hK K
      refine norm_ (a' := ?_) ?_ ?_
      rotate_left
      · show Act.put _ (some 7) _ = _
        simp only [Act.put, List.setIfInBounds_toArray, List.set_cons_zero, List.set_cons_succ, i64_w, i32_w]
        rfl
      refine last_ (i := 16) (N := none) #[true, true, true, true, true, true, true, true, true, true, true, true, true, true, true, true, true] rfl rfl (by kernel_rfl) (by decide) (fun K hK => ?_)
      refine skip_ (w1 := ?_) (by rfl) rfl ?_ ?_
      rotate_left
      · go_simp
        rfl
      refine hK.out _ _ ?_
      clear hK K
      refine done_ (by kernel_rfl) ?_
      clear hw hmi hm hu74
      obtain ⟨W1, hW1⟩ : ∃ W1, W1 = (wr.alloc (.cells #[.int .i64 rc.f0.f0, .int .i64 rc.f0.f1, .int .i64 rc.f1.f0, .int .i64 rc.f1.f1, .slice (some (ad.add (n * 5))) (m - n) (c0 - n), .slice none 0 0] 74)).drew := ⟨_, rfl⟩
      rw [← hW1]
      have hb1 : Below wr.heap.size wr W1 := by rw [hW1]; exact below_drew (below_alloc (Below.refl _ _) _)
      have hP1 : W1.heap[wr.heap.size]? = some (.cells (cells74 rc (.slice (some (ad.add (n * 5))) (m - n) (c0 - n)) (.slice none 0 0)) 74 (0, 0)) := by rw [hW1]; exact blk_new wr _
      have hFy := Kd.F_mid (lo := n) (hi := m) (c := c0) (Kd.F_below (Kd.F_bound hr0.out) hB.out) (by omega) hm2 hc0
      have hwg := hB.out.size
      rw [if_neg hcl] at hFy
      have hylen : ((l.take m).drop n).length = m - n := by rw [List.length_drop, List.length_take]; omega
      have hpc : leavesP wd (l.drop n) = leafP ((l.take m).drop n) :: leavesP wd (l.drop (n + wd)) := by
        unfold leavesP
        rw [pieces_step (by omega) (by intro e; have := congrArg List.length e; rw [List.length_drop, List.length_nil] at this; omega), List.map_cons, List.drop_drop]
        congr 2
        rw [List.drop_take]
        rcases Nat.lt_or_ge (n + wd) l.length with c | c
        · have := hma c
          rw [show m - n = wd by omega]
        · have := hmb c
          rw [List.take_of_length_le (by rw [List.length_drop]; omega), List.take_of_length_le (by rw [List.length_drop]; omega)]
      have hrcy : leafP ((l.take m).drop n) = ⟨foldR rc (((l.take m).drop n).map (·.f0)), (l.take m).drop n, []⟩ := by
        unfold leafP around
        rw [← hr]
        congr 2
        rw [List.drop_eq_getElem_cons (by rw [List.length_take]; omega), List.map_cons, List.headD_cons, List.getElem_take]
      have hsl : (ad.add (n * 5)) = (ad.add (n * 5)) := rfl
      have HY := Aside0.mk (And.intro hpc hrcy)
      have HF := Aside0.mk hFy
      have HN1 := Aside0.mk (Kd.N_below (Kd.N_bound hN.out) hb1)
      have HP1 := Aside0.mk hP1
      have HB1 := Aside0.mk (hB.out.trans (hb1.mono hB.out.size))
      have Hb1 := Aside0.mk hb1
      have HYL := Aside0.mk hylen
      clear hW1 hr hpc hrcy hFy hP1 hylen hsl x0d x1d x2d x3d hC x0 x1 x2 x3 hN hB hr0
      generalize (l.take m).drop n = y at HY HF HYL
      have HF' : Aside0 (Kd.F k51 wr (fun k => P0 k ∧ k < w.heap.size) (some (ad.add (n * 5))) y.length y) := ⟨HF.out⟩
      clear HF
      generalize hA7 : ad.add (n * 5) = ad7 at HF' HP1 ⊢
      have hyl : y.length = m - n := HYL.out
      rw [← hyl] at HP1 ⊢
      obtain ⟨c7, hc7⟩ : ∃ c7, c0 - n = c7 := ⟨_, rfl⟩
      have hyc : y.length ≤ c7 := by omega
      rw [hc7] at HP1 ⊢
      clear hyl
      generalize hg7 : wr.heap.size = g7 at HP1 HN1 Hb1 HF' hwg ⊢
      have cP5 : W1.cell? ⟨g7, 4, none⟩ = some (.slice (some ad7) y.length c7) := (blk_cell HP1.out 4).trans rfl
      go_wp2_with (fail)
      go_loopw [35] (fun i wr => ∃ (j : Nat) (rect : S41), j ≤ y.length ∧ i = .int .i64 j ∧ Aside0 (rect = foldR rc ((y.take j).map (·.f0))) ∧ Aside0 (wr.heap[g7]? = some (.cells (cells74 rect (.slice (some ad7) y.length c7) (.slice none 0 0)) 74 (0, 0))) ∧ Aside0 (Below g7 W1 wr)) (fun i _ => y.length - (intOf i).toNat)
      case atStart => exact ⟨0, rc, Nat.zero_le _, rfl, ⟨by simp [foldR]⟩, HP1, ⟨Below.refl _ _⟩⟩
      case round =>
        clear cP5
        obtain ⟨j, rect, hj, rfl, hR, hP, hBz⟩ := hrel
        have hFz : Aside0 (Kd.F k51 wr (fun k => P0 k ∧ k < w.heap.size) (some ad7) y.length y) := ⟨Kd.F_step HF'.out (fun k hk hlt => (hBz.out.block k (Nat.lt_of_lt_of_le hk.2 hwg)).trans (Hb1.out.block k (Nat.lt_of_lt_of_le hk.2 hwg)))⟩
        by_cases hjl : j < y.length
        · have hjl' : (j : Int) < (y.length : Int) := by omega
          obtain ⟨ad', e, y0, y1, y2, y3, y4⟩ := at_T51 (Kd.F_now hFz.out) (j : Int) (by omega) hjl'
          cases e
          have hyj := rd51 y j hjl
          rw [hyj] at y0 y1 y2 y3 y4
          have htk : y.take (j + 1) = y.take j ++ [y[j]] := List.take_succ_eq_append_getElem hjl
          generalize y[j] = q at y0 y1 y2 y3 y4 htk
          simp only [Int.toNat_natCast] at y0 y1 y2 y3 y4
          have hs1 : ∀ (o : Obj), (wr.alloc o).heap[g7]? = some (.cells (cells74 rect (.slice (some ad7) y.length c7) (.slice none 0 0)) 74 (0, 0)) := fun o => blk_alloc hP.out o
          have z0 : ∀ o, (wr.alloc o).cell? ⟨g7, 0, none⟩ = some (.int .i64 rect.f0.f0) := fun o => (blk_cell (hs1 o) 0).trans rfl
          have z1 : ∀ o, (wr.alloc o).cell? ⟨g7, 1, none⟩ = some (.int .i64 rect.f0.f1) := fun o => (blk_cell (hs1 o) 1).trans rfl
          have z2 : ∀ o, (wr.alloc o).cell? ⟨g7, 2, none⟩ = some (.int .i64 rect.f1.f0) := fun o => (blk_cell (hs1 o) 2).trans rfl
          have z3 : ∀ o, (wr.alloc o).cell? ⟨g7, 3, none⟩ = some (.int .i64 rect.f1.f1) := fun o => (blk_cell (hs1 o) 3).trans rfl
          have hca := around31 rect q.f0
          have HS := Aside0.mk hs1
          have HCA := Aside0.mk hca
          have HTK := Aside0.mk htk
          clear hs1 hca htk
          go_wp2_with (go_at_call 139; refine (R31_Around.calls _ _ _ _ _ _ _ _ _ _ _ _ _ HCA.out).mono ?_; rintro e w3 ⟨rfl, hB3⟩; have hP3 := blk_below (HS.out _) hB3; have q0 : w3.cell? ⟨g7, 0, none⟩ = some (.int .i64 rect.f0.f0) := (blk_cell hP3 0).trans rfl; have q1 : w3.cell? ⟨g7, 1, none⟩ = some (.int .i64 rect.f0.f1) := (blk_cell hP3 1).trans rfl; have q2 : w3.cell? ⟨g7, 2, none⟩ = some (.int .i64 rect.f1.f0) := (blk_cell hP3 2).trans rfl; have q3 : w3.cell? ⟨g7, 3, none⟩ = some (.int .i64 rect.f1.f1) := (blk_cell hP3 3).trans rfl; have f0 := blk_frozen hP3 0; have f1 := blk_frozen hP3 1; have f2 := blk_frozen hP3 2; have f3 := blk_frozen hP3 3; have HP3 := Aside0.mk hP3; have HB3 := Aside0.mk hB3; clear hP3 hB3)
          have hg := blk_lt hP.out
          have hyl := HYL.out
          have hbz : Below g7 W1 w3 := (hBz.out.alloc (Nat.le_of_lt hg) _).trans (HB3.out.mono (by simp; omega))
          refine ⟨⟨j + 1, joinR rect q.f0, by omega, by rw [w64j j (by omega)], ⟨?_⟩, ⟨?_⟩, ⟨?_⟩⟩, by rw [w64j j (by omega)]; simp only [intOf]; omega⟩
          · rw [HTK.out, List.map_append, foldR_append, ← hR.out]; rfl
          · exact blk_set (blk_set (blk_set (blk_set HP3.out 0 _) 1 _) 2 _) 3 _
          · exact (((hbz.setCell (p := ⟨g7, 0, none⟩) (Nat.le_refl _) _).setCell (p := ⟨g7, 1, none⟩) (Nat.le_refl _) _).setCell (p := ⟨g7, 2, none⟩) (Nat.le_refl _) _).setCell (p := ⟨g7, 3, none⟩) (Nat.le_refl _) _
        · have hjl' : ¬ (j : Int) < (y.length : Int) := by omega
          have q0 : wr.cell? ⟨g7, 0, none⟩ = some (.int .i64 rect.f0.f0) := (blk_cell hP.out 0).trans rfl
          have q1 : wr.cell? ⟨g7, 1, none⟩ = some (.int .i64 rect.f0.f1) := (blk_cell hP.out 1).trans rfl
          have q2 : wr.cell? ⟨g7, 2, none⟩ = some (.int .i64 rect.f1.f0) := (blk_cell hP.out 2).trans rfl
          have q3 : wr.cell? ⟨g7, 3, none⟩ = some (.int .i64 rect.f1.f1) := (blk_cell hP.out 3).trans rfl
          have q4 : wr.cell? ⟨g7, 4, none⟩ = some (.slice (some ad7) y.length c7) := (blk_cell hP.out 4).trans rfl
          have q5 : wr.cell? ⟨g7, 5, none⟩ = some (.slice none 0 0) := (blk_cell hP.out 5).trans rfl
          have aO : Kd.N k74 74 wr w.heap.size (fun k => P0 k ∨ w.heap.size ≤ k) u5 done := Kd.N_mono (Kd.N_step HN1.out (fun k hk hlt => hBz.out.block k hk.2)) (fun _ hk => hk.1)
          have aB : Below w.heap.size w wr := HB1.out.trans (hBz.out.mono hwg)
          have aP : Kd.FK k74 wr (fun k => P0 k ∧ k < w.heap.size) (⟨rect, y, []⟩ : S74) [.int .i64 rect.f0.f0, .int .i64 rect.f0.f1, .int .i64 rect.f1.f0, .int .i64 rect.f1.f1, .slice (some ad7) y.length c7, .slice none 0 0] := k74_mkF _ _ _ hyc hFz.out (A5 := none) (c5 := 0) (Nat.le_refl _) (Kd.F_nil _ _ _)
          have aL : (done.length + 1) * 80 ≤ 140737488355328 := by have := hDL.out; omega
          have aE : done ++ [(⟨rect, y, []⟩ : S74)] ++ leavesP wd (l.drop (n + wd)) = leavesP wd l := by
            have e1 := HY.out.1
            have e2 := HY.out.2
            have e3 := hR.out
            rw [show j = y.length by omega, List.take_length] at e3
            rw [← e3] at e2
            rw [← hD.out, e1, e2, List.append_assoc, List.singleton_append]
          have AO := Aside0.mk aO
          have AB := Aside0.mk aB
          have AP := Aside0.mk aP
          have AL := Aside0.mk aL
          have AE := Aside0.mk aE
          have hw : wrap64 ((n : Int) + (wd : Int)) = (n : Int) + (wd : Int) := by unfold wrap64; omega
          have HLT := Aside0.mk hlt
          clear aO aB aP aL aE hma hmb hlt hlt' hn hnm hm1 hm2 hcl hnc hmc hj hc0 hwg
          go_wp2_with (at_builtin; refine Kd.N_append k74 (w0 := w) w.heap.size rfl (.tmp 46) (.tmp 48) 72 74 (.agg #[(.int .i64 0), (.int .i64 0), (.int .i64 0), (.int .i64 0), (.slice none 0 0), (.slice none 0 0)]) 80 rfl Try.underlying72 info74 rfl (by decide) (by decide) u5 done (⟨rect, y, []⟩ : S74) [.int .i64 rect.f0.f0, .int .i64 rect.f0.f1, .int .i64 rect.f1.f0, .int .i64 rect.f1.f1, .slice (some ad7) y.length c7, .slice none 0 0] (fun k => P0 k ∨ w.heap.size ≤ k) (fun k => P0 k ∧ k < w.heap.size) rfl rfl AP.out (fun k hk => ⟨.inl hk.1, fun e => Nat.lt_irrefl _ (Nat.lt_of_lt_of_le hk.2 (Kd.N_base AO.out k e.symm))⟩) (fun k hk => .inr (Nat.le_trans AB.out.size hk)) AO.out AB.out AB.out.size AL.out ?_; intro v1 w1 HN' HB' _ _; have HN2 := Aside0.mk HN'; have HB2 := Aside0.mk HB'; clear HN' HB')
          clear hw
          have hlt := HLT.out
          have hbd : n + wd < 4611686018427387904 := by omega
          refine ⟨⟨n + wd, done ++ [⟨rect, y, []⟩], by rw [wrapadd n wd hbd], by omega, ⟨AE.out⟩, ⟨by have := hDL.out; simp; omega⟩, HN2, HB2⟩, by rw [wrapadd n wd hbd]; simp only [intOf]; omega⟩
    · have hlt' : ¬ (n : Int) < (l.length : Int) := by omega
      obtain ⟨A5, c5, rfl⟩ := Kd.N_slice hN.out
      go_wp2_with (fail)
      go_ret
      have e := hD.out
      rw [List.drop_of_length_le (by omega), show leavesP wd ([] : List S51) = [] from rfl, List.append_nil] at e
      subst e
      exact ⟨_, rfl, hN.out, hB.out⟩
end Go.Proofs.Ytdcelpppgbmlaaa.P
