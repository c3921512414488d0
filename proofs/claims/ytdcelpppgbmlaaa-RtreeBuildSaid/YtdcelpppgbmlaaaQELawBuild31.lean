/- The law RtreeBuild of package bitemporallaw31 answers true. No condition. -/
import Derived.Test.YtdcelpppgbmlaaaQELaw31
namespace Go.Proofs.Ytdcelpppgbmlaaa.P
open Go.RowKit Go.Shelf Go.Proofs.YtdcelpppgbmlaaaW.PrintWords Go.Proofs.YtdcelpppgbmlaaaW.PrintLast Go.Proofs.YtdcelpppgbmlaaaW.PrintMore
set_option linter.unusedSimpArgs false
set_option linter.unusedVariables false
attribute [local go_sem high] eqA41
set_option maxHeartbeats 4000000 in
set_option maxRecDepth 100000 in
theorem L31_RtreeBuild.calls (A0 : Option Addr) (c0 : Nat) (l : List S51) (wd : Int) (hwf : ∀ b ∈ l, (Lit.int .i64 b.f1).wf = true) (w : World) (hr0 : Kd.C k51 w A0 l.length l) (hc0 : l.length ≤ c0) :
    Calls Try.prog 18 #[.slice A0 l.length c0, .int .i64 wd] w fun e w' => e = .returned (.bool true) ∧ Below w.heap.size w w' := by
  by_cases hl : l.length ≤ 200
  · have hl' : ¬ (l.length : Int) > 200 := by omega
    have HR := Aside0.mk hr0
    have HWF := Aside0.mk hwf
    have HL := Aside0.mk hl
    have HBW : Aside0 (Below w.heap.size w w) := ⟨Below.refl _ _⟩
    clear hr0 hwf hl
    go_enter Try.func18, Try.ntmps18
    go_wp2_with (first
      | (go_at_call 56; refine (rtree_Build.calls A0 c0 l wd (Nat.lt_of_le_of_lt HL.out (by decide)) HWF.out _ (Kd.C_below HR.out HBW.out) hc0).mono ?_; rintro e w1 ⟨v, rfl, hT, hB⟩; obtain ⟨p, rfl⟩ := rtK_ptr hT; have hpe := rtK_isSome hT; have HBW := Aside0.mk (HBW.out.trans (hB.mono HBW.out.size)); have HB1 := Aside0.mk hB; have HT := Aside0.mk hT; clear hB hT)
      | (go_at_call 86; refine (ref_Build A0 c0 l wd HL.out _ (Kd.C_below HR.out HBW.out) hc0).mono ?_; rintro e w2 ⟨⟨A1, c1, A4, c4, A5, c5, rfl, hcc, hX⟩, hB⟩; have HBW := Aside0.mk (HBW.out.trans (hB.mono HBW.out.size)); have HB2 := Aside0.mk hB; have HT := Aside0.mk (rtK_below HT.out hB); have HX := Aside0.mk hX; have HCC := Aside0.mk hcc; clear hB hX hcc)
      | (go_at_call 87; refine (rtree_Bounds.calls _ _ _ (rtK_below HT.out (below_alloc (Below.refl _ _) _))).mono ?_; rintro e w3 ⟨rfl, hB⟩; have HB3 := Aside0.mk hB; have hX3 := blk_below (blk_new w2 (.cells #[.int .i64 (refOf l wd).wd, .slice A1 (refOf l wd).bx.length c1, .int .i64 (refOf l wd).root.f0.f0.f0, .int .i64 (refOf l wd).root.f0.f0.f1, .int .i64 (refOf l wd).root.f0.f1.f0, .int .i64 (refOf l wd).root.f0.f1.f1, .slice A4 (refOf l wd).root.f1.length c4, .slice A5 (refOf l wd).root.f2.length c5, .int .i64 ((refOf l wd).dp : Int)] 76)) hB; have x0 : ∀ o, (w3.alloc o).cell? ⟨w2.heap.size, 0, none⟩ = some (.int .i64 (refOf l wd).wd) := fun o => (blk_cell (blk_alloc hX3 o) 0).trans rfl; have x1 : ∀ o, (w3.alloc o).cell? ⟨w2.heap.size, 1, none⟩ = some (.slice A1 (refOf l wd).bx.length c1) := fun o => (blk_cell (blk_alloc hX3 o) 1).trans rfl; have x2 : ∀ o, (w3.alloc o).cell? ⟨w2.heap.size, 2, none⟩ = some (.int .i64 (refOf l wd).root.f0.f0.f0) := fun o => (blk_cell (blk_alloc hX3 o) 2).trans rfl; have x3 : ∀ o, (w3.alloc o).cell? ⟨w2.heap.size, 3, none⟩ = some (.int .i64 (refOf l wd).root.f0.f0.f1) := fun o => (blk_cell (blk_alloc hX3 o) 3).trans rfl; have x4 : ∀ o, (w3.alloc o).cell? ⟨w2.heap.size, 4, none⟩ = some (.int .i64 (refOf l wd).root.f0.f1.f0) := fun o => (blk_cell (blk_alloc hX3 o) 4).trans rfl; have x5 : ∀ o, (w3.alloc o).cell? ⟨w2.heap.size, 5, none⟩ = some (.int .i64 (refOf l wd).root.f0.f1.f1) := fun o => (blk_cell (blk_alloc hX3 o) 5).trans rfl; have x6 : ∀ o, (w3.alloc o).cell? ⟨w2.heap.size, 6, none⟩ = some (.slice A4 (refOf l wd).root.f1.length c4) := fun o => (blk_cell (blk_alloc hX3 o) 6).trans rfl; have x7 : ∀ o, (w3.alloc o).cell? ⟨w2.heap.size, 7, none⟩ = some (.slice A5 (refOf l wd).root.f2.length c5) := fun o => (blk_cell (blk_alloc hX3 o) 7).trans rfl; have x8 : ∀ o, (w3.alloc o).cell? ⟨w2.heap.size, 8, none⟩ = some (.int .i64 ((refOf l wd).dp : Int)) := fun o => (blk_cell (blk_alloc hX3 o) 8).trans rfl; have HX3 := Aside0.mk hX3; clear hB hX3)
      | (go_at_call 88; refine (ref88 HL.out wd A1 c1 A4 c4 A5 c5 _ HCC.out (refC_below HX.out ((below_alloc (Below.refl _ _) _).trans ((HB3.out.mono (by simp)).trans ((below_alloc (Below.refl _ _) _).mono (by have h_ := HB3.out.size; simp at h_; omega)))))).mono ?_; rintro e w4 ⟨rfl, hB⟩; have HB4 := Aside0.mk hB; clear hB)
      | fail)
    obtain ⟨W0, hW0⟩ : ∃ W0, W0 = w4.alloc (.cells #[.int .i64 (orZ (rtBounds (rtOf l wd))).f0.f0, .int .i64 (orZ (rtBounds (rtOf l wd))).f0.f1, .int .i64 (orZ (rtBounds (rtOf l wd))).f1.f0, .int .i64 (orZ (rtBounds (rtOf l wd))).f1.f1] 41) := ⟨_, rfl⟩
    rw [← hW0]
    have hB2 : Below w2.heap.size w2 w3 := (below_alloc (Below.refl _ _) _).trans (HB3.out.mono (by simp))
    have hB3 : Below w3.heap.size w3 w4 := (below_alloc (Below.refl _ _) _).trans (HB4.out.mono (by simp))
    have hB4 : Below w4.heap.size w4 W0.drew := by rw [hW0]; exact (below_alloc (Below.refl _ _) _).trans (below_drew (Below.refl _ _))
    have hB7 : Below w2.heap.size w2 W0.drew := (hB2.trans (hB3.mono hB2.size)).trans (hB4.mono (Nat.le_trans hB2.size hB3.size))
    have hP : W0.drew.heap[w2.heap.size]? = some (.cells #[.int .i64 (refOf l wd).wd, .slice A1 (refOf l wd).bx.length c1, .int .i64 (refOf l wd).root.f0.f0.f0, .int .i64 (refOf l wd).root.f0.f0.f1, .int .i64 (refOf l wd).root.f0.f1.f0, .int .i64 (refOf l wd).root.f0.f1.f1, .slice A4 (refOf l wd).root.f1.length c4, .slice A5 (refOf l wd).root.f2.length c5, .int .i64 ((refOf l wd).dp : Int)] 76 (0, 0)) := blk_below (blk_below HX3.out hB3) hB4
    have hP9 : W0.drew.heap[w3.heap.size]? = some (.cells #[.int .i64 (orZ (rtBounds (rtOf l wd))).f0.f0, .int .i64 (orZ (rtBounds (rtOf l wd))).f0.f1, .int .i64 (orZ (rtBounds (rtOf l wd))).f1.f0, .int .i64 (orZ (rtBounds (rtOf l wd))).f1.f1] 41 (0, 0)) := blk_below (blk_below (blk_new w3 (.cells #[.int .i64 (orZ (rtBounds (rtOf l wd))).f0.f0, .int .i64 (orZ (rtBounds (rtOf l wd))).f0.f1, .int .i64 (orZ (rtBounds (rtOf l wd))).f1.f0, .int .i64 (orZ (rtBounds (rtOf l wd))).f1.f1] 41)) HB4.out) hB4
    have hP11 : W0.drew.heap[w4.heap.size]? = some (.cells #[.int .i64 (orZ (rtBounds (rtOf l wd))).f0.f0, .int .i64 (orZ (rtBounds (rtOf l wd))).f0.f1, .int .i64 (orZ (rtBounds (rtOf l wd))).f1.f0, .int .i64 (orZ (rtBounds (rtOf l wd))).f1.f1] 41 (0, 0)) := by rw [hW0]; exact blk_new w4 _
    obtain ⟨gx, hgx⟩ : ∃ gx, gx = w2.heap.size := ⟨_, rfl⟩
    rw [← hgx] at hP ⊢
    obtain ⟨g9, hg9⟩ : ∃ g9, g9 = w3.heap.size := ⟨_, rfl⟩
    rw [← hg9] at hP9 ⊢
    obtain ⟨g11, hg11⟩ : ∃ g11, g11 = w4.heap.size := ⟨_, rfl⟩
    rw [← hg11] at hP11 ⊢
    have hlen : ((rtLen (rtOf l wd) : Nat) : Int) = (((refOf l wd).bx.length : Nat) : Int) := by rw [ref_len]
    have hdep : ((rtDepth (rtOf l wd) : Nat) : Int) = (((refOf l wd).dp : Nat) : Int) := by rw [ref_depth]
    have HLN := Aside0.mk (And.intro hlen hdep)
    clear hlen hdep
    have lenc : ∀ w', rtK w' (.pointer p) (rtOf l wd) → Calls Try.prog 89 #[.pointer p] w' fun e w'' => e = .returned (.int .i64 (((refOf l wd).bx.length : Nat) : Int)) ∧ Below w'.heap.size w' w'' := fun w' h => by rw [← HLN.out.1]; exact rtree_Len.calls _ _ _ h
    have depc : ∀ w', rtK w' (.pointer p) (rtOf l wd) → Calls Try.prog 90 #[.pointer p] w' fun e w'' => e = .returned (.int .i64 (((refOf l wd).dp : Nat) : Int)) ∧ Below w'.heap.size w' w'' := fun w' h => by rw [← HLN.out.2]; exact rtree_Depth.calls _ _ _ h
    have LENC := Aside0.mk lenc
    have DEPC := Aside0.mk depc
    clear lenc depc
    have p0 : W0.drew.cell? ⟨gx, 0, none⟩ = some (.int .i64 (refOf l wd).wd) := (blk_cell hP 0).trans rfl
    have p1 : W0.drew.cell? ⟨gx, 1, none⟩ = some (.slice A1 (refOf l wd).bx.length c1) := (blk_cell hP 1).trans rfl
    have p2 : W0.drew.cell? ⟨gx, 2, none⟩ = some (.int .i64 (refOf l wd).root.f0.f0.f0) := (blk_cell hP 2).trans rfl
    have p3 : W0.drew.cell? ⟨gx, 3, none⟩ = some (.int .i64 (refOf l wd).root.f0.f0.f1) := (blk_cell hP 3).trans rfl
    have p4 : W0.drew.cell? ⟨gx, 4, none⟩ = some (.int .i64 (refOf l wd).root.f0.f1.f0) := (blk_cell hP 4).trans rfl
    have p5 : W0.drew.cell? ⟨gx, 5, none⟩ = some (.int .i64 (refOf l wd).root.f0.f1.f1) := (blk_cell hP 5).trans rfl
    have p6 : W0.drew.cell? ⟨gx, 6, none⟩ = some (.slice A4 (refOf l wd).root.f1.length c4) := (blk_cell hP 6).trans rfl
    have p7 : W0.drew.cell? ⟨gx, 7, none⟩ = some (.slice A5 (refOf l wd).root.f2.length c5) := (blk_cell hP 7).trans rfl
    have p8 : W0.drew.cell? ⟨gx, 8, none⟩ = some (.int .i64 ((refOf l wd).dp : Int)) := (blk_cell hP 8).trans rfl
    have s0 : W0.drew.cell? ⟨g9, 0, none⟩ = some (.int .i64 (orZ (rtBounds (rtOf l wd))).f0.f0) := (blk_cell hP9 0).trans rfl
    have s1 : W0.drew.cell? ⟨g9, 1, none⟩ = some (.int .i64 (orZ (rtBounds (rtOf l wd))).f0.f1) := (blk_cell hP9 1).trans rfl
    have s2 : W0.drew.cell? ⟨g9, 2, none⟩ = some (.int .i64 (orZ (rtBounds (rtOf l wd))).f1.f0) := (blk_cell hP9 2).trans rfl
    have s3 : W0.drew.cell? ⟨g9, 3, none⟩ = some (.int .i64 (orZ (rtBounds (rtOf l wd))).f1.f1) := (blk_cell hP9 3).trans rfl
    have t0 : W0.drew.cell? ⟨g11, 0, none⟩ = some (.int .i64 (orZ (rtBounds (rtOf l wd))).f0.f0) := (blk_cell hP11 0).trans rfl
    have t1 : W0.drew.cell? ⟨g11, 1, none⟩ = some (.int .i64 (orZ (rtBounds (rtOf l wd))).f0.f1) := (blk_cell hP11 1).trans rfl
    have t2 : W0.drew.cell? ⟨g11, 2, none⟩ = some (.int .i64 (orZ (rtBounds (rtOf l wd))).f1.f0) := (blk_cell hP11 2).trans rfl
    have t3 : W0.drew.cell? ⟨g11, 3, none⟩ = some (.int .i64 (orZ (rtBounds (rtOf l wd))).f1.f1) := (blk_cell hP11 3).trans rfl
    have HT := Aside0.mk (rtK_below HT.out hB7)
    have HBW := Aside0.mk (HBW.out.trans (hB7.mono HBW.out.size))
    clear hW0 hgx hg9 hg11 hP hP9 hP11 hB2 hB3 hB4 hB7 x0 x1 x2 x3 x4 x5 x6 x7 x8
    refine start_ (n := 27) (S := fun w' => w'.cell? ⟨gx, 0, none⟩ = some (.int .i64 (refOf l wd).wd) ∧ w'.cell? ⟨gx, 1, none⟩ = some (.slice A1 (refOf l wd).bx.length c1) ∧ w'.cell? ⟨gx, 2, none⟩ = some (.int .i64 (refOf l wd).root.f0.f0.f0) ∧ w'.cell? ⟨gx, 3, none⟩ = some (.int .i64 (refOf l wd).root.f0.f0.f1) ∧ w'.cell? ⟨gx, 4, none⟩ = some (.int .i64 (refOf l wd).root.f0.f1.f0) ∧ w'.cell? ⟨gx, 5, none⟩ = some (.int .i64 (refOf l wd).root.f0.f1.f1) ∧ w'.cell? ⟨gx, 6, none⟩ = some (.slice A4 (refOf l wd).root.f1.length c4) ∧ w'.cell? ⟨gx, 7, none⟩ = some (.slice A5 (refOf l wd).root.f2.length c5) ∧ w'.cell? ⟨gx, 8, none⟩ = some (.int .i64 ((refOf l wd).dp : Int)) ∧ w'.cell? ⟨g9, 0, none⟩ = some (.int .i64 (orZ (rtBounds (rtOf l wd))).f0.f0) ∧ w'.cell? ⟨g9, 1, none⟩ = some (.int .i64 (orZ (rtBounds (rtOf l wd))).f0.f1) ∧ w'.cell? ⟨g9, 2, none⟩ = some (.int .i64 (orZ (rtBounds (rtOf l wd))).f1.f0) ∧ w'.cell? ⟨g9, 3, none⟩ = some (.int .i64 (orZ (rtBounds (rtOf l wd))).f1.f1) ∧ w'.cell? ⟨g11, 0, none⟩ = some (.int .i64 (orZ (rtBounds (rtOf l wd))).f0.f0) ∧ w'.cell? ⟨g11, 1, none⟩ = some (.int .i64 (orZ (rtBounds (rtOf l wd))).f0.f1) ∧ w'.cell? ⟨g11, 2, none⟩ = some (.int .i64 (orZ (rtBounds (rtOf l wd))).f1.f0) ∧ w'.cell? ⟨g11, 3, none⟩ = some (.int .i64 (orZ (rtBounds (rtOf l wd))).f1.f1)) (ds := []) #[false, false, false, false, false, false, false, false, false, false, false, false, false, false, false, false, false, false, false, false, false, false, false, false, false, false, false] (by kernel_rfl) rfl rfl ⟨p0, p1, p2, p3, p4, p5, p6, p7, p8, s0, s1, s2, s3, t0, t1, t2, t3⟩ (fun hHeld => ?_)
    refine pure_ (i := 0) (N := some 49) (v := ?_) (a' := ?_) #[true, false, false, false, false, false, false, false, false, false, false, false, false, false, false, false, false, false, false, false, false, false, false, false, false, false, false] rfl rfl (by kernel_rfl) (fun _ _ _ h => h) (Or.inl ⟨by rfl, ?_⟩) ?_ ?_
    rotate_left
    · intro w'
      go_simp
      with_reducible rfl
    rotate_left
    · simp only [Act.put, List.setIfInBounds_toArray, List.set_cons_zero, List.set_cons_succ, i64_w, i32_w]
      rfl
    refine pure_ (i := 2) (N := some 51) (v := ?_) (a' := ?_) #[true, false, true, false, false, false, false, false, false, false, false, false, false, false, false, false, false, false, false, false, false, false, false, false, false, false, false] rfl rfl (by kernel_rfl) (fun _ _ _ h => h) (Or.inl ⟨by rfl, ?_⟩) ?_ ?_
    rotate_left
    · intro w'
      go_simp
      with_reducible rfl
    rotate_left
    · simp only [Act.put, List.setIfInBounds_toArray, List.set_cons_zero, List.set_cons_succ, i64_w, i32_w]
      rfl
    refine take_ (i := 3) (N := some 52) (v := ?_) (a' := ?_) #[true, false, true, true, false, false, false, false, false, false, false, false, false, false, false, false, false, false, false, false, false, false, false, false, false, false, false] rfl rfl (by kernel_rfl) (fun _ _ _ h => h) (Or.inl ⟨by rfl, ?_⟩) hHeld ?_ ?_
    rotate_left
    · rintro w' ⟨s0, s1, s2, s3, s4, s5, s6, s7, s8, s9, s10, s11, s12, s13, s14, s15, s16⟩
      go_simp
      with_reducible rfl
    rotate_left
    · simp only [Act.put, List.setIfInBounds_toArray, List.set_cons_zero, List.set_cons_succ, i64_w, i32_w]
      rfl
    refine pure_ (i := 4) (N := some 53) (v := ?_) (a' := ?_) #[true, false, true, true, true, false, false, false, false, false, false, false, false, false, false, false, false, false, false, false, false, false, false, false, false, false, false] rfl rfl (by kernel_rfl) (fun _ _ _ h => h) (Or.inl ⟨by rfl, ?_⟩) ?_ ?_
    rotate_left
    · intro w'
      go_simp
      with_reducible rfl
    rotate_left
    · simp only [Act.put, List.setIfInBounds_toArray, List.set_cons_zero, List.set_cons_succ, i64_w, i32_w]
      rfl
    refine one_ (i := 1) (N := some 50) #[true, true, true, true, true, false, false, false, false, false, false, false, false, false, false, false, false, false, false, false, false, false, false, false, false, false, false] rfl rfl (by kernel_rfl) (by decide) (fun K hK => ?_)
    refine goes_ Try.func89 (by kernel_rfl) rfl #[.pointer p] (by rfl) rfl rfl (by simp only [List.map_toArray, List.map_cons, List.map_nil]; rfl) ?_
    with_reducible refine (LENC.out _ HT.out).mono ?_
    rintro e w1_ ⟨rfl, hB⟩
    refine ⟨_, rfl, ?_⟩
    have HBK := Aside0.mk hB
    clear hB
    have HBW := Aside0.mk (HBW.out.trans (HBK.out.mono HBW.out.size))
    have HT := Aside0.mk (rtK_below HT.out HBK.out)
    refine hK.out _ _ ⟨(pw_cell_below HBK.out hHeld.1), (pw_cell_below HBK.out hHeld.2.1), (pw_cell_below HBK.out hHeld.2.2.1), (pw_cell_below HBK.out hHeld.2.2.2.1), (pw_cell_below HBK.out hHeld.2.2.2.2.1), (pw_cell_below HBK.out hHeld.2.2.2.2.2.1), (pw_cell_below HBK.out hHeld.2.2.2.2.2.2.1), (pw_cell_below HBK.out hHeld.2.2.2.2.2.2.2.1), (pw_cell_below HBK.out hHeld.2.2.2.2.2.2.2.2.1), (pw_cell_below HBK.out hHeld.2.2.2.2.2.2.2.2.2.1), (pw_cell_below HBK.out hHeld.2.2.2.2.2.2.2.2.2.2.1), (pw_cell_below HBK.out hHeld.2.2.2.2.2.2.2.2.2.2.2.1), (pw_cell_below HBK.out hHeld.2.2.2.2.2.2.2.2.2.2.2.2.1), (pw_cell_below HBK.out hHeld.2.2.2.2.2.2.2.2.2.2.2.2.2.1), (pw_cell_below HBK.out hHeld.2.2.2.2.2.2.2.2.2.2.2.2.2.2.1), (pw_cell_below HBK.out hHeld.2.2.2.2.2.2.2.2.2.2.2.2.2.2.2.1), (pw_cell_below HBK.out hHeld.2.2.2.2.2.2.2.2.2.2.2.2.2.2.2.2)⟩ (fun hHeld => ?_)
    clear hK K
    refine norm_ (a' := ?_) ?_ ?_
    rotate_left
    · show Act.put _ (some 50) _ = _
      simp only [Act.put, List.setIfInBounds_toArray, List.set_cons_zero, List.set_cons_succ, i64_w, i32_w]
      rfl
    refine pure_ (i := 5) (N := some 54) (v := ?_) (a' := ?_) #[true, true, true, true, true, true, false, false, false, false, false, false, false, false, false, false, false, false, false, false, false, false, false, false, false, false, false] rfl rfl (by kernel_rfl) (fun _ _ _ h => h) (Or.inl ⟨by rfl, ?_⟩) ?_ ?_
    rotate_left
    · intro w'
      go_simp
      with_reducible rfl
    rotate_left
    · simp only [Act.put, List.setIfInBounds_toArray, List.set_cons_zero, List.set_cons_succ, i64_w, i32_w]
      rfl
    refine pure_ (i := 6) (N := some 55) (v := ?_) (a' := ?_) #[true, true, true, true, true, true, true, false, false, false, false, false, false, false, false, false, false, false, false, false, false, false, false, false, false, false, false] rfl rfl (by kernel_rfl) (fun _ _ _ h => h) (Or.inl ⟨by rfl, ?_⟩) ?_ ?_
    rotate_left
    · intro w'
      go_simp
      with_reducible rfl
    rotate_left
    · simp only [Act.put, List.setIfInBounds_toArray, List.set_cons_zero, List.set_cons_succ, i64_w, i32_w]
      rfl
    refine pure_ (i := 7) (N := some 56) (v := ?_) (a' := ?_) #[true, true, true, true, true, true, true, true, false, false, false, false, false, false, false, false, false, false, false, false, false, false, false, false, false, false, false] rfl rfl (by kernel_rfl) (fun _ _ _ h => h) (Or.inl ⟨by rfl, ?_⟩) ?_ ?_
    rotate_left
    · intro w'
      go_simp
      with_reducible rfl
    rotate_left
    · simp only [Act.put, List.setIfInBounds_toArray, List.set_cons_zero, List.set_cons_succ, i64_w, i32_w]
      rfl
    refine pure_ (i := 9) (N := some 58) (v := ?_) (a' := ?_) #[true, true, true, true, true, true, true, true, false, true, false, false, false, false, false, false, false, false, false, false, false, false, false, false, false, false, false] rfl rfl (by kernel_rfl) (fun _ _ _ h => h) (Or.inl ⟨by rfl, ?_⟩) ?_ ?_
    rotate_left
    · intro w'
      go_simp
      with_reducible rfl
    rotate_left
    · simp only [Act.put, List.setIfInBounds_toArray, List.set_cons_zero, List.set_cons_succ, i64_w, i32_w]
      rfl
    refine take_ (i := 10) (N := some 59) (v := ?_) (a' := ?_) #[true, true, true, true, true, true, true, true, false, true, true, false, false, false, false, false, false, false, false, false, false, false, false, false, false, false, false] rfl rfl (by kernel_rfl) (fun _ _ _ h => h) (Or.inl ⟨by rfl, ?_⟩) hHeld ?_ ?_
    rotate_left
    · rintro w' ⟨s0, s1, s2, s3, s4, s5, s6, s7, s8, s9, s10, s11, s12, s13, s14, s15, s16⟩
      go_simp
      with_reducible rfl
    rotate_left
    · simp only [Act.put, List.setIfInBounds_toArray, List.set_cons_zero, List.set_cons_succ, i64_w, i32_w]
      rfl
    refine one_ (i := 8) (N := some 57) #[true, true, true, true, true, true, true, true, true, true, true, false, false, false, false, false, false, false, false, false, false, false, false, false, false, false, false] rfl rfl (by kernel_rfl) (by decide) (fun K hK => ?_)
    refine goes_ Try.func90 (by kernel_rfl) rfl #[.pointer p] (by rfl) rfl rfl (by simp only [List.map_toArray, List.map_cons, List.map_nil]; rfl) ?_
    with_reducible refine (DEPC.out _ HT.out).mono ?_
    rintro e w8_ ⟨rfl, hB⟩
    refine ⟨_, rfl, ?_⟩
    have HBK := Aside0.mk hB
    clear hB
    have HBW := Aside0.mk (HBW.out.trans (HBK.out.mono HBW.out.size))
    have HT := Aside0.mk (rtK_below HT.out HBK.out)
    refine hK.out _ _ ⟨(pw_cell_below HBK.out hHeld.1), (pw_cell_below HBK.out hHeld.2.1), (pw_cell_below HBK.out hHeld.2.2.1), (pw_cell_below HBK.out hHeld.2.2.2.1), (pw_cell_below HBK.out hHeld.2.2.2.2.1), (pw_cell_below HBK.out hHeld.2.2.2.2.2.1), (pw_cell_below HBK.out hHeld.2.2.2.2.2.2.1), (pw_cell_below HBK.out hHeld.2.2.2.2.2.2.2.1), (pw_cell_below HBK.out hHeld.2.2.2.2.2.2.2.2.1), (pw_cell_below HBK.out hHeld.2.2.2.2.2.2.2.2.2.1), (pw_cell_below HBK.out hHeld.2.2.2.2.2.2.2.2.2.2.1), (pw_cell_below HBK.out hHeld.2.2.2.2.2.2.2.2.2.2.2.1), (pw_cell_below HBK.out hHeld.2.2.2.2.2.2.2.2.2.2.2.2.1), (pw_cell_below HBK.out hHeld.2.2.2.2.2.2.2.2.2.2.2.2.2.1), (pw_cell_below HBK.out hHeld.2.2.2.2.2.2.2.2.2.2.2.2.2.2.1), (pw_cell_below HBK.out hHeld.2.2.2.2.2.2.2.2.2.2.2.2.2.2.2.1), (pw_cell_below HBK.out hHeld.2.2.2.2.2.2.2.2.2.2.2.2.2.2.2.2)⟩ (fun hHeld => ?_)
    clear hK K
    refine norm_ (a' := ?_) ?_ ?_
    rotate_left
    · show Act.put _ (some 57) _ = _
      simp only [Act.put, List.setIfInBounds_toArray, List.set_cons_zero, List.set_cons_succ, i64_w, i32_w]
      rfl
    refine pure_ (i := 11) (N := some 60) (v := ?_) (a' := ?_) #[true, true, true, true, true, true, true, true, true, true, true, true, false, false, false, false, false, false, false, false, false, false, false, false, false, false, false] rfl rfl (by kernel_rfl) (fun _ _ _ h => h) (Or.inl ⟨by rfl, ?_⟩) ?_ ?_
    rotate_left
    · intro w'
      go_simp
      with_reducible rfl
    rotate_left
    · simp only [Act.put, List.setIfInBounds_toArray, List.set_cons_zero, List.set_cons_succ, i64_w, i32_w]
      rfl
    refine pure_ (i := 12) (N := some 61) (v := ?_) (a' := ?_) #[true, true, true, true, true, true, true, true, true, true, true, true, true, false, false, false, false, false, false, false, false, false, false, false, false, false, false] rfl rfl (by kernel_rfl) (fun _ _ _ h => h) (Or.inl ⟨by rfl, ?_⟩) ?_ ?_
    rotate_left
    · intro w'
      go_simp
      with_reducible rfl
    rotate_left
    · simp only [Act.put, List.setIfInBounds_toArray, List.set_cons_zero, List.set_cons_succ, i64_w, i32_w]
      rfl
    refine pure_ (i := 13) (N := some 62) (v := ?_) (a' := ?_) #[true, true, true, true, true, true, true, true, true, true, true, true, true, true, false, false, false, false, false, false, false, false, false, false, false, false, false] rfl rfl (by kernel_rfl) (fun _ _ _ h => h) (Or.inl ⟨by rfl, ?_⟩) ?_ ?_
    rotate_left
    · intro w'
      go_simp
      with_reducible rfl
    rotate_left
    · simp only [Act.put, List.setIfInBounds_toArray, List.set_cons_zero, List.set_cons_succ, i64_w, i32_w]
      rfl
    refine take_ (i := 14) (N := some 63) (v := ?_) (a' := ?_) #[true, true, true, true, true, true, true, true, true, true, true, true, true, true, true, false, false, false, false, false, false, false, false, false, false, false, false] rfl rfl (by kernel_rfl) (fun _ _ _ h => h) (Or.inl ⟨by rfl, ?_⟩) hHeld ?_ ?_
    rotate_left
    · rintro w' ⟨s0, s1, s2, s3, s4, s5, s6, s7, s8, s9, s10, s11, s12, s13, s14, s15, s16⟩
      go_simp
      with_reducible rfl
    rotate_left
    · simp only [Act.put, List.setIfInBounds_toArray, List.set_cons_zero, List.set_cons_succ, i64_w, i32_w]
      rfl
    refine take_ (i := 15) (N := some 64) (v := ?_) (a' := ?_) #[true, true, true, true, true, true, true, true, true, true, true, true, true, true, true, true, false, false, false, false, false, false, false, false, false, false, false] rfl rfl (by kernel_rfl) (fun _ _ _ h => h) (Or.inl ⟨by rfl, ?_⟩) hHeld ?_ ?_
    rotate_left
    · rintro w' ⟨s0, s1, s2, s3, s4, s5, s6, s7, s8, s9, s10, s11, s12, s13, s14, s15, s16⟩
      go_simp
      with_reducible rfl
    rotate_left
    · simp only [Act.put, List.setIfInBounds_toArray, List.set_cons_zero, List.set_cons_succ, i64_w, i32_w]
      rfl
    refine pure_ (i := 16) (N := some 65) (v := ?_) (a' := ?_) #[true, true, true, true, true, true, true, true, true, true, true, true, true, true, true, true, true, false, false, false, false, false, false, false, false, false, false] rfl rfl (by kernel_rfl) (fun _ _ _ h => h) (Or.inl ⟨by rfl, ?_⟩) ?_ ?_
    rotate_left
    · intro w'
      go_simp
      with_reducible rfl
    rotate_left
    · simp only [Act.put, List.setIfInBounds_toArray, List.set_cons_zero, List.set_cons_succ, i64_w, i32_w]
      rfl
    refine pure_ (i := 17) (N := some 66) (v := ?_) (a' := ?_) #[true, true, true, true, true, true, true, true, true, true, true, true, true, true, true, true, true, true, false, false, false, false, false, false, false, false, false] rfl rfl (by kernel_rfl) (fun _ _ _ h => h) (Or.inl ⟨by rfl, ?_⟩) ?_ ?_
    rotate_left
    · intro w'
      go_simp
      with_reducible rfl
    rotate_left
    · simp only [Act.put, List.setIfInBounds_toArray, List.set_cons_zero, List.set_cons_succ, i64_w, i32_w]
      rfl
    refine pure_ (i := 18) (N := some 67) (v := ?_) (a' := ?_) #[true, true, true, true, true, true, true, true, true, true, true, true, true, true, true, true, true, true, true, false, false, false, false, false, false, false, false] rfl rfl (by kernel_rfl) (fun _ _ _ h => h) (Or.inl ⟨by rfl, ?_⟩) ?_ ?_
    rotate_left
    · intro w'
      go_simp
      with_reducible rfl
    rotate_left
    · simp only [Act.put, List.setIfInBounds_toArray, List.set_cons_zero, List.set_cons_succ, i64_w, i32_w]
      rfl
    refine pure_ (i := 19) (N := some 68) (v := ?_) (a' := ?_) #[true, true, true, true, true, true, true, true, true, true, true, true, true, true, true, true, true, true, true, true, false, false, false, false, false, false, false] rfl rfl (by kernel_rfl) (fun _ _ _ h => h) (Or.inl ⟨by rfl, ?_⟩) ?_ ?_
    rotate_left
    · intro w'
      go_simp
      with_reducible rfl
    rotate_left
    · simp only [Act.put, List.setIfInBounds_toArray, List.set_cons_zero, List.set_cons_succ, i64_w, i32_w]
      rfl
    refine pure_ (i := 20) (N := some 69) (v := ?_) (a' := ?_) #[true, true, true, true, true, true, true, true, true, true, true, true, true, true, true, true, true, true, true, true, true, false, false, false, false, false, false] rfl rfl (by kernel_rfl) (fun _ _ _ h => h) (Or.inl ⟨by rfl, ?_⟩) ?_ ?_
    rotate_left
    · intro w'
      go_simp
      with_reducible rfl
    rotate_left
    · simp only [Act.put, List.setIfInBounds_toArray, List.set_cons_zero, List.set_cons_succ, i64_w, i32_w]
      rfl
    refine pure_ (i := 21) (N := some 70) (v := ?_) (a' := ?_) #[true, true, true, true, true, true, true, true, true, true, true, true, true, true, true, true, true, true, true, true, true, true, false, false, false, false, false] rfl rfl (by kernel_rfl) (fun _ _ _ h => h) (Or.inl ⟨by rfl, ?_⟩) ?_ ?_
    rotate_left
    · intro w'
      go_simp
      with_reducible rfl
    rotate_left
    · simp only [Act.put, List.setIfInBounds_toArray, List.set_cons_zero, List.set_cons_succ, i64_w, i32_w]
      rfl
    refine pure_ (i := 22) (N := some 71) (v := ?_) (a' := ?_) #[true, true, true, true, true, true, true, true, true, true, true, true, true, true, true, true, true, true, true, true, true, true, true, false, false, false, false] rfl rfl (by kernel_rfl) (fun _ _ _ h => h) (Or.inl ⟨by rfl, ?_⟩) ?_ ?_
    rotate_left
    · intro w'
      go_simp
      with_reducible rfl
    rotate_left
    · simp only [Act.put, List.setIfInBounds_toArray, List.set_cons_zero, List.set_cons_succ, i64_w, i32_w]
      rfl
    refine pure_ (i := 23) (N := some 72) (v := ?_) (a' := ?_) #[true, true, true, true, true, true, true, true, true, true, true, true, true, true, true, true, true, true, true, true, true, true, true, true, false, false, false] rfl rfl (by kernel_rfl) (fun _ _ _ h => h) (Or.inl ⟨by rfl, ?_⟩) ?_ ?_
    rotate_left
    · intro w'
      go_simp
      with_reducible rfl
    rotate_left
    · simp only [Act.put, List.setIfInBounds_toArray, List.set_cons_zero, List.set_cons_succ, i64_w, i32_w]
      rfl
    refine one_ (i := 24) (N := some 73) #[true, true, true, true, true, true, true, true, true, true, true, true, true, true, true, true, true, true, true, true, true, true, true, true, true, false, false] rfl rfl (by kernel_rfl) (by decide) (fun K hK => ?_)
    refine goes_ Try.func85 (by kernel_rfl) rfl #[] (by rfl) rfl rfl (by simp only [List.map_toArray, List.map_nil]) ?_
    with_reducible refine (works31.calls _).mono ?_
    rintro e w24_ ⟨rfl, hB⟩
    refine ⟨_, rfl, ?_⟩
    have HBK := Aside0.mk hB
    clear hB
    have HBW := Aside0.mk (HBW.out.trans (HBK.out.mono HBW.out.size))
    have HT := Aside0.mk (rtK_below HT.out HBK.out)
    refine hK.out _ _ ⟨(pw_cell_below HBK.out hHeld.1), (pw_cell_below HBK.out hHeld.2.1), (pw_cell_below HBK.out hHeld.2.2.1), (pw_cell_below HBK.out hHeld.2.2.2.1), (pw_cell_below HBK.out hHeld.2.2.2.2.1), (pw_cell_below HBK.out hHeld.2.2.2.2.2.1), (pw_cell_below HBK.out hHeld.2.2.2.2.2.2.1), (pw_cell_below HBK.out hHeld.2.2.2.2.2.2.2.1), (pw_cell_below HBK.out hHeld.2.2.2.2.2.2.2.2.1), (pw_cell_below HBK.out hHeld.2.2.2.2.2.2.2.2.2.1), (pw_cell_below HBK.out hHeld.2.2.2.2.2.2.2.2.2.2.1), (pw_cell_below HBK.out hHeld.2.2.2.2.2.2.2.2.2.2.2.1), (pw_cell_below HBK.out hHeld.2.2.2.2.2.2.2.2.2.2.2.2.1), (pw_cell_below HBK.out hHeld.2.2.2.2.2.2.2.2.2.2.2.2.2.1), (pw_cell_below HBK.out hHeld.2.2.2.2.2.2.2.2.2.2.2.2.2.2.1), (pw_cell_below HBK.out hHeld.2.2.2.2.2.2.2.2.2.2.2.2.2.2.2.1), (pw_cell_below HBK.out hHeld.2.2.2.2.2.2.2.2.2.2.2.2.2.2.2.2)⟩ (fun hHeld => ?_)
    clear hK K
    refine norm_ (a' := ?_) ?_ ?_
    rotate_left
    · show Act.put _ (some 73) _ = _
      simp only [Act.put, List.setIfInBounds_toArray, List.set_cons_zero, List.set_cons_succ, i64_w, i32_w]
      rfl
    refine pure_ (i := 25) (N := some 74) (v := ?_) (a' := ?_) #[true, true, true, true, true, true, true, true, true, true, true, true, true, true, true, true, true, true, true, true, true, true, true, true, true, true, false] rfl rfl (by kernel_rfl) (fun _ _ _ h => h) (Or.inl ⟨by rfl, ?_⟩) ?_ ?_
    rotate_left
    · intro w'
      go_simp
      with_reducible rfl
    rotate_left
    · simp only [Act.put, List.setIfInBounds_toArray, List.set_cons_zero, List.set_cons_succ, i64_w, i32_w]
      rfl
    refine pure_ (i := 26) (N := some 4) (v := ?_) (a' := ?_) #[true, true, true, true, true, true, true, true, true, true, true, true, true, true, true, true, true, true, true, true, true, true, true, true, true, true, true] rfl rfl (by kernel_rfl) (fun _ _ _ h => h) (Or.inl ⟨by rfl, ?_⟩) ?_ ?_
    rotate_left
    · intro w'
      go_simp
      with_reducible rfl
    rotate_left
    · simp only [Act.put, List.setIfInBounds_toArray, List.set_cons_zero, List.set_cons_succ, i64_w, i32_w]
      rfl
    refine done_ (by kernel_rfl) ?_
    go_wp2_with (fail)
    go_ret
    exact ⟨rfl, HBW.out⟩
  · have hl' : (l.length : Int) > 200 := by omega
    go_enter Try.func18, Try.ntmps18
    go_wp2_with (go_at_call 85; refine (works31.calls _).mono ?_; rintro e w1 ⟨rfl, hB⟩; have HB := Aside0.mk hB; clear hB)
    go_ret
    exact ⟨rfl, HB.out⟩
end Go.Proofs.Ytdcelpppgbmlaaa.P
