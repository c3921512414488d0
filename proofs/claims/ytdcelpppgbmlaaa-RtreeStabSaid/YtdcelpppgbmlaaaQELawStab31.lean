/- The law RtreeStab of package bitemporallaw31 answers true. No condition. -/
import Derived.Test.YtdcelpppgbmlaaaQELaw31
namespace Go.Proofs.Ytdcelpppgbmlaaa.P
open Go.RowKit Go.Shelf Go.Proofs.YtdcelpppgbmlaaaW.PrintWords Go.Proofs.YtdcelpppgbmlaaaW.PrintLast Go.Proofs.YtdcelpppgbmlaaaW.PrintMore
set_option linter.unusedSimpArgs false
set_option linter.unusedVariables false
attribute [local go_sem high] eqA41
set_option maxHeartbeats 4000000 in
set_option maxRecDepth 100000 in
theorem L31_RtreeStab.calls (A0 : Option Addr) (c0 : Nat) (l : List S51) (wd : Int) (va sy : Int) (hwf : ∀ b ∈ l, (Lit.int .i64 b.f1).wf = true) (w : World) (hr0 : Kd.C k51 w A0 l.length l) (hc0 : l.length ≤ c0) :
    Calls Try.prog 20 #[.slice A0 l.length c0, .int .i64 wd, .int .i64 va, .int .i64 sy] w fun e w' => e = .returned (.bool true) ∧ Below w.heap.size w w' := by
  by_cases hl : l.length ≤ 200
  · have hl' : ¬ (l.length : Int) > 200 := by omega
    have HR := Aside0.mk hr0
    have HWF := Aside0.mk hwf
    have HL := Aside0.mk hl
    have HBW : Aside0 (Below w.heap.size w w) := ⟨Below.refl _ _⟩
    clear hr0 hwf hl
    go_enter Try.func20, Try.ntmps20
    go_wp2_with (first
      | (go_at_call 56; refine (rtree_Build.calls A0 c0 l wd (Nat.lt_of_le_of_lt HL.out (by decide)) HWF.out _ (Kd.C_below HR.out HBW.out) hc0).mono ?_; rintro e w1 ⟨v, rfl, hT, hB⟩; obtain ⟨p, rfl⟩ := rtK_ptr hT; have HBW := Aside0.mk (HBW.out.trans (hB.mono HBW.out.size)); have HB1 := Aside0.mk hB; have HT := Aside0.mk hT; clear hB hT)
      | (go_at_call 86; refine (ref_Build A0 c0 l wd HL.out _ (Kd.C_below HR.out HBW.out) hc0).mono ?_; rintro e w2 ⟨⟨A1, c1, A4, c4, A5, c5, rfl, hcc, hX⟩, hB⟩; have HBW := Aside0.mk (HBW.out.trans (hB.mono HBW.out.size)); have HB2 := Aside0.mk hB; have HT := Aside0.mk (rtK_below HT.out hB); have HX := Aside0.mk hX; have HCC := Aside0.mk hcc; clear hB hX hcc)
      | fail)
    obtain ⟨W0, hW0⟩ : ∃ W0, W0 = w2.alloc (.cells #[.int .i64 (refOf l wd).wd, .slice A1 (refOf l wd).bx.length c1, .int .i64 (refOf l wd).root.f0.f0.f0, .int .i64 (refOf l wd).root.f0.f0.f1, .int .i64 (refOf l wd).root.f0.f1.f0, .int .i64 (refOf l wd).root.f0.f1.f1, .slice A4 (refOf l wd).root.f1.length c4, .slice A5 (refOf l wd).root.f2.length c5, .int .i64 ((refOf l wd).dp : Int)] 76) := ⟨_, rfl⟩
    rw [← hW0]
    obtain ⟨gx, hgx⟩ : ∃ gx, gx = w2.heap.size := ⟨_, rfl⟩
    rw [← hgx]
    have hP : W0.heap[gx]? = some (.cells #[.int .i64 (refOf l wd).wd, .slice A1 (refOf l wd).bx.length c1, .int .i64 (refOf l wd).root.f0.f0.f0, .int .i64 (refOf l wd).root.f0.f0.f1, .int .i64 (refOf l wd).root.f0.f1.f0, .int .i64 (refOf l wd).root.f0.f1.f1, .slice A4 (refOf l wd).root.f1.length c4, .slice A5 (refOf l wd).root.f2.length c5, .int .i64 ((refOf l wd).dp : Int)] 76 (0, 0)) := by rw [hW0, hgx]; exact blk_new w2 _
    have hB6 : Below w2.heap.size w2 W0 := by rw [hW0]; exact below_alloc (Below.refl _ _) _
    have hB7 := hB6.trans (below_drew (Below.refl w2.heap.size W0))
    have HOK := Aside0.mk (ok31 HL.out wd)
    have p0 : W0.drew.cell? ⟨gx, 0, none⟩ = some (.int .i64 (refOf l wd).wd) := (blk_cell hP 0).trans rfl
    have p1 : W0.drew.cell? ⟨gx, 1, none⟩ = some (.slice A1 (refOf l wd).bx.length c1) := (blk_cell hP 1).trans rfl
    have p2 : W0.drew.cell? ⟨gx, 2, none⟩ = some (.int .i64 (refOf l wd).root.f0.f0.f0) := (blk_cell hP 2).trans rfl
    have p3 : W0.drew.cell? ⟨gx, 3, none⟩ = some (.int .i64 (refOf l wd).root.f0.f0.f1) := (blk_cell hP 3).trans rfl
    have p4 : W0.drew.cell? ⟨gx, 4, none⟩ = some (.int .i64 (refOf l wd).root.f0.f1.f0) := (blk_cell hP 4).trans rfl
    have p5 : W0.drew.cell? ⟨gx, 5, none⟩ = some (.int .i64 (refOf l wd).root.f0.f1.f1) := (blk_cell hP 5).trans rfl
    have p6 : W0.drew.cell? ⟨gx, 6, none⟩ = some (.slice A4 (refOf l wd).root.f1.length c4) := (blk_cell hP 6).trans rfl
    have p7 : W0.drew.cell? ⟨gx, 7, none⟩ = some (.slice A5 (refOf l wd).root.f2.length c5) := (blk_cell hP 7).trans rfl
    have p8 : W0.drew.cell? ⟨gx, 8, none⟩ = some (.int .i64 ((refOf l wd).dp : Int)) := (blk_cell hP 8).trans rfl
    have HT := Aside0.mk (rtK_below HT.out hB7)
    have HX := Aside0.mk (refC_below HX.out hB7)
    have HBW := Aside0.mk (HBW.out.trans (hB7.mono HBW.out.size))
    clear hW0 hgx hP hB6 hB7
    refine start_ (n := 18) (S := fun w' => w'.cell? ⟨gx, 0, none⟩ = some (.int .i64 (refOf l wd).wd) ∧ w'.cell? ⟨gx, 1, none⟩ = some (.slice A1 (refOf l wd).bx.length c1) ∧ w'.cell? ⟨gx, 2, none⟩ = some (.int .i64 (refOf l wd).root.f0.f0.f0) ∧ w'.cell? ⟨gx, 3, none⟩ = some (.int .i64 (refOf l wd).root.f0.f0.f1) ∧ w'.cell? ⟨gx, 4, none⟩ = some (.int .i64 (refOf l wd).root.f0.f1.f0) ∧ w'.cell? ⟨gx, 5, none⟩ = some (.int .i64 (refOf l wd).root.f0.f1.f1) ∧ w'.cell? ⟨gx, 6, none⟩ = some (.slice A4 (refOf l wd).root.f1.length c4) ∧ w'.cell? ⟨gx, 7, none⟩ = some (.slice A5 (refOf l wd).root.f2.length c5) ∧ w'.cell? ⟨gx, 8, none⟩ = some (.int .i64 ((refOf l wd).dp : Int))) (ds := []) #[false, false, false, false, false, false, false, false, false, false, false, false, false, false, false, false, false, false] (by kernel_rfl) rfl rfl ⟨p0, p1, p2, p3, p4, p5, p6, p7, p8⟩ (fun hHeld => ?_)
    refine pure_ (i := 0) (N := some 29) (v := ?_) (a' := ?_) #[true, false, false, false, false, false, false, false, false, false, false, false, false, false, false, false, false, false] rfl rfl (by kernel_rfl) (fun _ _ _ h => h) (Or.inl ⟨by rfl, ?_⟩) ?_ ?_
    rotate_left
    · intro w'
      go_simp
      with_reducible rfl
    rotate_left
    · simp only [Act.put, List.setIfInBounds_toArray, List.set_cons_zero, List.set_cons_succ, i64_w, i32_w]
      rfl
    refine pure_ (i := 1) (N := some 30) (v := ?_) (a' := ?_) #[true, true, false, false, false, false, false, false, false, false, false, false, false, false, false, false, false, false] rfl rfl (by kernel_rfl) (fun _ _ _ h => h) (Or.inl ⟨by rfl, ?_⟩) ?_ ?_
    rotate_left
    · intro w'
      go_simp
      with_reducible rfl
    rotate_left
    · simp only [Act.put, List.setIfInBounds_toArray, List.set_cons_zero, List.set_cons_succ, i64_w, i32_w]
      rfl
    refine pure_ (i := 2) (N := some 31) (v := ?_) (a' := ?_) #[true, true, true, false, false, false, false, false, false, false, false, false, false, false, false, false, false, false] rfl rfl (by kernel_rfl) (fun _ _ _ h => h) (Or.inl ⟨by rfl, ?_⟩) ?_ ?_
    rotate_left
    · intro w'
      go_simp
      with_reducible rfl
    rotate_left
    · simp only [Act.put, List.setIfInBounds_toArray, List.set_cons_zero, List.set_cons_succ, i64_w, i32_w]
      rfl
    refine pure_ (i := 3) (N := some 32) (v := ?_) (a' := ?_) #[true, true, true, true, false, false, false, false, false, false, false, false, false, false, false, false, false, false] rfl rfl (by kernel_rfl) (fun _ _ _ h => h) (Or.inl ⟨by rfl, ?_⟩) ?_ ?_
    rotate_left
    · intro w'
      go_simp
      with_reducible rfl
    rotate_left
    · simp only [Act.put, List.setIfInBounds_toArray, List.set_cons_zero, List.set_cons_succ, i64_w, i32_w]
      rfl
    refine pure_ (i := 4) (N := some 33) (v := ?_) (a' := ?_) #[true, true, true, true, true, false, false, false, false, false, false, false, false, false, false, false, false, false] rfl rfl (by kernel_rfl) (fun _ _ _ h => h) (Or.inl ⟨by rfl, ?_⟩) ?_ ?_
    rotate_left
    · intro w'
      go_simp
      with_reducible rfl
    rotate_left
    · simp only [Act.put, List.setIfInBounds_toArray, List.set_cons_zero, List.set_cons_succ, i64_w, i32_w]
      rfl
    refine pure_ (i := 5) (N := some 34) (v := ?_) (a' := ?_) #[true, true, true, true, true, true, false, false, false, false, false, false, false, false, false, false, false, false] rfl rfl (by kernel_rfl) (fun _ _ _ h => h) (Or.inl ⟨by rfl, ?_⟩) ?_ ?_
    rotate_left
    · intro w'
      go_simp
      with_reducible rfl
    rotate_left
    · simp only [Act.put, List.setIfInBounds_toArray, List.set_cons_zero, List.set_cons_succ, i64_w, i32_w]
      rfl
    refine pure_ (i := 6) (N := some 35) (v := ?_) (a' := ?_) #[true, true, true, true, true, true, true, false, false, false, false, false, false, false, false, false, false, false] rfl rfl (by kernel_rfl) (fun _ _ _ h => h) (Or.inl ⟨by rfl, ?_⟩) ?_ ?_
    rotate_left
    · intro w'
      go_simp
      with_reducible rfl
    rotate_left
    · simp only [Act.put, List.setIfInBounds_toArray, List.set_cons_zero, List.set_cons_succ, i64_w, i32_w]
      rfl
    refine pure_ (i := 9) (N := some 38) (v := ?_) (a' := ?_) #[true, true, true, true, true, true, true, false, false, true, false, false, false, false, false, false, false, false] rfl rfl (by kernel_rfl) (fun _ _ _ h => h) (Or.inl ⟨by rfl, ?_⟩) ?_ ?_
    rotate_left
    · intro w'
      go_simp
      with_reducible rfl
    rotate_left
    · simp only [Act.put, List.setIfInBounds_toArray, List.set_cons_zero, List.set_cons_succ, i64_w, i32_w]
      rfl
    refine pure_ (i := 10) (N := some 39) (v := ?_) (a' := ?_) #[true, true, true, true, true, true, true, false, false, true, true, false, false, false, false, false, false, false] rfl rfl (by kernel_rfl) (fun _ _ _ h => h) (Or.inl ⟨by rfl, ?_⟩) ?_ ?_
    rotate_left
    · intro w'
      go_simp
      with_reducible rfl
    rotate_left
    · simp only [Act.put, List.setIfInBounds_toArray, List.set_cons_zero, List.set_cons_succ, i64_w, i32_w]
      rfl
    refine take_ (i := 8) (N := some 37) (v := ?_) (a' := ?_) #[true, true, true, true, true, true, true, false, true, true, true, false, false, false, false, false, false, false] rfl rfl (by kernel_rfl) (fun _ _ _ h => h) (Or.inl ⟨by rfl, ?_⟩) hHeld ?_ ?_
    rotate_left
    · rintro w' ⟨s0, s1, s2, s3, s4, s5, s6, s7, s8⟩
      go_simp
      with_reducible rfl
    rotate_left
    · simp only [Act.put, List.setIfInBounds_toArray, List.set_cons_zero, List.set_cons_succ, i64_w, i32_w]
      rfl
    refine one_ (i := 7) (N := some 36) #[true, true, true, true, true, true, true, true, true, true, true, false, false, false, false, false, false, false] rfl rfl (by kernel_rfl) (by decide) (fun K hK => ?_)
    refine goes_ Try.func95 (by kernel_rfl) rfl #[.pointer p, .int .i64 va, .int .i64 sy] (by rfl) rfl rfl (by simp only [List.map_toArray, List.map_cons, List.map_nil]; rfl) ?_
    with_reducible refine (stab_calls _ (rtOf l wd) HOK.out va sy _ HT.out).mono ?_
    rintro e w7_ ⟨⟨A_, c_, rfl, hc_, hC_⟩, hB⟩
    refine ⟨_, rfl, ?_⟩
    have HBK := Aside0.mk hB
    clear hB
    have HBW := Aside0.mk (HBW.out.trans (HBK.out.mono HBW.out.size))
    have HT := Aside0.mk (rtK_below HT.out HBK.out)
    have HX := Aside0.mk (refC_below HX.out HBK.out)
    have HS := Aside0.mk (And.intro hc_ hC_)
    clear hc_ hC_
    refine hK.out _ _ ⟨(pw_cell_below HBK.out hHeld.1), (pw_cell_below HBK.out hHeld.2.1), (pw_cell_below HBK.out hHeld.2.2.1), (pw_cell_below HBK.out hHeld.2.2.2.1), (pw_cell_below HBK.out hHeld.2.2.2.2.1), (pw_cell_below HBK.out hHeld.2.2.2.2.2.1), (pw_cell_below HBK.out hHeld.2.2.2.2.2.2.1), (pw_cell_below HBK.out hHeld.2.2.2.2.2.2.2.1), (pw_cell_below HBK.out hHeld.2.2.2.2.2.2.2.2)⟩ (fun hHeld => ?_)
    clear hK K
    refine norm_ (a' := ?_) ?_ ?_
    rotate_left
    · show Act.put _ (some 36) _ = _
      simp only [Act.put, List.setIfInBounds_toArray, List.set_cons_zero, List.set_cons_succ, i64_w, i32_w]
      rfl
    refine one_ (i := 11) (N := some 40) #[true, true, true, true, true, true, true, true, true, true, true, true, false, false, false, false, false, false] rfl rfl (by kernel_rfl) (by decide) (fun K hK => ?_)
    refine goes_ Try.func96 (by kernel_rfl) rfl #[.agg #[.int .i64 (refOf l wd).wd, .slice A1 (refOf l wd).bx.length c1, .int .i64 (refOf l wd).root.f0.f0.f0, .int .i64 (refOf l wd).root.f0.f0.f1, .int .i64 (refOf l wd).root.f0.f1.f0, .int .i64 (refOf l wd).root.f0.f1.f1, .slice A4 (refOf l wd).root.f1.length c4, .slice A5 (refOf l wd).root.f2.length c5, .int .i64 ((refOf l wd).dp : Int)], .int .i64 va, .int .i64 sy] (by rfl) rfl rfl (by simp only [List.map_toArray, List.map_cons, List.map_nil]; rfl) ?_
    with_reducible refine (ref96 HL.out wd va sy A1 c1 A4 c4 A5 c5 _ HCC.out HX.out).mono ?_
    rintro e w11_ ⟨⟨B_, d_, rfl, hc_, hC_⟩, hB⟩
    refine ⟨_, rfl, ?_⟩
    have HBK := Aside0.mk hB
    clear hB
    have HBW := Aside0.mk (HBW.out.trans (HBK.out.mono HBW.out.size))
    have HT := Aside0.mk (rtK_below HT.out HBK.out)
    have HX := Aside0.mk (refC_below HX.out HBK.out)
    have HS := Aside0.mk (row_below HS.out HBK.out)
    have HS2 := Aside0.mk (And.intro hc_ hC_)
    clear hc_ hC_
    refine hK.out _ _ ⟨(pw_cell_below HBK.out hHeld.1), (pw_cell_below HBK.out hHeld.2.1), (pw_cell_below HBK.out hHeld.2.2.1), (pw_cell_below HBK.out hHeld.2.2.2.1), (pw_cell_below HBK.out hHeld.2.2.2.2.1), (pw_cell_below HBK.out hHeld.2.2.2.2.2.1), (pw_cell_below HBK.out hHeld.2.2.2.2.2.2.1), (pw_cell_below HBK.out hHeld.2.2.2.2.2.2.2.1), (pw_cell_below HBK.out hHeld.2.2.2.2.2.2.2.2)⟩ (fun hHeld => ?_)
    clear hK K
    refine norm_ (a' := ?_) ?_ ?_
    rotate_left
    · show Act.put _ (some 40) _ = _
      simp only [Act.put, List.setIfInBounds_toArray, List.set_cons_zero, List.set_cons_succ, i64_w, i32_w]
      rfl
    refine one_ (i := 12) (N := some 41) #[true, true, true, true, true, true, true, true, true, true, true, true, true, false, false, false, false, false] rfl rfl (by kernel_rfl) (by decide) (fun K hK => ?_)
    refine goes_ Try.func91 (by kernel_rfl) rfl #[.slice A_ (rtStab (rtOf l wd) va sy).length c_, .slice B_ (rtStab (rtOf l wd) va sy).length d_] (by rfl) rfl rfl (by simp only [List.map_toArray, List.map_cons, List.map_nil]; rfl) ?_
    with_reducible refine (ints_same _ (HOK.out.stab_len va sy) A_ c_ B_ d_ _ HS.out HS2.out).mono ?_
    rintro e w12_ ⟨rfl, hB⟩
    refine ⟨_, rfl, ?_⟩
    have HBK := Aside0.mk hB
    clear hB
    have HBW := Aside0.mk (HBW.out.trans (HBK.out.mono HBW.out.size))
    have HT := Aside0.mk (rtK_below HT.out HBK.out)
    have HX := Aside0.mk (refC_below HX.out HBK.out)
    refine hK.out _ _ ⟨(pw_cell_below HBK.out hHeld.1), (pw_cell_below HBK.out hHeld.2.1), (pw_cell_below HBK.out hHeld.2.2.1), (pw_cell_below HBK.out hHeld.2.2.2.1), (pw_cell_below HBK.out hHeld.2.2.2.2.1), (pw_cell_below HBK.out hHeld.2.2.2.2.2.1), (pw_cell_below HBK.out hHeld.2.2.2.2.2.2.1), (pw_cell_below HBK.out hHeld.2.2.2.2.2.2.2.1), (pw_cell_below HBK.out hHeld.2.2.2.2.2.2.2.2)⟩ (fun hHeld => ?_)
    clear hK K
    refine norm_ (a' := ?_) ?_ ?_
    rotate_left
    · show Act.put _ (some 41) _ = _
      simp only [Act.put, List.setIfInBounds_toArray, List.set_cons_zero, List.set_cons_succ, i64_w, i32_w]
      rfl
    refine pure_ (i := 13) (N := some 42) (v := ?_) (a' := ?_) #[true, true, true, true, true, true, true, true, true, true, true, true, true, true, false, false, false, false] rfl rfl (by kernel_rfl) (fun _ _ _ h => h) (Or.inl ⟨by rfl, ?_⟩) ?_ ?_
    rotate_left
    · intro w'
      go_simp
      with_reducible rfl
    rotate_left
    · simp only [Act.put, List.setIfInBounds_toArray, List.set_cons_zero, List.set_cons_succ, i64_w, i32_w]
      rfl
    refine pure_ (i := 14) (N := some 43) (v := ?_) (a' := ?_) #[true, true, true, true, true, true, true, true, true, true, true, true, true, true, true, false, false, false] rfl rfl (by kernel_rfl) (fun _ _ _ h => h) (Or.inl ⟨by rfl, ?_⟩) ?_ ?_
    rotate_left
    · intro w'
      go_simp
      with_reducible rfl
    rotate_left
    · simp only [Act.put, List.setIfInBounds_toArray, List.set_cons_zero, List.set_cons_succ, i64_w, i32_w]
      rfl
    refine one_ (i := 15) (N := some 44) #[true, true, true, true, true, true, true, true, true, true, true, true, true, true, true, true, false, false] rfl rfl (by kernel_rfl) (by decide) (fun K hK => ?_)
    refine goes_ Try.func85 (by kernel_rfl) rfl #[] (by rfl) rfl rfl (by simp only [List.map_toArray, List.map_nil]) ?_
    with_reducible refine (works31.calls _).mono ?_
    rintro e w15_ ⟨rfl, hB⟩
    refine ⟨_, rfl, ?_⟩
    have HBK := Aside0.mk hB
    clear hB
    have HBW := Aside0.mk (HBW.out.trans (HBK.out.mono HBW.out.size))
    have HT := Aside0.mk (rtK_below HT.out HBK.out)
    have HX := Aside0.mk (refC_below HX.out HBK.out)
    refine hK.out _ _ ⟨(pw_cell_below HBK.out hHeld.1), (pw_cell_below HBK.out hHeld.2.1), (pw_cell_below HBK.out hHeld.2.2.1), (pw_cell_below HBK.out hHeld.2.2.2.1), (pw_cell_below HBK.out hHeld.2.2.2.2.1), (pw_cell_below HBK.out hHeld.2.2.2.2.2.1), (pw_cell_below HBK.out hHeld.2.2.2.2.2.2.1), (pw_cell_below HBK.out hHeld.2.2.2.2.2.2.2.1), (pw_cell_below HBK.out hHeld.2.2.2.2.2.2.2.2)⟩ (fun hHeld => ?_)
    clear hK K
    refine norm_ (a' := ?_) ?_ ?_
    rotate_left
    · show Act.put _ (some 44) _ = _
      simp only [Act.put, List.setIfInBounds_toArray, List.set_cons_zero, List.set_cons_succ, i64_w, i32_w]
      rfl
    refine pure_ (i := 16) (N := some 45) (v := ?_) (a' := ?_) #[true, true, true, true, true, true, true, true, true, true, true, true, true, true, true, true, true, false] rfl rfl (by kernel_rfl) (fun _ _ _ h => h) (Or.inl ⟨by rfl, ?_⟩) ?_ ?_
    rotate_left
    · intro w'
      go_simp
      with_reducible rfl
    rotate_left
    · simp only [Act.put, List.setIfInBounds_toArray, List.set_cons_zero, List.set_cons_succ, i64_w, i32_w]
      rfl
    refine pure_ (i := 17) (N := some 8) (v := ?_) (a' := ?_) #[true, true, true, true, true, true, true, true, true, true, true, true, true, true, true, true, true, true] rfl rfl (by kernel_rfl) (fun _ _ _ h => h) (Or.inl ⟨by rfl, ?_⟩) ?_ ?_
    rotate_left
    · intro w'
      go_simp
      with_reducible rfl
    rotate_left
    · simp only [Act.put, List.setIfInBounds_toArray, List.set_cons_zero, List.set_cons_succ, i64_w, i32_w]
      rfl
    refine done_ (by kernel_rfl) ?_
    go_wp2_with (fail)
    go_ret
    exact ⟨rfl, HBW.out⟩
  · have hl' : (l.length : Int) > 200 := by omega
    go_enter Try.func20, Try.ntmps20
    go_wp2_with (go_at_call 85; refine (works31.calls _).mono ?_; rintro e w1 ⟨rfl, hB⟩; have HB := Aside0.mk hB; clear hB)
    go_ret
    exact ⟨rfl, HB.out⟩
end Go.Proofs.Ytdcelpppgbmlaaa.P
