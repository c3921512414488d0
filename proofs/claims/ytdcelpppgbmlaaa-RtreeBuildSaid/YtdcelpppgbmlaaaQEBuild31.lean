/- bitemporalref31.Build. -/
import Derived.Test.YtdcelpppgbmlaaaQELeaves
import Derived.Test.YtdcelpppgbmlaaaQMAll
import Derived.Test.YtdcelpppgbmlaaaQPRef31a
import Derived.Test.YtdcelpppgbmlaaaQPRef31b
import Derived.Test.YtdcelpppgbmlaaaQPRef31c
import Derived.Test.YtdcelpppgbmlaaaQPRef31d
namespace Go.Proofs.Ytdcelpppgbmlaaa.P
set_option linter.unusedSimpArgs false
set_option linter.unusedVariables false
open Go.RowKit Go.Proofs.YtdcelpppgbmlaaaW.PrintWords Go.Proofs.YtdcelpppgbmlaaaW.PrintLast Go.Proofs.YtdcelpppgbmlaaaW.PrintMore
def treeP (wd : Nat) (l : List S51) : S74 × Nat := if orderedP l = [] then (z74, 0) else climbP wd (leavesP wd (orderedP l)).length (leavesP wd (orderedP l)) 1
set_option maxHeartbeats 8000000 in
set_option maxRecDepth 100000 in
theorem R31_Build.calls_err (A0 : Option Addr) (c0 : Nat) (l : List S51) (wd : Int) (er : Int) (w : World) (hr0 : Kd.C k51 w A0 l.length l) (hc0 : l.length ≤ c0) {kc : Nat} (hc : R31_Check.f kc l wd = some er) (her : er ≠ 0) :
    Calls Try.prog 86 #[.slice A0 l.length c0, .int .i64 wd] w fun e w' => e = .returned (.tuple #[.agg #[.int .i64 0, .slice none 0 0, .int .i64 0, .int .i64 0, .int .i64 0, .int .i64 0, .slice none 0 0, .slice none 0 0, .int .i64 0], .int .i64 er]) ∧ Below w.heap.size w w' := by
  have hu76 := Try.underlying76
  have hu74 := Try.underlying74
  replace hr0 := Aside0.mk hr0
  have hne : (er == 0) = false := by simpa using her
  go_enter Try.func86, Try.ntmps86
  go_wp2_with (go_at_call 135; refine (R31_Check.calls kc _ _ l wd er _ (Kd.C_alloc hr0.out _) hc0 hc).mono ?_; rintro e w1 ⟨rfl, hB1⟩; have hP1 := blk_below (blk_new w (.cells #[.int .i64 0, .slice none 0 0, .int .i64 0, .int .i64 0, .int .i64 0, .int .i64 0, .slice none 0 0, .slice none 0 0, .int .i64 0] 76)) hB1; have q0 : w1.cell? ⟨w.heap.size, 0, none⟩ = some (.int .i64 0) := (blk_cell hP1 0).trans rfl; have f0 : w1.frozen? ⟨w.heap.size, 0, none⟩ = false := blk_frozen hP1 0; have q1 : w1.cell? ⟨w.heap.size, 1, none⟩ = some (.slice none 0 0) := (blk_cell hP1 1).trans rfl; have f1 : w1.frozen? ⟨w.heap.size, 1, none⟩ = false := blk_frozen hP1 1; have q2 : w1.cell? ⟨w.heap.size, 2, none⟩ = some (.int .i64 0) := (blk_cell hP1 2).trans rfl; have f2 : w1.frozen? ⟨w.heap.size, 2, none⟩ = false := blk_frozen hP1 2; have q3 : w1.cell? ⟨w.heap.size, 3, none⟩ = some (.int .i64 0) := (blk_cell hP1 3).trans rfl; have f3 : w1.frozen? ⟨w.heap.size, 3, none⟩ = false := blk_frozen hP1 3; have q4 : w1.cell? ⟨w.heap.size, 4, none⟩ = some (.int .i64 0) := (blk_cell hP1 4).trans rfl; have f4 : w1.frozen? ⟨w.heap.size, 4, none⟩ = false := blk_frozen hP1 4; have q5 : w1.cell? ⟨w.heap.size, 5, none⟩ = some (.int .i64 0) := (blk_cell hP1 5).trans rfl; have f5 : w1.frozen? ⟨w.heap.size, 5, none⟩ = false := blk_frozen hP1 5; have q6 : w1.cell? ⟨w.heap.size, 6, none⟩ = some (.slice none 0 0) := (blk_cell hP1 6).trans rfl; have f6 : w1.frozen? ⟨w.heap.size, 6, none⟩ = false := blk_frozen hP1 6; have q7 : w1.cell? ⟨w.heap.size, 7, none⟩ = some (.slice none 0 0) := (blk_cell hP1 7).trans rfl; have f7 : w1.frozen? ⟨w.heap.size, 7, none⟩ = false := blk_frozen hP1 7; have q8 : w1.cell? ⟨w.heap.size, 8, none⟩ = some (.int .i64 0) := (blk_cell hP1 8).trans rfl; have f8 : w1.frozen? ⟨w.heap.size, 8, none⟩ = false := blk_frozen hP1 8; have HP1 := Aside0.mk hP1; have HB1 := Aside0.mk hB1; clear hP1 hB1)
  have hB : Below w.heap.size w w1 := below_step (below_alloc (Below.refl _ _) _) HB1.out
  refine bodyPost_ret (results_ct rfl _ _ w.heap.size 76 #[.int .i64 0, .slice none 0 0, .int .i64 0, .int .i64 0, .int .i64 0, .int .i64 0, .slice none 0 0, .slice none 0 0, .int .i64 0] (0, 0) _ rfl (blk_set (blk_set (blk_set (blk_set (blk_set (blk_set (blk_set (blk_set (blk_set HP1.out 0 _) 1 _) 2 _) 3 _) 4 _) 5 _) 6 _) 7 _) 8 _) hu76 rfl (by kernel_rfl)) rfl ?_
  exact ⟨rfl, (((((((((hB.setCell (p := ⟨w.heap.size, 0, none⟩) (Nat.le_refl _) _).setCell (p := ⟨w.heap.size, 1, none⟩) (Nat.le_refl _) _).setCell (p := ⟨w.heap.size, 2, none⟩) (Nat.le_refl _) _).setCell (p := ⟨w.heap.size, 3, none⟩) (Nat.le_refl _) _).setCell (p := ⟨w.heap.size, 4, none⟩) (Nat.le_refl _) _).setCell (p := ⟨w.heap.size, 5, none⟩) (Nat.le_refl _) _).setCell (p := ⟨w.heap.size, 6, none⟩) (Nat.le_refl _) _).setCell (p := ⟨w.heap.size, 7, none⟩) (Nat.le_refl _) _).setCell (p := ⟨w.heap.size, 8, none⟩) (Nat.le_refl _) _)⟩
theorem k74_openF {W : World} {ok : Nat → Prop} {x : S74} {cs : List Value} (h : Kd.FK k74 W ok x cs) : ∃ A4 c4 A5 c5, cs = [.int .i64 x.f0.f0.f0, .int .i64 x.f0.f0.f1, .int .i64 x.f0.f1.f0, .int .i64 x.f0.f1.f1, .slice A4 x.f1.length c4, .slice A5 x.f2.length c5] ∧ x.f1.length ≤ c4 ∧ Kd.F k51 W ok A4 x.f1.length x.f1 ∧ x.f2.length ≤ c5 ∧ Kd.F k74 W ok A5 x.f2.length x.f2 := by
  obtain ⟨A4, c4, A5, c5, e, l4, g4, l5, g5⟩ := k74_open (Kd.FK_now h)
  refine ⟨A4, c4, A5, c5, e, l4, fun W' hW => ?_, l5, fun W' hW => ?_⟩
  · obtain ⟨B4, d4, B5, d5, e', _, h4, _, _⟩ := k74_open (h W' hW)
    rw [e] at e'
    simp only [List.cons.injEq, Value.slice.injEq, and_true, true_and] at e'
    rw [e'.1.1]
    exact h4
  · obtain ⟨B4, d4, B5, d5, e', _, _, _, h5⟩ := k74_open (h W' hW)
    rw [e] at e'
    simp only [List.cons.injEq, Value.slice.injEq, and_true, true_and] at e'
    rw [e'.2.1]
    exact h5
theorem at_F74 {w : World} {ok : Nat → Prop} {A : Option Addr} {n : Nat} {xs : List S74} (h : Kd.F k74 w ok A n xs) (i : Int) (h0 : 0 ≤ i) (h1 : i < n) : ∃ ad A4 c4 A5 c5, A = some ad ∧ w.cell? (ad.add (i.toNat * 6)) = some (.int .i64 (rd_T74 xs i).f0.f0.f0) ∧ w.cell? ⟨(ad.add (i.toNat * 6)).block, (ad.add (i.toNat * 6)).off + 1, none⟩ = some (.int .i64 (rd_T74 xs i).f0.f0.f1) ∧ w.cell? ⟨(ad.add (i.toNat * 6)).block, (ad.add (i.toNat * 6)).off + 2, none⟩ = some (.int .i64 (rd_T74 xs i).f0.f1.f0) ∧ w.cell? ⟨(ad.add (i.toNat * 6)).block, (ad.add (i.toNat * 6)).off + 3, none⟩ = some (.int .i64 (rd_T74 xs i).f0.f1.f1) ∧ w.cell? ⟨(ad.add (i.toNat * 6)).block, (ad.add (i.toNat * 6)).off + 4, none⟩ = some (.slice A4 (rd_T74 xs i).f1.length c4) ∧ w.cell? ⟨(ad.add (i.toNat * 6)).block, (ad.add (i.toNat * 6)).off + 5, none⟩ = some (.slice A5 (rd_T74 xs i).f2.length c5) ∧ (rd_T74 xs i).f1.length ≤ c4 ∧ Kd.F k51 w ok A4 (rd_T74 xs i).f1.length (rd_T74 xs i).f1 ∧ (rd_T74 xs i).f2.length ≤ c5 ∧ Kd.F k74 w ok A5 (rd_T74 xs i).f2.length (rd_T74 xs i).f2 := by
  obtain ⟨ad, c, e, _, hK, hc, _⟩ := Kd.F_get h z74 i h0 h1
  obtain ⟨A4, c4, A5, c5, rfl, l4, g4, l5, g5⟩ := k74_openF hK
  have hc' : ∀ j u, ([.int .i64 (rd_T74 xs i).f0.f0.f0, .int .i64 (rd_T74 xs i).f0.f0.f1, .int .i64 (rd_T74 xs i).f0.f1.f0, .int .i64 (rd_T74 xs i).f0.f1.f1, .slice A4 (rd_T74 xs i).f1.length c4, .slice A5 (rd_T74 xs i).f2.length c5] : List Value)[j]? = some u → w.cell? (ad.add (i.toNat * 6 + j)) = some u := hc
  refine ⟨ad, A4, c4, A5, c5, e, hc' 0 _ rfl, ?_, ?_, ?_, ?_, ?_, l4, g4, l5, g5⟩
  · rw [← add_field ad _ 1 (by omega)]; exact hc' 1 _ rfl
  · rw [← add_field ad _ 2 (by omega)]; exact hc' 2 _ rfl
  · rw [← add_field ad _ 3 (by omega)]; exact hc' 3 _ rfl
  · rw [← add_field ad _ 4 (by omega)]; exact hc' 4 _ rfl
  · rw [← add_field ad _ 5 (by omega)]; exact hc' 5 _ rfl
theorem sets9 (W : World) (g k : Nat) (h : k ≠ g) (v0 v1 v2 v3 v4 v5 v6 v7 v8 : Value) : (((((((((W.setCell ⟨g, 0, none⟩ v0).setCell ⟨g, 1, none⟩ v1).setCell ⟨g, 2, none⟩ v2).setCell ⟨g, 3, none⟩ v3).setCell ⟨g, 4, none⟩ v4).setCell ⟨g, 5, none⟩ v5).setCell ⟨g, 6, none⟩ v6).setCell ⟨g, 7, none⟩ v7).setCell ⟨g, 8, none⟩ v8).heap[k]? = W.heap[k]? := by
  repeat rw [Below.heap_setCell _ _ _ k h]
theorem sets6 (W : World) (g k : Nat) (h : k ≠ g) (v0 v1 v2 v3 v4 v5 : Value) : ((((((W.setCell ⟨g, 2, none⟩ v0).setCell ⟨g, 3, none⟩ v1).setCell ⟨g, 4, none⟩ v2).setCell ⟨g, 5, none⟩ v3).setCell ⟨g, 6, none⟩ v4).setCell ⟨g, 7, none⟩ v5).heap[k]? = W.heap[k]? := by
  repeat rw [Below.heap_setCell _ _ _ k h]
set_option maxHeartbeats 16000000 in
set_option maxRecDepth 100000 in
theorem R31_Build.calls_ok (A0 : Option Addr) (c0 : Nat) (l : List S51) (wd : Nat) (hw1 : 2 ≤ wd) (hw2 : wd ≤ 64) (hl : l.length < 100000) (w : World) (hr0 : Kd.C k51 w A0 l.length l) (hc0 : l.length ≤ c0) {kc ko : Nat} (hc : R31_Check.f kc l (wd : Int) = some 0) (ho : R31_ordered.f ko l = some (orderedP l)) :
    Calls Try.prog 86 #[.slice A0 l.length c0, .int .i64 (wd : Int)] w fun e w' => (∃ A1 c1 A4 c4 A5 c5, e = .returned (.tuple #[.agg #[.int .i64 (wd : Int), .slice A1 (orderedP l).length c1, .int .i64 (treeP wd l).1.f0.f0.f0, .int .i64 (treeP wd l).1.f0.f0.f1, .int .i64 (treeP wd l).1.f0.f1.f0, .int .i64 (treeP wd l).1.f0.f1.f1, .slice A4 (treeP wd l).1.f1.length c4, .slice A5 (treeP wd l).1.f2.length c5, .int .i64 ((treeP wd l).2 : Int)], .int .i64 0]) ∧
      (orderedP l).length ≤ c1 ∧ Kd.C k51 w' A1 (orderedP l).length (orderedP l) ∧ (treeP wd l).1.f1.length ≤ c4 ∧ Kd.C k51 w' A4 (treeP wd l).1.f1.length (treeP wd l).1.f1 ∧ (treeP wd l).1.f2.length ≤ c5 ∧ Kd.C k74 w' A5 (treeP wd l).1.f2.length (treeP wd l).1.f2) ∧ Below w.heap.size w w' := by
  have hu76 := Try.underlying76
  have hu74 := Try.underlying74
  replace hr0 := Aside0.mk hr0
  have HL := Aside0.mk hl
  have HW := Aside0.mk (And.intro hw1 hw2)
  clear hl hw1 hw2
  by_cases hn : l.length = 0
  · have hn0 : ((l.length : Int) == 0) = true := by simp [hn]
    replace hn := Aside0.mk hn
    go_enter Try.func86, Try.ntmps86
    go_wp2_with (first | (go_at_call 135; refine (R31_Check.calls kc _ _ l wd 0 _ (Kd.C_alloc hr0.out _) hc0 hc).mono ?_; rintro e w1 ⟨rfl, hB1⟩; have HP1 := Aside0.mk (blk_below (blk_new w (.cells #[.int .i64 0, .slice none 0 0, .int .i64 0, .int .i64 0, .int .i64 0, .int .i64 0, .slice none 0 0, .slice none 0 0, .int .i64 0] 76)) hB1); have HB1 := Aside0.mk (below_step (below_alloc (Below.refl w.heap.size w) (.cells #[.int .i64 0, .slice none 0 0, .int .i64 0, .int .i64 0, .int .i64 0, .int .i64 0, .slice none 0 0, .slice none 0 0, .int .i64 0] 76)) hB1); clear hB1) | (go_at_call 136; refine (R31_ordered.calls ko _ _ l (orderedP l) _ (Kd.C_below hr0.out HB1.out) hc0 ho).mono ?_; rintro e w2 ⟨v1, rfl, hR1, hB2⟩; obtain ⟨A1, c1, rfl⟩ := Kd.R_slice hR1; have hP2 : ∀ o, (w2.alloc o).heap[w.heap.size]? = some (.cells #[.int .i64 0, .slice none 0 0, .int .i64 0, .int .i64 0, .int .i64 0, .int .i64 0, .slice none 0 0, .slice none 0 0, .int .i64 0] 76 (0, 0)) := fun o => blk_alloc (blk_below HP1.out hB2) o; have q0 : ∀ o, (w2.alloc o).cell? ⟨w.heap.size, 0, none⟩ = some (.int .i64 0) := fun o => (blk_cell (hP2 o) 0).trans rfl; have f0 : ∀ o, (w2.alloc o).frozen? ⟨w.heap.size, 0, none⟩ = false := fun o => blk_frozen (hP2 o) 0; have q1 : ∀ o, (w2.alloc o).cell? ⟨w.heap.size, 1, none⟩ = some (.slice none 0 0) := fun o => (blk_cell (hP2 o) 1).trans rfl; have f1 : ∀ o, (w2.alloc o).frozen? ⟨w.heap.size, 1, none⟩ = false := fun o => blk_frozen (hP2 o) 1; have q2 : ∀ o, (w2.alloc o).cell? ⟨w.heap.size, 2, none⟩ = some (.int .i64 0) := fun o => (blk_cell (hP2 o) 2).trans rfl; have f2 : ∀ o, (w2.alloc o).frozen? ⟨w.heap.size, 2, none⟩ = false := fun o => blk_frozen (hP2 o) 2; have q3 : ∀ o, (w2.alloc o).cell? ⟨w.heap.size, 3, none⟩ = some (.int .i64 0) := fun o => (blk_cell (hP2 o) 3).trans rfl; have f3 : ∀ o, (w2.alloc o).frozen? ⟨w.heap.size, 3, none⟩ = false := fun o => blk_frozen (hP2 o) 3; have q4 : ∀ o, (w2.alloc o).cell? ⟨w.heap.size, 4, none⟩ = some (.int .i64 0) := fun o => (blk_cell (hP2 o) 4).trans rfl; have f4 : ∀ o, (w2.alloc o).frozen? ⟨w.heap.size, 4, none⟩ = false := fun o => blk_frozen (hP2 o) 4; have q5 : ∀ o, (w2.alloc o).cell? ⟨w.heap.size, 5, none⟩ = some (.int .i64 0) := fun o => (blk_cell (hP2 o) 5).trans rfl; have f5 : ∀ o, (w2.alloc o).frozen? ⟨w.heap.size, 5, none⟩ = false := fun o => blk_frozen (hP2 o) 5; have q6 : ∀ o, (w2.alloc o).cell? ⟨w.heap.size, 6, none⟩ = some (.slice none 0 0) := fun o => (blk_cell (hP2 o) 6).trans rfl; have f6 : ∀ o, (w2.alloc o).frozen? ⟨w.heap.size, 6, none⟩ = false := fun o => blk_frozen (hP2 o) 6; have q7 : ∀ o, (w2.alloc o).cell? ⟨w.heap.size, 7, none⟩ = some (.slice none 0 0) := fun o => (blk_cell (hP2 o) 7).trans rfl; have f7 : ∀ o, (w2.alloc o).frozen? ⟨w.heap.size, 7, none⟩ = false := fun o => blk_frozen (hP2 o) 7; have q8 : ∀ o, (w2.alloc o).cell? ⟨w.heap.size, 8, none⟩ = some (.int .i64 0) := fun o => (blk_cell (hP2 o) 8).trans rfl; have f8 : ∀ o, (w2.alloc o).frozen? ⟨w.heap.size, 8, none⟩ = false := fun o => blk_frozen (hP2 o) 8; have HP2 := Aside0.mk hP2; clear hP2; have HR1 := Aside0.mk hR1; have HB2 := Aside0.mk hB2; clear hR1 hB2))
    have hB3 : Below w.heap.size w (w2.alloc (.cells #[.int .i64 (wd : Int), .slice A1 (orderedP l).length c1, .int .i64 0, .int .i64 0, .int .i64 0, .int .i64 0, .slice none 0 0, .slice none 0 0, .int .i64 0] 76)) := below_alloc (below_step HB1.out HB2.out) _
    have HF1 : Kd.F k51 (w2.alloc (.cells #[.int .i64 (wd : Int), .slice A1 (orderedP l).length c1, .int .i64 0, .int .i64 0, .int .i64 0, .int .i64 0, .slice none 0 0, .slice none 0 0, .int .i64 0] 76)) (fun k => (k ≠ w.heap.size) ∧ k < w2.heap.size) A1 (orderedP l).length (orderedP l) := Kd.F_mono (Kd.F_alloc (Kd.N_F (Kd.N_bound (Kd.R_N (Kd.R_types HR1.out (blk_below HP1.out HB2.out) (by decide))))) _) (fun k hk => ⟨hk.1.2, hk.2⟩)
    have hc1 := (Kd.R_reads' HR1.out).2.1
    have hnl : l = [] := List.eq_nil_of_length_eq_zero hn.out
    have e1 : treeP wd l = (z74, 0) := by rw [hnl]; rfl
    refine bodyPost_ret (results_ct rfl _ _ w.heap.size 76 #[.int .i64 (wd : Int), .slice A1 (orderedP l).length c1, .int .i64 0, .int .i64 0, .int .i64 0, .int .i64 0, .slice none 0 0, .slice none 0 0, .int .i64 0] (0, 0) _ rfl (blk_set (blk_set (blk_set (blk_set (blk_set (blk_set (blk_set (blk_set (blk_set (HP2.out _) 0 _) 1 _) 2 _) 3 _) 4 _) 5 _) 6 _) 7 _) 8 _) hu76 rfl (by kernel_rfl)) rfl ?_
    rw [e1]
    exact ⟨⟨A1, c1, none, 0, none, 0, rfl, hc1, Kd.F_now (Kd.F_step HF1 (fun k hk _ => sets9 _ _ k hk.1 _ _ _ _ _ _ _ _ _)), Nat.le_refl _, Kd.C_nil _ _, Nat.le_refl _, Kd.C_nil _ _⟩, (((((((((hB3.setCell (p := ⟨w.heap.size, 0, none⟩) (Nat.le_refl _) _).setCell (p := ⟨w.heap.size, 1, none⟩) (Nat.le_refl _) _).setCell (p := ⟨w.heap.size, 2, none⟩) (Nat.le_refl _) _).setCell (p := ⟨w.heap.size, 3, none⟩) (Nat.le_refl _) _).setCell (p := ⟨w.heap.size, 4, none⟩) (Nat.le_refl _) _).setCell (p := ⟨w.heap.size, 5, none⟩) (Nat.le_refl _) _).setCell (p := ⟨w.heap.size, 6, none⟩) (Nat.le_refl _) _).setCell (p := ⟨w.heap.size, 7, none⟩) (Nat.le_refl _) _).setCell (p := ⟨w.heap.size, 8, none⟩) (Nat.le_refl _) _)⟩
  · have hn0 : ((l.length : Int) == 0) = false := by simp; intro e; exact hn (by rw [e]; rfl)
    replace hn := Aside0.mk hn
    go_enter Try.func86, Try.ntmps86
    go_wp2_with (first | (go_at_call 135; refine (R31_Check.calls kc _ _ l wd 0 _ (Kd.C_alloc hr0.out _) hc0 hc).mono ?_; rintro e w1 ⟨rfl, hB1⟩; have HP1 := Aside0.mk (blk_below (blk_new w (.cells #[.int .i64 0, .slice none 0 0, .int .i64 0, .int .i64 0, .int .i64 0, .int .i64 0, .slice none 0 0, .slice none 0 0, .int .i64 0] 76)) hB1); have HB1 := Aside0.mk (below_step (below_alloc (Below.refl w.heap.size w) (.cells #[.int .i64 0, .slice none 0 0, .int .i64 0, .int .i64 0, .int .i64 0, .int .i64 0, .slice none 0 0, .slice none 0 0, .int .i64 0] 76)) hB1); clear hB1) | (go_at_call 136; refine (R31_ordered.calls ko _ _ l (orderedP l) _ (Kd.C_below hr0.out HB1.out) hc0 ho).mono ?_; rintro e w2 ⟨v1, rfl, hR1, hB2⟩; obtain ⟨A1, c1, rfl⟩ := Kd.R_slice hR1; have hP2 : ∀ o, (w2.alloc o).heap[w.heap.size]? = some (.cells #[.int .i64 0, .slice none 0 0, .int .i64 0, .int .i64 0, .int .i64 0, .int .i64 0, .slice none 0 0, .slice none 0 0, .int .i64 0] 76 (0, 0)) := fun o => blk_alloc (blk_below HP1.out hB2) o; have q0 : ∀ o, (w2.alloc o).cell? ⟨w.heap.size, 0, none⟩ = some (.int .i64 0) := fun o => (blk_cell (hP2 o) 0).trans rfl; have f0 : ∀ o, (w2.alloc o).frozen? ⟨w.heap.size, 0, none⟩ = false := fun o => blk_frozen (hP2 o) 0; have q1 : ∀ o, (w2.alloc o).cell? ⟨w.heap.size, 1, none⟩ = some (.slice none 0 0) := fun o => (blk_cell (hP2 o) 1).trans rfl; have f1 : ∀ o, (w2.alloc o).frozen? ⟨w.heap.size, 1, none⟩ = false := fun o => blk_frozen (hP2 o) 1; have q2 : ∀ o, (w2.alloc o).cell? ⟨w.heap.size, 2, none⟩ = some (.int .i64 0) := fun o => (blk_cell (hP2 o) 2).trans rfl; have f2 : ∀ o, (w2.alloc o).frozen? ⟨w.heap.size, 2, none⟩ = false := fun o => blk_frozen (hP2 o) 2; have q3 : ∀ o, (w2.alloc o).cell? ⟨w.heap.size, 3, none⟩ = some (.int .i64 0) := fun o => (blk_cell (hP2 o) 3).trans rfl; have f3 : ∀ o, (w2.alloc o).frozen? ⟨w.heap.size, 3, none⟩ = false := fun o => blk_frozen (hP2 o) 3; have q4 : ∀ o, (w2.alloc o).cell? ⟨w.heap.size, 4, none⟩ = some (.int .i64 0) := fun o => (blk_cell (hP2 o) 4).trans rfl; have f4 : ∀ o, (w2.alloc o).frozen? ⟨w.heap.size, 4, none⟩ = false := fun o => blk_frozen (hP2 o) 4; have q5 : ∀ o, (w2.alloc o).cell? ⟨w.heap.size, 5, none⟩ = some (.int .i64 0) := fun o => (blk_cell (hP2 o) 5).trans rfl; have f5 : ∀ o, (w2.alloc o).frozen? ⟨w.heap.size, 5, none⟩ = false := fun o => blk_frozen (hP2 o) 5; have q6 : ∀ o, (w2.alloc o).cell? ⟨w.heap.size, 6, none⟩ = some (.slice none 0 0) := fun o => (blk_cell (hP2 o) 6).trans rfl; have f6 : ∀ o, (w2.alloc o).frozen? ⟨w.heap.size, 6, none⟩ = false := fun o => blk_frozen (hP2 o) 6; have q7 : ∀ o, (w2.alloc o).cell? ⟨w.heap.size, 7, none⟩ = some (.slice none 0 0) := fun o => (blk_cell (hP2 o) 7).trans rfl; have f7 : ∀ o, (w2.alloc o).frozen? ⟨w.heap.size, 7, none⟩ = false := fun o => blk_frozen (hP2 o) 7; have q8 : ∀ o, (w2.alloc o).cell? ⟨w.heap.size, 8, none⟩ = some (.int .i64 0) := fun o => (blk_cell (hP2 o) 8).trans rfl; have f8 : ∀ o, (w2.alloc o).frozen? ⟨w.heap.size, 8, none⟩ = false := fun o => blk_frozen (hP2 o) 8; have HP2 := Aside0.mk hP2; clear hP2; have HR1 := Aside0.mk hR1; have HB2 := Aside0.mk hB2; clear hR1 hB2) | (go_at_call 137; refine (R31_leaves.calls (fun k => k ≠ w.heap.size ∧ k ≠ w2.heap.size) A1 c1 (orderedP l) wd (by have := HW.out; omega) (by have := HW.out; omega) (by have := HL.out; rw [(orderedP_law l).2.length_eq]; omega) _ (Kd.F_mono (Kd.F_alloc (Kd.N_F (Kd.N_bound (Kd.R_N (Kd.R_types HR1.out (blk_below HP1.out HB2.out) (by decide))))) _) (fun k hk => ⟨hk.1.2, Nat.ne_of_lt hk.2⟩)) (Kd.R_reads' HR1.out).2.1).mono ?_; rintro e w3 ⟨v8, rfl, hN3, hB3⟩; obtain ⟨A8, c8, rfl⟩ := Kd.N_slice hN3; have hP7 := blk_below (blk_new w2 (.cells #[.int .i64 (wd : Int), .slice A1 (orderedP l).length c1, .int .i64 0, .int .i64 0, .int .i64 0, .int .i64 0, .slice none 0 0, .slice none 0 0, .int .i64 0] 76)) hB3; have q78 : w3.cell? ⟨w2.heap.size, 8, none⟩ = some (.int .i64 0) := (blk_cell hP7 8).trans rfl; have f78 : w3.frozen? ⟨w2.heap.size, 8, none⟩ = false := blk_frozen hP7 8; have HP7 := Aside0.mk hP7; have HN3 := Aside0.mk hN3; have HB3 := Aside0.mk hB3; clear hP7 hN3 hB3))
    have hne : orderedP l ≠ [] := fun e => hn.out (by have h_ := (orderedP_law l).2.length_eq; rw [e] at h_; simpa using h_.symm)
    obtain ⟨W4, hW4⟩ : ∃ W4, W4 = w3.setCell ⟨w2.heap.size, 8, none⟩ (.int .i64 1) := ⟨_, rfl⟩
    rw [← hW4]
    have hg47 : w.heap.size < w2.heap.size := Nat.lt_of_lt_of_le (blk_lt HP1.out) HB2.out.size
    have hg7 : w2.heap.size < w3.heap.size := blk_lt HP7.out
    have hP44 : W4.heap[w.heap.size]? = some (.cells #[.int .i64 0, .slice none 0 0, .int .i64 0, .int .i64 0, .int .i64 0, .int .i64 0, .slice none 0 0, .slice none 0 0, .int .i64 0] 76 (0, 0)) := by rw [hW4]; exact blk_far (blk_below (HP2.out _) HB3.out) (Nat.ne_of_lt hg47) _
    have hP74 : W4.heap[w2.heap.size]? = some (.cells #[.int .i64 (wd : Int), .slice A1 (orderedP l).length c1, .int .i64 0, .int .i64 0, .int .i64 0, .int .i64 0, .slice none 0 0, .slice none 0 0, .int .i64 (1 : Int)] 76 (0, 0)) := by rw [hW4]; exact blk_set HP7.out 8 _
    have hF14 : Kd.F k51 W4 (fun k => k ≠ w.heap.size ∧ k ≠ w2.heap.size) A1 (orderedP l).length (orderedP l) := by
      rw [hW4]
      exact Kd.F_far (Kd.F_below (Kd.F_mono (Kd.F_alloc (Kd.N_F (Kd.N_bound (Kd.R_N (Kd.R_types HR1.out (blk_below HP1.out HB2.out) (by decide))))) _) (fun k hk => ⟨hk.1.2, Nat.ne_of_lt hk.2⟩)) HB3.out) (fun k hk => hk.2) _
    have hF84 : Kd.F k74 W4 (fun k => k ≠ w.heap.size ∧ k ≠ w2.heap.size) A8 (leavesP wd (orderedP l)).length (leavesP wd (orderedP l)) := by
      rw [hW4]
      refine Kd.F_far (Kd.F_mono (Kd.N_F HN3.out) (fun k hk => hk.elim id (fun h => ?_))) (fun k hk => hk.2) _
      have h_ : w2.heap.size + 1 ≤ k := by simpa using h
      exact ⟨by omega, by omega⟩
    have hB4 : Below w.heap.size w W4 := by
      rw [hW4]
      exact ((below_step (below_alloc (below_step HB1.out HB2.out) _) HB3.out).setCell (p := ⟨w2.heap.size, 8, none⟩) (Nat.le_of_lt hg47) _)
    have hc8 := (Kd.N_reads' HN3.out).2.1
    have hc1 := (Kd.R_reads' HR1.out).2.1
    have hlw := HW.out
    have hll := HL.out
    have hlv : (leavesP wd (orderedP l)).length ≤ l.length ∧ leavesP wd (orderedP l) ≠ [] := by
      have h_ := pieces_length (w := wd) (by omega) (orderedP l).length (orderedP l) (Nat.le_refl _)
      have h2_ := (orderedP_law l).2.length_eq
      have h3_ : 0 < (orderedP l).length := List.length_pos_iff.2 hne
      refine ⟨?_, fun e => ?_⟩
      · unfold leavesP; rw [List.length_map]; omega
      · have := congrArg List.length e
        unfold leavesP at this
        rw [List.length_map, List.length_nil] at this
        omega
    have htr : climbP wd (leavesP wd (orderedP l)).length (leavesP wd (orderedP l)) 1 = treeP wd l := by unfold treeP; rw [if_neg hne]
    have HX := Aside0.mk (And.intro hlv htr)
    have hlv1 := hlv.1
    clear hW4 hlv htr hne
    generalize leavesP wd (orderedP l) = lv0 at hF84 HX hc8 hlv1 ⊢
    have HP44 := Aside0.mk hP44
    have HP74 := Aside0.mk hP74
    have HF14 := Aside0.mk hF14
    have HF84 := Aside0.mk hF84
    have HB4 := Aside0.mk hB4
    clear hP44 hP74 hF14 hF84 hB4 q78 f78
    generalize hgg7 : w2.heap.size = g7 at HP74 HF14 HF84 HP44 hg47 ⊢
    generalize hgg4 : w.heap.size = g4 at HP74 HF14 HF84 HP44 hg47 ⊢
    go_loopw [8] (fun v wr => ∃ (A : Option Addr) (c : Nat) (lv : List S74) (d fuel : Nat), v = .slice A lv.length c ∧ lv.length ≤ c ∧ lv.length ≤ 100000 ∧ d + lv.length ≤ 200000 ∧ Aside0 (lv ≠ [] ∧ climbP wd fuel lv d = treeP wd l ∧ lv.length ≤ fuel) ∧ Aside0 (Kd.F k74 wr (fun k => k ≠ g4 ∧ k ≠ g7) A lv.length lv) ∧ Aside0 (Kd.F k51 wr (fun k => k ≠ g4 ∧ k ≠ g7) A1 (orderedP l).length (orderedP l)) ∧ Aside0 (wr.heap[g7]? = some (.cells #[.int .i64 (wd : Int), .slice A1 (orderedP l).length c1, .int .i64 0, .int .i64 0, .int .i64 0, .int .i64 0, .slice none 0 0, .slice none 0 0, .int .i64 (d : Int)] 76 (0, 0))) ∧ Aside0 (wr.heap[g4]? = some (.cells #[.int .i64 0, .slice none 0 0, .int .i64 0, .int .i64 0, .int .i64 0, .int .i64 0, .slice none 0 0, .slice none 0 0, .int .i64 0] 76 (0, 0))) ∧ Aside0 (Below w.heap.size w wr)) (fun v _ => match v with | .slice _ n _ => n | _ => 0)
    case atStart => exact ⟨A8, c8, lv0, 1, lv0.length, rfl, hc8, by omega, by omega, ⟨HX.out.1.2, HX.out.2, Nat.le_refl _⟩, HF84, HF14, HP74, HP44, HB4⟩
    case round =>
      clear HX HF84 HP74 HP44 HF14 HB4 HN3 HP7 HB3 HP2 HP1 HB1 HB2
      obtain ⟨A, c, lv, d, fuel, rfl, hcl, hl1, hl2, hLV, hF, hF1, hP7, hP4, hB⟩ := hrel
      by_cases h1 : 1 < lv.length
      · have h1' : (1 : Int) < (lv.length : Int) := by omega
        obtain ⟨fu, rfl⟩ : ∃ fu, fuel = fu + 1 := ⟨fuel - 1, by have := hLV.out.2.2; omega⟩
        have hpl := pieces_length (w := wd) (by omega) lv.length lv (Nat.le_refl _)
        have hal : (aboveP wd lv).length = (pieces wd lv).length := List.length_map _
        have hcl2 : climbP wd fu (aboveP wd lv) (d + 1) = treeP wd l := by
          have h_ := hLV.out.2.1
          rw [climbP, if_pos h1] at h_
          exact h_
        have HH := Aside0.mk (And.intro hpl (And.intro hal hcl2))
        have HJ := Aside0.mk (And.intro h1 (And.intro hl1 (And.intro hl2 hlw)))
        clear hpl hal hcl2 h1 hl1 hl2 hlw hll hlv1 hc8
        go_wp2_with (go_at_call 138; refine (R31_above.calls (fun k => k ≠ g4 ∧ k ≠ g7) A c lv wd (by have := HJ.out; omega) (by have := HJ.out; omega) (by have := HJ.out; omega) _ hF.out hcl).mono ?_; rintro e w5 ⟨v9, rfl, hN5, hB5⟩; obtain ⟨A9, c9, rfl⟩ := Kd.N_slice hN5; have hP75 := blk_below hP7.out hB5; have q78 : w5.cell? ⟨g7, 8, none⟩ = some (.int .i64 (d : Int)) := (blk_cell hP75 8).trans rfl; have f78 : w5.frozen? ⟨g7, 8, none⟩ = false := blk_frozen hP75 8; have HP75 := Aside0.mk hP75; have HN5 := Aside0.mk hN5; have HB5 := Aside0.mk hB5; clear hP75 hN5 hB5)
        clear q78 f78
        obtain ⟨j1, j2, j3, j4⟩ := HJ.out
        obtain ⟨⟨k1, k2, k3⟩, k4, k5⟩ := HH.out
        have k6 := k2 j1
        have k7 := k3 (by omega)
        have hg : g4 ≤ g7 := Nat.le_of_lt hg47
        have hwr : g7 < wr.heap.size := blk_lt hP7.out
        refine ⟨⟨A9, c9, aboveP wd lv, d + 1, fu, rfl, (Kd.N_reads' HN5.out).2.1, by omega, by omega, ⟨fun e => by have h_ := congrArg List.length e; rw [k4, List.length_nil] at h_; omega, k5, by have := hLV.out.2.2; omega⟩, ⟨?_⟩, ⟨Kd.F_far (Kd.F_below hF1.out HB5.out) (fun k hk => hk.2) _⟩, ⟨?_⟩, ⟨blk_far (blk_below hP4.out HB5.out) (Nat.ne_of_lt hg47) _⟩, ⟨(below_step hB.out HB5.out).setCell (p := ⟨g7, 8, none⟩) (by rw [hgg4]; exact hg) _⟩⟩, by show (aboveP wd lv).length < lv.length; omega⟩
        · refine Kd.F_far (Kd.F_mono (Kd.N_F HN5.out) (fun k hk => hk.elim id (fun h => ⟨by omega, by omega⟩))) (fun k hk => hk.2) _
        · rw [w64j d (by omega)]
          exact blk_set HP75.out 8 _
      · have h1' : ¬ (1 : Int) < (lv.length : Int) := by omega
        have hlen : 0 < lv.length := List.length_pos_iff.2 hLV.out.1
        obtain ⟨x, hx⟩ : ∃ x, lv = [x] := by
          cases lv with
          | nil => exact absurd rfl hLV.out.1
          | cons x t => exact ⟨x, by rw [List.eq_nil_of_length_eq_zero (l := t) (by rw [List.length_cons] at h1; omega)]⟩
        obtain ⟨ad, A4, c4, A5, c5, rfl, x0, x1, x2, x3, x4, x5, y1, y2, y3, y4⟩ := at_F74 hF.out 0 (by omega) (by omega)
        have hrx : rd_T74 lv 0 = x := by rw [hx]; rfl
        rw [hrx] at x0 x1 x2 x3 x4 x5 y1 y2 y3 y4
        have htr : treeP wd l = (x, d) := by
          rw [← hLV.out.2.1, hx]
          cases fuel with
          | zero => rfl
          | succ n => rw [climbP, if_neg (by simp)]; rfl
        simp only [show ((0 : Int).toNat * 6) = 0 from rfl, Addr.add_zero'] at x0 x1 x2 x3 x4 x5
        have hll1 : lv.length = 1 := by omega
        have HTR := Aside0.mk htr
        have HY := Aside0.mk (And.intro y1 (And.intro y2 (And.intro y3 y4)))
        clear y1 y2 y3 y4 htr hrx hx hlw hll hlv1 hc8 hlen
        have tq0 : wr.cell? ⟨g7, 0, none⟩ = some (.int .i64 (wd : Int)) := (blk_cell hP7.out 0).trans rfl
        have tf0 : wr.frozen? ⟨g7, 0, none⟩ = false := blk_frozen hP7.out 0
        have tq1 : wr.cell? ⟨g7, 1, none⟩ = some (.slice A1 (orderedP l).length c1) := (blk_cell hP7.out 1).trans rfl
        have tf1 : wr.frozen? ⟨g7, 1, none⟩ = false := blk_frozen hP7.out 1
        have tq2 : wr.cell? ⟨g7, 2, none⟩ = some (.int .i64 0) := (blk_cell hP7.out 2).trans rfl
        have tf2 : wr.frozen? ⟨g7, 2, none⟩ = false := blk_frozen hP7.out 2
        have tq3 : wr.cell? ⟨g7, 3, none⟩ = some (.int .i64 0) := (blk_cell hP7.out 3).trans rfl
        have tf3 : wr.frozen? ⟨g7, 3, none⟩ = false := blk_frozen hP7.out 3
        have tq4 : wr.cell? ⟨g7, 4, none⟩ = some (.int .i64 0) := (blk_cell hP7.out 4).trans rfl
        have tf4 : wr.frozen? ⟨g7, 4, none⟩ = false := blk_frozen hP7.out 4
        have tq5 : wr.cell? ⟨g7, 5, none⟩ = some (.int .i64 0) := (blk_cell hP7.out 5).trans rfl
        have tf5 : wr.frozen? ⟨g7, 5, none⟩ = false := blk_frozen hP7.out 5
        have tq6 : wr.cell? ⟨g7, 6, none⟩ = some (.slice none 0 0) := (blk_cell hP7.out 6).trans rfl
        have tf6 : wr.frozen? ⟨g7, 6, none⟩ = false := blk_frozen hP7.out 6
        have tq7 : wr.cell? ⟨g7, 7, none⟩ = some (.slice none 0 0) := (blk_cell hP7.out 7).trans rfl
        have tf7 : wr.frozen? ⟨g7, 7, none⟩ = false := blk_frozen hP7.out 7
        have tq8 : wr.cell? ⟨g7, 8, none⟩ = some (.int .i64 (d : Int)) := (blk_cell hP7.out 8).trans rfl
        have tf8 : wr.frozen? ⟨g7, 8, none⟩ = false := blk_frozen hP7.out 8
        have pq0 : wr.cell? ⟨g4, 0, none⟩ = some (.int .i64 0) := (blk_cell hP4.out 0).trans rfl
        have pf0 : wr.frozen? ⟨g4, 0, none⟩ = false := blk_frozen hP4.out 0
        have pq1 : wr.cell? ⟨g4, 1, none⟩ = some (.slice none 0 0) := (blk_cell hP4.out 1).trans rfl
        have pf1 : wr.frozen? ⟨g4, 1, none⟩ = false := blk_frozen hP4.out 1
        have pq2 : wr.cell? ⟨g4, 2, none⟩ = some (.int .i64 0) := (blk_cell hP4.out 2).trans rfl
        have pf2 : wr.frozen? ⟨g4, 2, none⟩ = false := blk_frozen hP4.out 2
        have pq3 : wr.cell? ⟨g4, 3, none⟩ = some (.int .i64 0) := (blk_cell hP4.out 3).trans rfl
        have pf3 : wr.frozen? ⟨g4, 3, none⟩ = false := blk_frozen hP4.out 3
        have pq4 : wr.cell? ⟨g4, 4, none⟩ = some (.int .i64 0) := (blk_cell hP4.out 4).trans rfl
        have pf4 : wr.frozen? ⟨g4, 4, none⟩ = false := blk_frozen hP4.out 4
        have pq5 : wr.cell? ⟨g4, 5, none⟩ = some (.int .i64 0) := (blk_cell hP4.out 5).trans rfl
        have pf5 : wr.frozen? ⟨g4, 5, none⟩ = false := blk_frozen hP4.out 5
        have pq6 : wr.cell? ⟨g4, 6, none⟩ = some (.slice none 0 0) := (blk_cell hP4.out 6).trans rfl
        have pf6 : wr.frozen? ⟨g4, 6, none⟩ = false := blk_frozen hP4.out 6
        have pq7 : wr.cell? ⟨g4, 7, none⟩ = some (.slice none 0 0) := (blk_cell hP4.out 7).trans rfl
        have pf7 : wr.frozen? ⟨g4, 7, none⟩ = false := blk_frozen hP4.out 7
        have pq8 : wr.cell? ⟨g4, 8, none⟩ = some (.int .i64 0) := (blk_cell hP4.out 8).trans rfl
        have pf8 : wr.frozen? ⟨g4, 8, none⟩ = false := blk_frozen hP4.out 8
        go_wp2_with (fail)
        obtain ⟨y1, y2, y3, y4⟩ := HY.out
        have hne47 : g4 ≠ g7 := Nat.ne_of_lt hg47
        have hB7 : Below g4 w wr := by rw [← hgg4]; exact hB.out
        have hle := Nat.le_of_lt hg47
        have hP4f := (sets6 wr g7 g4 hne47 (.int .i64 x.f0.f0.f0) (.int .i64 x.f0.f0.f1) (.int .i64 x.f0.f1.f0) (.int .i64 x.f0.f1.f1) (.slice A4 x.f1.length c4) (.slice A5 x.f2.length c5)).trans hP4.out
        refine bodyPost_ret (results_ct rfl _ _ g4 76 #[.int .i64 (wd : Int), .slice A1 (orderedP l).length c1, .int .i64 x.f0.f0.f0, .int .i64 x.f0.f0.f1, .int .i64 x.f0.f1.f0, .int .i64 x.f0.f1.f1, .slice A4 x.f1.length c4, .slice A5 x.f2.length c5, .int .i64 (d : Int)] (0, 0) _ rfl (blk_set (blk_set (blk_set (blk_set (blk_set (blk_set (blk_set (blk_set (blk_set hP4f 0 _) 1 _) 2 _) 3 _) 4 _) 5 _) 6 _) 7 _) 8 _) hu76 rfl (by kernel_rfl)) rfl ?_
        rw [HTR.out]
        have keep : ∀ k, k ≠ g4 ∧ k ≠ g7 → ∀ (v0 v1 v2 v3 v4 v5 u0 u1 u2 u3 u4 u5 u6 u7 u8 : Value), (((((((((((((((wr.setCell ⟨g7, 2, none⟩ v0).setCell ⟨g7, 3, none⟩ v1).setCell ⟨g7, 4, none⟩ v2).setCell ⟨g7, 5, none⟩ v3).setCell ⟨g7, 6, none⟩ v4).setCell ⟨g7, 7, none⟩ v5).setCell ⟨g4, 0, none⟩ u0).setCell ⟨g4, 1, none⟩ u1).setCell ⟨g4, 2, none⟩ u2).setCell ⟨g4, 3, none⟩ u3).setCell ⟨g4, 4, none⟩ u4).setCell ⟨g4, 5, none⟩ u5).setCell ⟨g4, 6, none⟩ u6).setCell ⟨g4, 7, none⟩ u7).setCell ⟨g4, 8, none⟩ u8).heap[k]? = wr.heap[k]? := fun k hk _ _ _ _ _ _ _ _ _ _ _ _ _ _ _ => (sets9 _ _ k hk.1 _ _ _ _ _ _ _ _ _).trans (sets6 _ _ k hk.2 _ _ _ _ _ _)
        refine ⟨⟨A1, c1, A4, c4, A5, c5, rfl, hc1, Kd.F_now (Kd.F_step hF1.out (fun k hk _ => keep k hk _ _ _ _ _ _ _ _ _ _ _ _ _ _ _)), y1, Kd.F_now (Kd.F_step y2 (fun k hk _ => keep k hk _ _ _ _ _ _ _ _ _ _ _ _ _ _ _)), y3, Kd.F_now (Kd.F_step y4 (fun k hk _ => keep k hk _ _ _ _ _ _ _ _ _ _ _ _ _ _ _))⟩, ?_⟩
        exact (((((((((((((((hB7.setCell (p := ⟨g7, 2, none⟩) hle _).setCell (p := ⟨g7, 3, none⟩) hle _).setCell (p := ⟨g7, 4, none⟩) hle _).setCell (p := ⟨g7, 5, none⟩) hle _).setCell (p := ⟨g7, 6, none⟩) hle _).setCell (p := ⟨g7, 7, none⟩) hle _).setCell (p := ⟨g4, 0, none⟩) (Nat.le_refl _) _).setCell (p := ⟨g4, 1, none⟩) (Nat.le_refl _) _).setCell (p := ⟨g4, 2, none⟩) (Nat.le_refl _) _).setCell (p := ⟨g4, 3, none⟩) (Nat.le_refl _) _).setCell (p := ⟨g4, 4, none⟩) (Nat.le_refl _) _).setCell (p := ⟨g4, 5, none⟩) (Nat.le_refl _) _).setCell (p := ⟨g4, 6, none⟩) (Nat.le_refl _) _).setCell (p := ⟨g4, 7, none⟩) (Nat.le_refl _) _).setCell (p := ⟨g4, 8, none⟩) (Nat.le_refl _) _)
end Go.Proofs.Ytdcelpppgbmlaaa.P
