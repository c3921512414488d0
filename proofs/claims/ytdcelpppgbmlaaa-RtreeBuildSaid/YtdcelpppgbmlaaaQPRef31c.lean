-- WRITTEN BY wip/gen.py (the kit's print with contracts put in that are proved by hand). Lean checks it.
import Derived.Test.YtdcelpppgbmlaaaQP0
import Derived.Test.YtdcelpppgbmlaaaQPRef31
import Derived.Test.YtdcelpppgbmlaaaQPRef31a
namespace Go.Proofs.Ytdcelpppgbmlaaa.P
open Go.RowKit Go.Proofs.YtdcelpppgbmlaaaW.PrintWords Go.Proofs.YtdcelpppgbmlaaaW.PrintLast Go.Proofs.YtdcelpppgbmlaaaW.PrintMore
attribute [local go_sem] max2_int min2_int max_two min_two max_three min_three max_four min_four   -- for this text's walks alone
set_option linter.unusedVariables false
set_option linter.unusedSimpArgs false
def R31_Stab.l0 : Nat → Int → Int → List Int → List (S51) → Int → Int → Option (List Int)
  | 0, _, _, _, _, _, _ => none
  | k + 1, x1, x2, x7, x11, x12, x13 => if x13 < x12 then (if 0 ≤ x13 then (if x13 < (x11.length : Int) then (if ((rd_T51 x11 x13).f0.f0.f0) ≤ x1 then (if x1 < ((rd_T51 x11 x13).f0.f0.f1) then (if ((rd_T51 x11 x13).f0.f1.f0) ≤ x2 then (if x2 < ((rd_T51 x11 x13).f0.f1.f1) then ((R31_put.f k x7 ((rd_T51 x11 x13).f1)).bind fun t1143 => (R31_Stab.l0 k x1 x2 t1143 x11 x12 (wrap64 (x13 + 1)))) else (R31_Stab.l0 k x1 x2 x7 x11 x12 (wrap64 (x13 + 1)))) else (R31_Stab.l0 k x1 x2 x7 x11 x12 (wrap64 (x13 + 1)))) else (R31_Stab.l0 k x1 x2 x7 x11 x12 (wrap64 (x13 + 1)))) else (R31_Stab.l0 k x1 x2 x7 x11 x12 (wrap64 (x13 + 1)))) else (none)) else (none)) else (some x7)
def R31_Stab.f (k : Nat) (a0_0 : Int) (l0_1 : List (S51)) (a0_2 : Int) (a0_3 : Int) (a0_4 : Int) (a0_5 : Int) (l0_6 : List (S51)) (l0_7 : List (S74)) (a0_8 : Int) (a1 : Int) (a2 : Int) : Option (List Int) := R31_Stab.l0 k a1 a2 ([] : List Int) l0_1 (l0_1.length : Int) 0
set_option maxHeartbeats 8000000 in
set_option maxRecDepth 100000 in
theorem R31_Stab.calls (k : Nat) (a0_0 : Int) (A0_1 : Option Addr) (c0_1 : Nat) (l0_1 : List (S51)) (a0_2 : Int) (a0_3 : Int) (a0_4 : Int) (a0_5 : Int) (A0_6 : Option Addr) (c0_6 : Nat) (l0_6 : List (S51)) (A0_7 : Option Addr) (c0_7 : Nat) (l0_7 : List (S74)) (a0_8 : Int) (a1 : Int) (a2 : Int) (r : List Int) (w : World) (hr0_1 : Kd.C k51 w A0_1 l0_1.length l0_1) (hc0_1 : l0_1.length ≤ c0_1) (hr0_6 : Kd.C k51 w A0_6 l0_6.length l0_6) (hc0_6 : l0_6.length ≤ c0_6) (hr0_7 : Kd.C k74 w A0_7 l0_7.length l0_7) (hc0_7 : l0_7.length ≤ c0_7) (h : R31_Stab.f k a0_0 l0_1 a0_2 a0_3 a0_4 a0_5 l0_6 l0_7 a0_8 a1 a2 = some r) :
    Calls Try.prog 96 #[.agg #[.int .i64 a0_0, .slice A0_1 l0_1.length c0_1, .int .i64 a0_2, .int .i64 a0_3, .int .i64 a0_4, .int .i64 a0_5, .slice A0_6 l0_6.length c0_6, .slice A0_7 l0_7.length c0_7, .int .i64 a0_8], .int .i64 a1, .int .i64 a2] w fun e w' => ∃ v0_ : Value, e = .returned (v0_) ∧ Kd.R (Kd.int .i64) 3 w' w.heap.size (fun _ => True) v0_ r ∧ Below w.heap.size w w' := by
  have hu76 := Try.underlying76
  have hu51 := Try.underlying51
  have HR0_1 := Aside0.mk hr0_1
  have HC0_1 := Aside0.mk hc0_1
  clear hr0_1 hc0_1
  have HR0_6 := Aside0.mk hr0_6
  have HC0_6 := Aside0.mk hc0_6
  clear hr0_6 hc0_6
  have HR0_7 := Aside0.mk hr0_7
  have HC0_7 := Aside0.mk hc0_7
  clear hr0_7 hc0_7
  have HB := Aside0.mk (Below.refl w.heap.size w)
  have H : (R31_Stab.l0 k a1 a2 ([] : List Int) l0_1 (l0_1.length : Int) 0) = some r := h
  clear h
  have H' := Aside0.mk H
  clear H
  go_enter Try.func96, Try.ntmps96
  go_wp2_with (first | ((with_reducible refine gate_dst (N := 3) rfl ?_); refine box_event ?hg (N := 3) ?hd (cs := #[.int .i64 a0_0, .slice A0_1 l0_1.length c0_1, .int .i64 a0_2, .int .i64 a0_3, .int .i64 a0_4, .int .i64 a0_5, .slice A0_6 l0_6.length c0_6, .slice A0_7 l0_7.length c0_7, .int .i64 a0_8]) (t := 76) ?hr ?_; (case hd => rfl); (case hg => rfl); (case hr => first | (go_simp; done) | (go_simp; rfl)); intro gb1140 hg w4 hbox hb; have n0_ := Aside0.mk (below_step (by repeat (first | (with_reducible first | exact HB.out | apply below_alloc | apply pw_below_drewN | apply below_drew1) | exact HB.out)) hb); have n1_ := Aside0.mk (hbox); have n2_ := Aside0.mk ((by rw [hg]; exact (below_size (by repeat (first | (with_reducible first | exact HB.out | apply below_alloc | apply pw_below_drewN | apply below_drew1) | exact HB.out))) : w.heap.size ≤ gb1140)); have n3_ := Aside0.mk ((by rw [hg]; exact (below_size (by repeat (first | (with_reducible first | exact HB.out | apply below_alloc | apply pw_below_drewN | apply below_drew1) | exact HB.out))) : w.heap.size ≤ gb1140)); clear HB; have HB := n0_; have BK1140 := n1_; have GW1140 := n2_; have GE1140 := n3_; clear n0_ n1_ n2_ n3_; clear hb hbox hg; have hcz5_0 : w4.cell? ⟨gb1140, 0, none⟩ = some (.int .i64 a0_0) := (blk_cell BK1140.out 0).trans rfl; have hcz5_1 : w4.cell? ⟨gb1140, 1, none⟩ = some (.slice A0_1 l0_1.length c0_1) := (blk_cell BK1140.out 1).trans rfl; have hcz5_2 : w4.cell? ⟨gb1140, 2, none⟩ = some (.int .i64 a0_2) := (blk_cell BK1140.out 2).trans rfl; have hcz5_3 : w4.cell? ⟨gb1140, 3, none⟩ = some (.int .i64 a0_3) := (blk_cell BK1140.out 3).trans rfl; have hcz5_4 : w4.cell? ⟨gb1140, 4, none⟩ = some (.int .i64 a0_4) := (blk_cell BK1140.out 4).trans rfl; have hcz5_5 : w4.cell? ⟨gb1140, 5, none⟩ = some (.int .i64 a0_5) := (blk_cell BK1140.out 5).trans rfl; have hcz5_6 : w4.cell? ⟨gb1140, 6, none⟩ = some (.slice A0_6 l0_6.length c0_6) := (blk_cell BK1140.out 6).trans rfl; have hcz5_7 : w4.cell? ⟨gb1140, 7, none⟩ = some (.slice A0_7 l0_7.length c0_7) := (blk_cell BK1140.out 7).trans rfl; have hcz5_8 : w4.cell? ⟨gb1140, 8, none⟩ = some (.int .i64 a0_8) := (blk_cell BK1140.out 8).trans rfl; have hfz5_0 := blk_frozen BK1140.out 0; have hfz5_1 := blk_frozen BK1140.out 1; have hfz5_2 := blk_frozen BK1140.out 2; have hfz5_3 := blk_frozen BK1140.out 3; have hfz5_4 := blk_frozen BK1140.out 4; have hfz5_5 := blk_frozen BK1140.out 5; have hfz5_6 := blk_frozen BK1140.out 6; have hfz5_7 := blk_frozen BK1140.out 7; have hfz5_8 := blk_frozen BK1140.out 8))
  go_loopg [7, 13] k (fun kq v7 v13 w' => ∃ (x7_1 : List Int) (x13_1 : Int), v13 = .int .i64 x13_1 ∧ Aside0 (R31_Stab.l0 kq a1 a2 x7_1 l0_1 (l0_1.length : Int) x13_1 = some r) ∧ Aside0 (kq ≤ k) ∧ Aside0 (Kd.R (Kd.int .i64) 3 w' w.heap.size (fun _ => True) v7 x7_1) ∧ Aside0 (w'.heap[gb1140]? = some (.cells #[.int .i64 a0_0, (.slice A0_1 l0_1.length c0_1), .int .i64 a0_2, .int .i64 a0_3, .int .i64 a0_4, .int .i64 a0_5, (.slice A0_6 l0_6.length c0_6), (.slice A0_7 l0_7.length c0_7), .int .i64 a0_8] 76 (0, 0))) ∧ Aside0 (Below w.heap.size w w'))
  case atStart => exact ⟨(([] : List Int)), (0), (by first | rfl | (simp; done) | (simp [*]; done)), H', ⟨Nat.le_refl _⟩, ⟨by first | exact Kd.R_nil _ _ _ _ _ | exact Kd.N_nil _ _ _ _ _ | exact Kd.V_nil _ _ _ _ _ | exact Kd.Q_nil _ _ _ _ _ | exact Kd.S_nil _ _ _ _ _⟩, ⟨by (with_reducible repeat (first | refine blk_drewN ?_ _ | refine blk_drew ?_ | refine blk_alloc ?_ _)); exact BK1140.out⟩, ⟨by repeat (first | (with_reducible first | exact HB.out | apply below_alloc | apply pw_below_drewN | apply below_drew1 | refine below_set ?_ GE1140.out) | exact HB.out)⟩⟩
  case round =>
    clear H'
    try clear p2
    try clear hcz5_0
    try clear hcz5_1
    try clear hcz5_2
    try clear hcz5_3
    try clear hcz5_4
    try clear hcz5_5
    try clear hcz5_6
    try clear hcz5_7
    try clear hcz5_8
    try clear hfz5_0
    try clear hfz5_1
    try clear hfz5_2
    try clear hfz5_3
    try clear hfz5_4
    try clear hfz5_5
    try clear hfz5_6
    try clear hfz5_7
    try clear hfz5_8
    obtain ⟨x7_1, x13_1, rfl, HA, HK1, HO_7, BK1140, HB⟩ := hrel
    cases gk with
    | zero => exact absurd HA.out (by simp [R31_Stab.l0])
    | succ k1 =>
      have H := HA.out
      clear HA
      simp only [R31_Stab.l0] at H
      by_cases c6 : x13_1 < (l0_1.length : Int)
      · rw [if_pos c6] at H
        have c6b0 : decide (x13_1 < (l0_1.length : Int)) = true := decide_eq_true c6
        clear c6
        by_cases c7 : 0 ≤ x13_1
        · rw [if_pos c7] at H
          have c7b0 : decide (0 ≤ x13_1) = true := decide_eq_true c7
          clear c7
          by_cases c8 : x13_1 < (l0_1.length : Int)
          · rw [if_pos c8] at H
            have c8b0 : decide (x13_1 < (l0_1.length : Int)) = true := decide_eq_true c8
            clear c8
            by_cases c9 : ((rd_T51 l0_1 x13_1).f0.f0.f0) ≤ a1
            · rw [if_pos c9] at H
              have c9b0 : decide (((rd_T51 l0_1 x13_1).f0.f0.f0) ≤ a1) = true := decide_eq_true c9
              clear c9
              by_cases c10 : a1 < ((rd_T51 l0_1 x13_1).f0.f0.f1)
              · rw [if_pos c10] at H
                have c10b0 : decide (a1 < ((rd_T51 l0_1 x13_1).f0.f0.f1)) = true := decide_eq_true c10
                clear c10
                by_cases c11 : ((rd_T51 l0_1 x13_1).f0.f1.f0) ≤ a2
                · rw [if_pos c11] at H
                  have c11b0 : decide (((rd_T51 l0_1 x13_1).f0.f1.f0) ≤ a2) = true := decide_eq_true c11
                  clear c11
                  by_cases c12 : a2 < ((rd_T51 l0_1 x13_1).f0.f1.f1)
                  · rw [if_pos c12] at H
                    have c12b0 : decide (a2 < ((rd_T51 l0_1 x13_1).f0.f1.f1)) = true := decide_eq_true c12
                    clear c12
                    replace H := Option.bind_eq_some_iff.mp H
                    obtain ⟨t1143, A130, H⟩ := H
                    replace H : (R31_Stab.l0 k1 a1 a2 t1143 l0_1 (l0_1.length : Int) (wrap64 (x13_1 + 1))) = some r := H
                    have A13 := Aside0.mk A130
                    clear A130
                    have H' := Aside0.mk H
                    clear H
                    have p1141 : 0 ≤ (x13_1 : Int) := of_decide_eq_true (by first | (with_reducible assumption) | assumption)
                    have q1141 : x13_1 < (l0_1.length : Int) := of_decide_eq_true (by first | (with_reducible assumption) | assumption)
                    obtain ⟨ad1141, e1141, hx1141_0, hx1141_1, hx1141_2, hx1141_3, hx1141_4⟩ := at_T51 HR0_1.out x13_1 p1141 q1141
                    cases e1141
                    replace hx1141_0 := (HB.out.cell (World.block_lt_of_cell? w _ hx1141_0)).trans hx1141_0
                    replace hx1141_1 := (HB.out.cell (World.block_lt_of_cell? w _ hx1141_1)).trans hx1141_1
                    replace hx1141_2 := (HB.out.cell (World.block_lt_of_cell? w _ hx1141_2)).trans hx1141_2
                    replace hx1141_3 := (HB.out.cell (World.block_lt_of_cell? w _ hx1141_3)).trans hx1141_3
                    replace hx1141_4 := (HB.out.cell (World.block_lt_of_cell? w _ hx1141_4)).trans hx1141_4
                    replace p1141 := eq_true p1141
                    replace q1141 := eq_true q1141
                    go_wp2_with (first | ((with_reducible refine gate_dst (N := 9) rfl ?_); refine box_event ?hg (N := 9) ?hd (cs := #[.int .i64 0, .int .i64 0, .int .i64 0, .int .i64 0, .int .i64 0]) (t := 51) ?hr ?_; (case hd => rfl); (case hg => rfl); (case hr => first | (go_simp; done) | (go_simp; rfl)); intro gb1142 hg w14 hbox hb; have n0_ := Aside0.mk (Kd.R_below (by (with_reducible repeat (first | apply Kd.R_alloc | apply Kd.R_drewN | apply Kd.R_drew)); exact HO_7.out) hb); have n1_ := Aside0.mk (blk_below (g := gb1140) (o := .cells #[.int .i64 a0_0, .slice (some ad1141) l0_1.length c0_1, .int .i64 a0_2, .int .i64 a0_3, .int .i64 a0_4, .int .i64 a0_5, .slice A0_6 l0_6.length c0_6, .slice A0_7 l0_7.length c0_7, .int .i64 a0_8] 76 (0, 0)) (by (with_reducible repeat (first | refine blk_drewN ?_ _ | refine blk_drew ?_ | refine blk_alloc ?_ _)); exact BK1140.out) hb); have n2_ := Aside0.mk (below_step (by repeat (first | (with_reducible first | exact HB.out | apply below_alloc | apply pw_below_drewN | apply below_drew1 | refine below_set ?_ GE1140.out) | exact HB.out)) hb); have n3_ := Aside0.mk (hbox); have n4_ := Aside0.mk ((by rw [hg]; exact (below_size (by repeat (first | (with_reducible first | exact HB.out | apply below_alloc | apply pw_below_drewN | apply below_drew1 | refine below_set ?_ GE1140.out) | exact HB.out))) : w.heap.size ≤ gb1142)); have n5_ := Aside0.mk ((by rw [hg]; exact (below_size (by repeat (first | (with_reducible first | exact HB.out | apply below_alloc | apply pw_below_drewN | apply below_drew1 | refine below_set ?_ GE1140.out) | exact HB.out))) : w.heap.size ≤ gb1142)); have n6_ := Aside0.mk ((by rw [hg]; exact Nat.ne_of_lt (blk_lt (g := gb1140) (o := .cells #[.int .i64 a0_0, .slice (some ad1141) l0_1.length c0_1, .int .i64 a0_2, .int .i64 a0_3, .int .i64 a0_4, .int .i64 a0_5, .slice A0_6 l0_6.length c0_6, .slice A0_7 l0_7.length c0_7, .int .i64 a0_8] 76 (0, 0)) (by (with_reducible repeat (first | refine blk_drewN ?_ _ | refine blk_drew ?_ | refine blk_alloc ?_ _)); exact BK1140.out)) : gb1140 ≠ gb1142)); have n7_ := Aside0.mk ((by rw [hg]; exact Nat.ne_of_gt (blk_lt (g := gb1140) (o := .cells #[.int .i64 a0_0, .slice (some ad1141) l0_1.length c0_1, .int .i64 a0_2, .int .i64 a0_3, .int .i64 a0_4, .int .i64 a0_5, .slice A0_6 l0_6.length c0_6, .slice A0_7 l0_7.length c0_7, .int .i64 a0_8] 76 (0, 0)) (by (with_reducible repeat (first | refine blk_drewN ?_ _ | refine blk_drew ?_ | refine blk_alloc ?_ _)); exact BK1140.out)) : gb1142 ≠ gb1140)); clear HO_7; clear BK1140; clear HB; have HO_7 := n0_; have BK1140 := n1_; have HB := n2_; have BK1142 := n3_; have GW1142 := n4_; have GE1142 := n5_; have NB1140_1142 := n6_; have NB1142_1140 := n7_; clear n0_ n1_ n2_ n3_ n4_ n5_ n6_ n7_; clear hb hbox hg; have hnb15 := NB1142_1140.out; have hnc15 := NB1140_1142.out; have hcz16_0 : w14.cell? ⟨gb1142, 0, none⟩ = some (.int .i64 0) := (blk_cell BK1142.out 0).trans rfl; have hcz16_1 : w14.cell? ⟨gb1142, 1, none⟩ = some (.int .i64 0) := (blk_cell BK1142.out 1).trans rfl; have hcz16_2 : w14.cell? ⟨gb1142, 2, none⟩ = some (.int .i64 0) := (blk_cell BK1142.out 2).trans rfl; have hcz16_3 : w14.cell? ⟨gb1142, 3, none⟩ = some (.int .i64 0) := (blk_cell BK1142.out 3).trans rfl; have hcz16_4 : w14.cell? ⟨gb1142, 4, none⟩ = some (.int .i64 0) := (blk_cell BK1142.out 4).trans rfl; have hfz16_0 := blk_frozen BK1142.out 0; have hfz16_1 := blk_frozen BK1142.out 1; have hfz16_2 := blk_frozen BK1142.out 2; have hfz16_3 := blk_frozen BK1142.out 3; have hfz16_4 := blk_frozen BK1142.out 4; obtain ⟨Ao17, co17, eo17⟩ := Kd.R_slice HO_7.out; subst eo17) | ((with_reducible refine gate_callee (f := 140) rfl ?_); refine goesL_ (some 50) rfl rfl Try.func140 (by kernel_rfl) rfl #[.slice Ao17 x7_1.length co17, .int .i64 ((rd_T51 l0_1 x13_1).f1)] rfl (by (try simp only [List.map_toArray, List.map_cons, List.map_nil]); first | done | rfl | (simp only [List.length_drop, List.length_take]; rfl)) ?_; (with_reducible refine (R31_put.calls k1 _ _ x7_1 ((rd_T51 l0_1 x13_1).f1) t1143 _ ?side1 ?side2 A13.out).mono ?_); (case side1 => refine (Kd.R_reads' (e := 3) (base := w.heap.size) (ok := fun k_ => True) (n := x7_1.length) (c := co17) ?_).2.2; exact (by (with_reducible repeat (first | apply Kd.R_alloc | apply Kd.R_drewN | apply Kd.R_drew)); exact (Kd.R_mono (Kd.R_far (p := ⟨gb1142, 4, none⟩) (Kd.R_far (p := ⟨gb1142, 3, none⟩) (Kd.R_far (p := ⟨gb1142, 2, none⟩) (Kd.R_far (p := ⟨gb1142, 1, none⟩) (Kd.R_far (p := ⟨gb1142, 0, none⟩) (Kd.R_types HO_7.out BK1142.out (by decide)) (fun _ hk => hk.2) (.int .i64 ((rd_T51 l0_1 x13_1).f0.f0.f0))) (fun _ hk => hk.2) (.int .i64 ((rd_T51 l0_1 x13_1).f0.f0.f1))) (fun _ hk => hk.2) (.int .i64 ((rd_T51 l0_1 x13_1).f0.f1.f0))) (fun _ hk => hk.2) (.int .i64 ((rd_T51 l0_1 x13_1).f0.f1.f1))) (fun _ hk => hk.2) (.int .i64 ((rd_T51 l0_1 x13_1).f1))) (fun _ h_ => h_.1)))); (case side2 => exact (Kd.R_reads' HO_7.out).2.1); rintro e w18 ⟨v1144, rfl, ho0, hb⟩; refine ⟨_, rfl, ?_⟩; have n0_ := Aside0.mk (Kd.R_elder' (by (with_reducible repeat (first | apply Kd.R_alloc | apply Kd.R_drewN | apply Kd.R_drew)); exact (Kd.R_mono (Kd.R_far (p := ⟨gb1142, 4, none⟩) (Kd.R_far (p := ⟨gb1142, 3, none⟩) (Kd.R_far (p := ⟨gb1142, 2, none⟩) (Kd.R_far (p := ⟨gb1142, 1, none⟩) (Kd.R_far (p := ⟨gb1142, 0, none⟩) (Kd.R_types HO_7.out BK1142.out (by decide)) (fun _ hk => hk.2) (.int .i64 ((rd_T51 l0_1 x13_1).f0.f0.f0))) (fun _ hk => hk.2) (.int .i64 ((rd_T51 l0_1 x13_1).f0.f0.f1))) (fun _ hk => hk.2) (.int .i64 ((rd_T51 l0_1 x13_1).f0.f1.f0))) (fun _ hk => hk.2) (.int .i64 ((rd_T51 l0_1 x13_1).f0.f1.f1))) (fun _ hk => hk.2) (.int .i64 ((rd_T51 l0_1 x13_1).f1))) (fun _ h_ => h_.1))) (Kd.R_base ho0) hb); have n1_ := Aside0.mk (Kd.R_lower (Kd.R_new' ho0 (Kd.R_lt (by (with_reducible repeat (first | apply Kd.R_alloc | apply Kd.R_drewN | apply Kd.R_drew)); exact (Kd.R_mono (Kd.R_far (p := ⟨gb1142, 4, none⟩) (Kd.R_far (p := ⟨gb1142, 3, none⟩) (Kd.R_far (p := ⟨gb1142, 2, none⟩) (Kd.R_far (p := ⟨gb1142, 1, none⟩) (Kd.R_far (p := ⟨gb1142, 0, none⟩) (Kd.R_types HO_7.out BK1142.out (by decide)) (fun _ hk => hk.2) (.int .i64 ((rd_T51 l0_1 x13_1).f0.f0.f0))) (fun _ hk => hk.2) (.int .i64 ((rd_T51 l0_1 x13_1).f0.f0.f1))) (fun _ hk => hk.2) (.int .i64 ((rd_T51 l0_1 x13_1).f0.f1.f0))) (fun _ hk => hk.2) (.int .i64 ((rd_T51 l0_1 x13_1).f0.f1.f1))) (fun _ hk => hk.2) (.int .i64 ((rd_T51 l0_1 x13_1).f1))) (fun _ h_ => h_.1))))) (below_size (by repeat (first | (with_reducible first | exact HB.out | apply below_alloc | apply pw_below_drewN | apply below_drew1 | refine below_set ?_ GE1140.out | refine below_set ?_ GE1142.out) | exact HB.out)))); have n2_ := Aside0.mk (blk_below (g := gb1140) (o := .cells #[.int .i64 a0_0, .slice (some ad1141) l0_1.length c0_1, .int .i64 a0_2, .int .i64 a0_3, .int .i64 a0_4, .int .i64 a0_5, .slice A0_6 l0_6.length c0_6, .slice A0_7 l0_7.length c0_7, .int .i64 a0_8] 76 (0, 0)) (by (with_reducible repeat (first | refine blk_drewN ?_ _ | refine blk_drew ?_ | refine blk_alloc ?_ _)); refine blk_far ?_ NB1140_1142.out _; (with_reducible repeat (first | refine blk_drewN ?_ _ | refine blk_drew ?_ | refine blk_alloc ?_ _)); refine blk_far ?_ NB1140_1142.out _; (with_reducible repeat (first | refine blk_drewN ?_ _ | refine blk_drew ?_ | refine blk_alloc ?_ _)); refine blk_far ?_ NB1140_1142.out _; (with_reducible repeat (first | refine blk_drewN ?_ _ | refine blk_drew ?_ | refine blk_alloc ?_ _)); refine blk_far ?_ NB1140_1142.out _; (with_reducible repeat (first | refine blk_drewN ?_ _ | refine blk_drew ?_ | refine blk_alloc ?_ _)); refine blk_far ?_ NB1140_1142.out _; (with_reducible repeat (first | refine blk_drewN ?_ _ | refine blk_drew ?_ | refine blk_alloc ?_ _)); exact BK1140.out) hb); have n3_ := Aside0.mk (blk_below (g := gb1142) (o := .cells #[.int .i64 ((rd_T51 l0_1 x13_1).f0.f0.f0), .int .i64 ((rd_T51 l0_1 x13_1).f0.f0.f1), .int .i64 ((rd_T51 l0_1 x13_1).f0.f1.f0), .int .i64 ((rd_T51 l0_1 x13_1).f0.f1.f1), .int .i64 ((rd_T51 l0_1 x13_1).f1)] 51 (0, 0)) (by (with_reducible repeat (first | refine blk_drewN ?_ _ | refine blk_drew ?_ | refine blk_alloc ?_ _)); refine blk_put (cs := #[.int .i64 ((rd_T51 l0_1 x13_1).f0.f0.f0), .int .i64 ((rd_T51 l0_1 x13_1).f0.f0.f1), .int .i64 ((rd_T51 l0_1 x13_1).f0.f1.f0), .int .i64 ((rd_T51 l0_1 x13_1).f0.f1.f1), .int .i64 0]) ?_ 4 _ rfl; (with_reducible repeat (first | refine blk_drewN ?_ _ | refine blk_drew ?_ | refine blk_alloc ?_ _)); refine blk_put (cs := #[.int .i64 ((rd_T51 l0_1 x13_1).f0.f0.f0), .int .i64 ((rd_T51 l0_1 x13_1).f0.f0.f1), .int .i64 ((rd_T51 l0_1 x13_1).f0.f1.f0), .int .i64 0, .int .i64 0]) ?_ 3 _ rfl; (with_reducible repeat (first | refine blk_drewN ?_ _ | refine blk_drew ?_ | refine blk_alloc ?_ _)); refine blk_put (cs := #[.int .i64 ((rd_T51 l0_1 x13_1).f0.f0.f0), .int .i64 ((rd_T51 l0_1 x13_1).f0.f0.f1), .int .i64 0, .int .i64 0, .int .i64 0]) ?_ 2 _ rfl; (with_reducible repeat (first | refine blk_drewN ?_ _ | refine blk_drew ?_ | refine blk_alloc ?_ _)); refine blk_put (cs := #[.int .i64 ((rd_T51 l0_1 x13_1).f0.f0.f0), .int .i64 0, .int .i64 0, .int .i64 0, .int .i64 0]) ?_ 1 _ rfl; (with_reducible repeat (first | refine blk_drewN ?_ _ | refine blk_drew ?_ | refine blk_alloc ?_ _)); refine blk_put (cs := #[.int .i64 0, .int .i64 0, .int .i64 0, .int .i64 0, .int .i64 0]) ?_ 0 _ rfl; (with_reducible repeat (first | refine blk_drewN ?_ _ | refine blk_drew ?_ | refine blk_alloc ?_ _)); exact BK1142.out) hb); have n4_ := Aside0.mk (below_step (by repeat (first | (with_reducible first | exact HB.out | apply below_alloc | apply pw_below_drewN | apply below_drew1 | refine below_set ?_ GE1140.out | refine below_set ?_ GE1142.out) | exact HB.out)) hb); clear HO_7; clear BK1140; clear BK1142; clear HB; have HO_7 := n0_; have HO1145 := n1_; have BK1140 := n2_; have BK1142 := n3_; have HB := n4_; clear n0_ n1_ n2_ n3_ n4_; (try clear hb); (try clear hb2); (try clear hk); (try clear hi); (try clear ho0)))
                    go_roundg k1
                    case measure => have := HK1.out; omega
                    case rel => exact ⟨(t1143), (wrap64 (x13_1 + 1)), (by first | rfl | (simp; done) | (simp [*]; done)), H', ⟨by have := HK1.out; omega⟩, ⟨by (with_reducible repeat (first | apply Kd.R_alloc | apply Kd.R_drewN | apply Kd.R_drew)); exact Kd.R_mono HO1145.out (fun _ hk => trivial)⟩, ⟨by (with_reducible repeat (first | refine blk_drewN ?_ _ | refine blk_drew ?_ | refine blk_alloc ?_ _)); exact BK1140.out⟩, ⟨by repeat (first | (with_reducible first | exact HB.out | apply below_alloc | apply pw_below_drewN | apply below_drew1 | refine below_set ?_ GE1140.out | refine below_set ?_ GE1142.out) | exact HB.out)⟩⟩
                  · rw [if_neg c12] at H
                    have c12b0 : decide (a2 < ((rd_T51 l0_1 x13_1).f0.f1.f1)) = false := decide_eq_false c12
                    clear c12
                    have H' := Aside0.mk H
                    clear H
                    have p1141 : 0 ≤ (x13_1 : Int) := of_decide_eq_true (by first | (with_reducible assumption) | assumption)
                    have q1141 : x13_1 < (l0_1.length : Int) := of_decide_eq_true (by first | (with_reducible assumption) | assumption)
                    obtain ⟨ad1141, e1141, hx1141_0, hx1141_1, hx1141_2, hx1141_3, hx1141_4⟩ := at_T51 HR0_1.out x13_1 p1141 q1141
                    cases e1141
                    replace hx1141_0 := (HB.out.cell (World.block_lt_of_cell? w _ hx1141_0)).trans hx1141_0
                    replace hx1141_1 := (HB.out.cell (World.block_lt_of_cell? w _ hx1141_1)).trans hx1141_1
                    replace hx1141_2 := (HB.out.cell (World.block_lt_of_cell? w _ hx1141_2)).trans hx1141_2
                    replace hx1141_3 := (HB.out.cell (World.block_lt_of_cell? w _ hx1141_3)).trans hx1141_3
                    replace hx1141_4 := (HB.out.cell (World.block_lt_of_cell? w _ hx1141_4)).trans hx1141_4
                    replace p1141 := eq_true p1141
                    replace q1141 := eq_true q1141
                    go_wp2_with (first | ((with_reducible refine gate_dst (N := 9) rfl ?_); refine box_event ?hg (N := 9) ?hd (cs := #[.int .i64 0, .int .i64 0, .int .i64 0, .int .i64 0, .int .i64 0]) (t := 51) ?hr ?_; (case hd => rfl); (case hg => rfl); (case hr => first | (go_simp; done) | (go_simp; rfl)); intro gb1142 hg w19 hbox hb; have n0_ := Aside0.mk (Kd.R_below (by (with_reducible repeat (first | apply Kd.R_alloc | apply Kd.R_drewN | apply Kd.R_drew)); exact HO_7.out) hb); have n1_ := Aside0.mk (blk_below (g := gb1140) (o := .cells #[.int .i64 a0_0, .slice (some ad1141) l0_1.length c0_1, .int .i64 a0_2, .int .i64 a0_3, .int .i64 a0_4, .int .i64 a0_5, .slice A0_6 l0_6.length c0_6, .slice A0_7 l0_7.length c0_7, .int .i64 a0_8] 76 (0, 0)) (by (with_reducible repeat (first | refine blk_drewN ?_ _ | refine blk_drew ?_ | refine blk_alloc ?_ _)); exact BK1140.out) hb); have n2_ := Aside0.mk (below_step (by repeat (first | (with_reducible first | exact HB.out | apply below_alloc | apply pw_below_drewN | apply below_drew1 | refine below_set ?_ GE1140.out) | exact HB.out)) hb); have n3_ := Aside0.mk (hbox); have n4_ := Aside0.mk ((by rw [hg]; exact (below_size (by repeat (first | (with_reducible first | exact HB.out | apply below_alloc | apply pw_below_drewN | apply below_drew1 | refine below_set ?_ GE1140.out) | exact HB.out))) : w.heap.size ≤ gb1142)); have n5_ := Aside0.mk ((by rw [hg]; exact (below_size (by repeat (first | (with_reducible first | exact HB.out | apply below_alloc | apply pw_below_drewN | apply below_drew1 | refine below_set ?_ GE1140.out) | exact HB.out))) : w.heap.size ≤ gb1142)); have n6_ := Aside0.mk ((by rw [hg]; exact Nat.ne_of_lt (blk_lt (g := gb1140) (o := .cells #[.int .i64 a0_0, .slice (some ad1141) l0_1.length c0_1, .int .i64 a0_2, .int .i64 a0_3, .int .i64 a0_4, .int .i64 a0_5, .slice A0_6 l0_6.length c0_6, .slice A0_7 l0_7.length c0_7, .int .i64 a0_8] 76 (0, 0)) (by (with_reducible repeat (first | refine blk_drewN ?_ _ | refine blk_drew ?_ | refine blk_alloc ?_ _)); exact BK1140.out)) : gb1140 ≠ gb1142)); have n7_ := Aside0.mk ((by rw [hg]; exact Nat.ne_of_gt (blk_lt (g := gb1140) (o := .cells #[.int .i64 a0_0, .slice (some ad1141) l0_1.length c0_1, .int .i64 a0_2, .int .i64 a0_3, .int .i64 a0_4, .int .i64 a0_5, .slice A0_6 l0_6.length c0_6, .slice A0_7 l0_7.length c0_7, .int .i64 a0_8] 76 (0, 0)) (by (with_reducible repeat (first | refine blk_drewN ?_ _ | refine blk_drew ?_ | refine blk_alloc ?_ _)); exact BK1140.out)) : gb1142 ≠ gb1140)); clear HO_7; clear BK1140; clear HB; have HO_7 := n0_; have BK1140 := n1_; have HB := n2_; have BK1142 := n3_; have GW1142 := n4_; have GE1142 := n5_; have NB1140_1142 := n6_; have NB1142_1140 := n7_; clear n0_ n1_ n2_ n3_ n4_ n5_ n6_ n7_; clear hb hbox hg; have hnb20 := NB1142_1140.out; have hnc20 := NB1140_1142.out; have hcz21_0 : w19.cell? ⟨gb1142, 0, none⟩ = some (.int .i64 0) := (blk_cell BK1142.out 0).trans rfl; have hcz21_1 : w19.cell? ⟨gb1142, 1, none⟩ = some (.int .i64 0) := (blk_cell BK1142.out 1).trans rfl; have hcz21_2 : w19.cell? ⟨gb1142, 2, none⟩ = some (.int .i64 0) := (blk_cell BK1142.out 2).trans rfl; have hcz21_3 : w19.cell? ⟨gb1142, 3, none⟩ = some (.int .i64 0) := (blk_cell BK1142.out 3).trans rfl; have hcz21_4 : w19.cell? ⟨gb1142, 4, none⟩ = some (.int .i64 0) := (blk_cell BK1142.out 4).trans rfl; have hfz21_0 := blk_frozen BK1142.out 0; have hfz21_1 := blk_frozen BK1142.out 1; have hfz21_2 := blk_frozen BK1142.out 2; have hfz21_3 := blk_frozen BK1142.out 3; have hfz21_4 := blk_frozen BK1142.out 4))
                    go_roundg k1
                    case measure => have := HK1.out; omega
                    case rel => exact ⟨(x7_1), (wrap64 (x13_1 + 1)), (by first | rfl | (simp; done) | (simp [*]; done)), H', ⟨by have := HK1.out; omega⟩, ⟨by (with_reducible repeat (first | apply Kd.R_alloc | apply Kd.R_drewN | apply Kd.R_drew)); exact Kd.R_mono (Kd.R_far (p := ⟨gb1142, 4, none⟩) (Kd.R_far (p := ⟨gb1142, 3, none⟩) (Kd.R_far (p := ⟨gb1142, 2, none⟩) (Kd.R_far (p := ⟨gb1142, 1, none⟩) (Kd.R_far (p := ⟨gb1142, 0, none⟩) (Kd.R_types HO_7.out BK1142.out (by decide)) (fun _ hk => hk.2) (.int .i64 ((rd_T51 l0_1 x13_1).f0.f0.f0))) (fun _ hk => hk.2) (.int .i64 ((rd_T51 l0_1 x13_1).f0.f0.f1))) (fun _ hk => hk.2) (.int .i64 ((rd_T51 l0_1 x13_1).f0.f1.f0))) (fun _ hk => hk.2) (.int .i64 ((rd_T51 l0_1 x13_1).f0.f1.f1))) (fun _ hk => hk.2) (.int .i64 ((rd_T51 l0_1 x13_1).f1))) (fun _ hk => trivial)⟩, ⟨by (with_reducible repeat (first | refine blk_drewN ?_ _ | refine blk_drew ?_ | refine blk_alloc ?_ _)); refine blk_far ?_ NB1140_1142.out _; (with_reducible repeat (first | refine blk_drewN ?_ _ | refine blk_drew ?_ | refine blk_alloc ?_ _)); refine blk_far ?_ NB1140_1142.out _; (with_reducible repeat (first | refine blk_drewN ?_ _ | refine blk_drew ?_ | refine blk_alloc ?_ _)); refine blk_far ?_ NB1140_1142.out _; (with_reducible repeat (first | refine blk_drewN ?_ _ | refine blk_drew ?_ | refine blk_alloc ?_ _)); refine blk_far ?_ NB1140_1142.out _; (with_reducible repeat (first | refine blk_drewN ?_ _ | refine blk_drew ?_ | refine blk_alloc ?_ _)); refine blk_far ?_ NB1140_1142.out _; (with_reducible repeat (first | refine blk_drewN ?_ _ | refine blk_drew ?_ | refine blk_alloc ?_ _)); exact BK1140.out⟩, ⟨by repeat (first | (with_reducible first | exact HB.out | apply below_alloc | apply pw_below_drewN | apply below_drew1 | refine below_set ?_ GE1140.out | refine below_set ?_ GE1142.out) | exact HB.out)⟩⟩
                · rw [if_neg c11] at H
                  have c11b0 : decide (((rd_T51 l0_1 x13_1).f0.f1.f0) ≤ a2) = false := decide_eq_false c11
                  clear c11
                  have H' := Aside0.mk H
                  clear H
                  have p1141 : 0 ≤ (x13_1 : Int) := of_decide_eq_true (by first | (with_reducible assumption) | assumption)
                  have q1141 : x13_1 < (l0_1.length : Int) := of_decide_eq_true (by first | (with_reducible assumption) | assumption)
                  obtain ⟨ad1141, e1141, hx1141_0, hx1141_1, hx1141_2, hx1141_3, hx1141_4⟩ := at_T51 HR0_1.out x13_1 p1141 q1141
                  cases e1141
                  replace hx1141_0 := (HB.out.cell (World.block_lt_of_cell? w _ hx1141_0)).trans hx1141_0
                  replace hx1141_1 := (HB.out.cell (World.block_lt_of_cell? w _ hx1141_1)).trans hx1141_1
                  replace hx1141_2 := (HB.out.cell (World.block_lt_of_cell? w _ hx1141_2)).trans hx1141_2
                  replace hx1141_3 := (HB.out.cell (World.block_lt_of_cell? w _ hx1141_3)).trans hx1141_3
                  replace hx1141_4 := (HB.out.cell (World.block_lt_of_cell? w _ hx1141_4)).trans hx1141_4
                  replace p1141 := eq_true p1141
                  replace q1141 := eq_true q1141
                  go_wp2_with (first | ((with_reducible refine gate_dst (N := 9) rfl ?_); refine box_event ?hg (N := 9) ?hd (cs := #[.int .i64 0, .int .i64 0, .int .i64 0, .int .i64 0, .int .i64 0]) (t := 51) ?hr ?_; (case hd => rfl); (case hg => rfl); (case hr => first | (go_simp; done) | (go_simp; rfl)); intro gb1142 hg w22 hbox hb; have n0_ := Aside0.mk (Kd.R_below (by (with_reducible repeat (first | apply Kd.R_alloc | apply Kd.R_drewN | apply Kd.R_drew)); exact HO_7.out) hb); have n1_ := Aside0.mk (blk_below (g := gb1140) (o := .cells #[.int .i64 a0_0, .slice (some ad1141) l0_1.length c0_1, .int .i64 a0_2, .int .i64 a0_3, .int .i64 a0_4, .int .i64 a0_5, .slice A0_6 l0_6.length c0_6, .slice A0_7 l0_7.length c0_7, .int .i64 a0_8] 76 (0, 0)) (by (with_reducible repeat (first | refine blk_drewN ?_ _ | refine blk_drew ?_ | refine blk_alloc ?_ _)); exact BK1140.out) hb); have n2_ := Aside0.mk (below_step (by repeat (first | (with_reducible first | exact HB.out | apply below_alloc | apply pw_below_drewN | apply below_drew1 | refine below_set ?_ GE1140.out) | exact HB.out)) hb); have n3_ := Aside0.mk (hbox); have n4_ := Aside0.mk ((by rw [hg]; exact (below_size (by repeat (first | (with_reducible first | exact HB.out | apply below_alloc | apply pw_below_drewN | apply below_drew1 | refine below_set ?_ GE1140.out) | exact HB.out))) : w.heap.size ≤ gb1142)); have n5_ := Aside0.mk ((by rw [hg]; exact (below_size (by repeat (first | (with_reducible first | exact HB.out | apply below_alloc | apply pw_below_drewN | apply below_drew1 | refine below_set ?_ GE1140.out) | exact HB.out))) : w.heap.size ≤ gb1142)); have n6_ := Aside0.mk ((by rw [hg]; exact Nat.ne_of_lt (blk_lt (g := gb1140) (o := .cells #[.int .i64 a0_0, .slice (some ad1141) l0_1.length c0_1, .int .i64 a0_2, .int .i64 a0_3, .int .i64 a0_4, .int .i64 a0_5, .slice A0_6 l0_6.length c0_6, .slice A0_7 l0_7.length c0_7, .int .i64 a0_8] 76 (0, 0)) (by (with_reducible repeat (first | refine blk_drewN ?_ _ | refine blk_drew ?_ | refine blk_alloc ?_ _)); exact BK1140.out)) : gb1140 ≠ gb1142)); have n7_ := Aside0.mk ((by rw [hg]; exact Nat.ne_of_gt (blk_lt (g := gb1140) (o := .cells #[.int .i64 a0_0, .slice (some ad1141) l0_1.length c0_1, .int .i64 a0_2, .int .i64 a0_3, .int .i64 a0_4, .int .i64 a0_5, .slice A0_6 l0_6.length c0_6, .slice A0_7 l0_7.length c0_7, .int .i64 a0_8] 76 (0, 0)) (by (with_reducible repeat (first | refine blk_drewN ?_ _ | refine blk_drew ?_ | refine blk_alloc ?_ _)); exact BK1140.out)) : gb1142 ≠ gb1140)); clear HO_7; clear BK1140; clear HB; have HO_7 := n0_; have BK1140 := n1_; have HB := n2_; have BK1142 := n3_; have GW1142 := n4_; have GE1142 := n5_; have NB1140_1142 := n6_; have NB1142_1140 := n7_; clear n0_ n1_ n2_ n3_ n4_ n5_ n6_ n7_; clear hb hbox hg; have hnb23 := NB1142_1140.out; have hnc23 := NB1140_1142.out; have hcz24_0 : w22.cell? ⟨gb1142, 0, none⟩ = some (.int .i64 0) := (blk_cell BK1142.out 0).trans rfl; have hcz24_1 : w22.cell? ⟨gb1142, 1, none⟩ = some (.int .i64 0) := (blk_cell BK1142.out 1).trans rfl; have hcz24_2 : w22.cell? ⟨gb1142, 2, none⟩ = some (.int .i64 0) := (blk_cell BK1142.out 2).trans rfl; have hcz24_3 : w22.cell? ⟨gb1142, 3, none⟩ = some (.int .i64 0) := (blk_cell BK1142.out 3).trans rfl; have hcz24_4 : w22.cell? ⟨gb1142, 4, none⟩ = some (.int .i64 0) := (blk_cell BK1142.out 4).trans rfl; have hfz24_0 := blk_frozen BK1142.out 0; have hfz24_1 := blk_frozen BK1142.out 1; have hfz24_2 := blk_frozen BK1142.out 2; have hfz24_3 := blk_frozen BK1142.out 3; have hfz24_4 := blk_frozen BK1142.out 4))
                  go_roundg k1
                  case measure => have := HK1.out; omega
                  case rel => exact ⟨(x7_1), (wrap64 (x13_1 + 1)), (by first | rfl | (simp; done) | (simp [*]; done)), H', ⟨by have := HK1.out; omega⟩, ⟨by (with_reducible repeat (first | apply Kd.R_alloc | apply Kd.R_drewN | apply Kd.R_drew)); exact Kd.R_mono (Kd.R_far (p := ⟨gb1142, 4, none⟩) (Kd.R_far (p := ⟨gb1142, 3, none⟩) (Kd.R_far (p := ⟨gb1142, 2, none⟩) (Kd.R_far (p := ⟨gb1142, 1, none⟩) (Kd.R_far (p := ⟨gb1142, 0, none⟩) (Kd.R_types HO_7.out BK1142.out (by decide)) (fun _ hk => hk.2) (.int .i64 ((rd_T51 l0_1 x13_1).f0.f0.f0))) (fun _ hk => hk.2) (.int .i64 ((rd_T51 l0_1 x13_1).f0.f0.f1))) (fun _ hk => hk.2) (.int .i64 ((rd_T51 l0_1 x13_1).f0.f1.f0))) (fun _ hk => hk.2) (.int .i64 ((rd_T51 l0_1 x13_1).f0.f1.f1))) (fun _ hk => hk.2) (.int .i64 ((rd_T51 l0_1 x13_1).f1))) (fun _ hk => trivial)⟩, ⟨by (with_reducible repeat (first | refine blk_drewN ?_ _ | refine blk_drew ?_ | refine blk_alloc ?_ _)); refine blk_far ?_ NB1140_1142.out _; (with_reducible repeat (first | refine blk_drewN ?_ _ | refine blk_drew ?_ | refine blk_alloc ?_ _)); refine blk_far ?_ NB1140_1142.out _; (with_reducible repeat (first | refine blk_drewN ?_ _ | refine blk_drew ?_ | refine blk_alloc ?_ _)); refine blk_far ?_ NB1140_1142.out _; (with_reducible repeat (first | refine blk_drewN ?_ _ | refine blk_drew ?_ | refine blk_alloc ?_ _)); refine blk_far ?_ NB1140_1142.out _; (with_reducible repeat (first | refine blk_drewN ?_ _ | refine blk_drew ?_ | refine blk_alloc ?_ _)); refine blk_far ?_ NB1140_1142.out _; (with_reducible repeat (first | refine blk_drewN ?_ _ | refine blk_drew ?_ | refine blk_alloc ?_ _)); exact BK1140.out⟩, ⟨by repeat (first | (with_reducible first | exact HB.out | apply below_alloc | apply pw_below_drewN | apply below_drew1 | refine below_set ?_ GE1140.out | refine below_set ?_ GE1142.out) | exact HB.out)⟩⟩
              · rw [if_neg c10] at H
                have c10b0 : decide (a1 < ((rd_T51 l0_1 x13_1).f0.f0.f1)) = false := decide_eq_false c10
                clear c10
                have H' := Aside0.mk H
                clear H
                have p1141 : 0 ≤ (x13_1 : Int) := of_decide_eq_true (by first | (with_reducible assumption) | assumption)
                have q1141 : x13_1 < (l0_1.length : Int) := of_decide_eq_true (by first | (with_reducible assumption) | assumption)
                obtain ⟨ad1141, e1141, hx1141_0, hx1141_1, hx1141_2, hx1141_3, hx1141_4⟩ := at_T51 HR0_1.out x13_1 p1141 q1141
                cases e1141
                replace hx1141_0 := (HB.out.cell (World.block_lt_of_cell? w _ hx1141_0)).trans hx1141_0
                replace hx1141_1 := (HB.out.cell (World.block_lt_of_cell? w _ hx1141_1)).trans hx1141_1
                replace hx1141_2 := (HB.out.cell (World.block_lt_of_cell? w _ hx1141_2)).trans hx1141_2
                replace hx1141_3 := (HB.out.cell (World.block_lt_of_cell? w _ hx1141_3)).trans hx1141_3
                replace hx1141_4 := (HB.out.cell (World.block_lt_of_cell? w _ hx1141_4)).trans hx1141_4
                replace p1141 := eq_true p1141
                replace q1141 := eq_true q1141
                go_wp2_with (first | ((with_reducible refine gate_dst (N := 9) rfl ?_); refine box_event ?hg (N := 9) ?hd (cs := #[.int .i64 0, .int .i64 0, .int .i64 0, .int .i64 0, .int .i64 0]) (t := 51) ?hr ?_; (case hd => rfl); (case hg => rfl); (case hr => first | (go_simp; done) | (go_simp; rfl)); intro gb1142 hg w25 hbox hb; have n0_ := Aside0.mk (Kd.R_below (by (with_reducible repeat (first | apply Kd.R_alloc | apply Kd.R_drewN | apply Kd.R_drew)); exact HO_7.out) hb); have n1_ := Aside0.mk (blk_below (g := gb1140) (o := .cells #[.int .i64 a0_0, .slice (some ad1141) l0_1.length c0_1, .int .i64 a0_2, .int .i64 a0_3, .int .i64 a0_4, .int .i64 a0_5, .slice A0_6 l0_6.length c0_6, .slice A0_7 l0_7.length c0_7, .int .i64 a0_8] 76 (0, 0)) (by (with_reducible repeat (first | refine blk_drewN ?_ _ | refine blk_drew ?_ | refine blk_alloc ?_ _)); exact BK1140.out) hb); have n2_ := Aside0.mk (below_step (by repeat (first | (with_reducible first | exact HB.out | apply below_alloc | apply pw_below_drewN | apply below_drew1 | refine below_set ?_ GE1140.out) | exact HB.out)) hb); have n3_ := Aside0.mk (hbox); have n4_ := Aside0.mk ((by rw [hg]; exact (below_size (by repeat (first | (with_reducible first | exact HB.out | apply below_alloc | apply pw_below_drewN | apply below_drew1 | refine below_set ?_ GE1140.out) | exact HB.out))) : w.heap.size ≤ gb1142)); have n5_ := Aside0.mk ((by rw [hg]; exact (below_size (by repeat (first | (with_reducible first | exact HB.out | apply below_alloc | apply pw_below_drewN | apply below_drew1 | refine below_set ?_ GE1140.out) | exact HB.out))) : w.heap.size ≤ gb1142)); have n6_ := Aside0.mk ((by rw [hg]; exact Nat.ne_of_lt (blk_lt (g := gb1140) (o := .cells #[.int .i64 a0_0, .slice (some ad1141) l0_1.length c0_1, .int .i64 a0_2, .int .i64 a0_3, .int .i64 a0_4, .int .i64 a0_5, .slice A0_6 l0_6.length c0_6, .slice A0_7 l0_7.length c0_7, .int .i64 a0_8] 76 (0, 0)) (by (with_reducible repeat (first | refine blk_drewN ?_ _ | refine blk_drew ?_ | refine blk_alloc ?_ _)); exact BK1140.out)) : gb1140 ≠ gb1142)); have n7_ := Aside0.mk ((by rw [hg]; exact Nat.ne_of_gt (blk_lt (g := gb1140) (o := .cells #[.int .i64 a0_0, .slice (some ad1141) l0_1.length c0_1, .int .i64 a0_2, .int .i64 a0_3, .int .i64 a0_4, .int .i64 a0_5, .slice A0_6 l0_6.length c0_6, .slice A0_7 l0_7.length c0_7, .int .i64 a0_8] 76 (0, 0)) (by (with_reducible repeat (first | refine blk_drewN ?_ _ | refine blk_drew ?_ | refine blk_alloc ?_ _)); exact BK1140.out)) : gb1142 ≠ gb1140)); clear HO_7; clear BK1140; clear HB; have HO_7 := n0_; have BK1140 := n1_; have HB := n2_; have BK1142 := n3_; have GW1142 := n4_; have GE1142 := n5_; have NB1140_1142 := n6_; have NB1142_1140 := n7_; clear n0_ n1_ n2_ n3_ n4_ n5_ n6_ n7_; clear hb hbox hg; have hnb26 := NB1142_1140.out; have hnc26 := NB1140_1142.out; have hcz27_0 : w25.cell? ⟨gb1142, 0, none⟩ = some (.int .i64 0) := (blk_cell BK1142.out 0).trans rfl; have hcz27_1 : w25.cell? ⟨gb1142, 1, none⟩ = some (.int .i64 0) := (blk_cell BK1142.out 1).trans rfl; have hcz27_2 : w25.cell? ⟨gb1142, 2, none⟩ = some (.int .i64 0) := (blk_cell BK1142.out 2).trans rfl; have hcz27_3 : w25.cell? ⟨gb1142, 3, none⟩ = some (.int .i64 0) := (blk_cell BK1142.out 3).trans rfl; have hcz27_4 : w25.cell? ⟨gb1142, 4, none⟩ = some (.int .i64 0) := (blk_cell BK1142.out 4).trans rfl; have hfz27_0 := blk_frozen BK1142.out 0; have hfz27_1 := blk_frozen BK1142.out 1; have hfz27_2 := blk_frozen BK1142.out 2; have hfz27_3 := blk_frozen BK1142.out 3; have hfz27_4 := blk_frozen BK1142.out 4))
                go_roundg k1
                case measure => have := HK1.out; omega
                case rel => exact ⟨(x7_1), (wrap64 (x13_1 + 1)), (by first | rfl | (simp; done) | (simp [*]; done)), H', ⟨by have := HK1.out; omega⟩, ⟨by (with_reducible repeat (first | apply Kd.R_alloc | apply Kd.R_drewN | apply Kd.R_drew)); exact Kd.R_mono (Kd.R_far (p := ⟨gb1142, 4, none⟩) (Kd.R_far (p := ⟨gb1142, 3, none⟩) (Kd.R_far (p := ⟨gb1142, 2, none⟩) (Kd.R_far (p := ⟨gb1142, 1, none⟩) (Kd.R_far (p := ⟨gb1142, 0, none⟩) (Kd.R_types HO_7.out BK1142.out (by decide)) (fun _ hk => hk.2) (.int .i64 ((rd_T51 l0_1 x13_1).f0.f0.f0))) (fun _ hk => hk.2) (.int .i64 ((rd_T51 l0_1 x13_1).f0.f0.f1))) (fun _ hk => hk.2) (.int .i64 ((rd_T51 l0_1 x13_1).f0.f1.f0))) (fun _ hk => hk.2) (.int .i64 ((rd_T51 l0_1 x13_1).f0.f1.f1))) (fun _ hk => hk.2) (.int .i64 ((rd_T51 l0_1 x13_1).f1))) (fun _ hk => trivial)⟩, ⟨by (with_reducible repeat (first | refine blk_drewN ?_ _ | refine blk_drew ?_ | refine blk_alloc ?_ _)); refine blk_far ?_ NB1140_1142.out _; (with_reducible repeat (first | refine blk_drewN ?_ _ | refine blk_drew ?_ | refine blk_alloc ?_ _)); refine blk_far ?_ NB1140_1142.out _; (with_reducible repeat (first | refine blk_drewN ?_ _ | refine blk_drew ?_ | refine blk_alloc ?_ _)); refine blk_far ?_ NB1140_1142.out _; (with_reducible repeat (first | refine blk_drewN ?_ _ | refine blk_drew ?_ | refine blk_alloc ?_ _)); refine blk_far ?_ NB1140_1142.out _; (with_reducible repeat (first | refine blk_drewN ?_ _ | refine blk_drew ?_ | refine blk_alloc ?_ _)); refine blk_far ?_ NB1140_1142.out _; (with_reducible repeat (first | refine blk_drewN ?_ _ | refine blk_drew ?_ | refine blk_alloc ?_ _)); exact BK1140.out⟩, ⟨by repeat (first | (with_reducible first | exact HB.out | apply below_alloc | apply pw_below_drewN | apply below_drew1 | refine below_set ?_ GE1140.out | refine below_set ?_ GE1142.out) | exact HB.out)⟩⟩
            · rw [if_neg c9] at H
              have c9b0 : decide (((rd_T51 l0_1 x13_1).f0.f0.f0) ≤ a1) = false := decide_eq_false c9
              clear c9
              have H' := Aside0.mk H
              clear H
              have p1141 : 0 ≤ (x13_1 : Int) := of_decide_eq_true (by first | (with_reducible assumption) | assumption)
              have q1141 : x13_1 < (l0_1.length : Int) := of_decide_eq_true (by first | (with_reducible assumption) | assumption)
              obtain ⟨ad1141, e1141, hx1141_0, hx1141_1, hx1141_2, hx1141_3, hx1141_4⟩ := at_T51 HR0_1.out x13_1 p1141 q1141
              cases e1141
              replace hx1141_0 := (HB.out.cell (World.block_lt_of_cell? w _ hx1141_0)).trans hx1141_0
              replace hx1141_1 := (HB.out.cell (World.block_lt_of_cell? w _ hx1141_1)).trans hx1141_1
              replace hx1141_2 := (HB.out.cell (World.block_lt_of_cell? w _ hx1141_2)).trans hx1141_2
              replace hx1141_3 := (HB.out.cell (World.block_lt_of_cell? w _ hx1141_3)).trans hx1141_3
              replace hx1141_4 := (HB.out.cell (World.block_lt_of_cell? w _ hx1141_4)).trans hx1141_4
              replace p1141 := eq_true p1141
              replace q1141 := eq_true q1141
              go_wp2_with (first | ((with_reducible refine gate_dst (N := 9) rfl ?_); refine box_event ?hg (N := 9) ?hd (cs := #[.int .i64 0, .int .i64 0, .int .i64 0, .int .i64 0, .int .i64 0]) (t := 51) ?hr ?_; (case hd => rfl); (case hg => rfl); (case hr => first | (go_simp; done) | (go_simp; rfl)); intro gb1142 hg w28 hbox hb; have n0_ := Aside0.mk (Kd.R_below (by (with_reducible repeat (first | apply Kd.R_alloc | apply Kd.R_drewN | apply Kd.R_drew)); exact HO_7.out) hb); have n1_ := Aside0.mk (blk_below (g := gb1140) (o := .cells #[.int .i64 a0_0, .slice (some ad1141) l0_1.length c0_1, .int .i64 a0_2, .int .i64 a0_3, .int .i64 a0_4, .int .i64 a0_5, .slice A0_6 l0_6.length c0_6, .slice A0_7 l0_7.length c0_7, .int .i64 a0_8] 76 (0, 0)) (by (with_reducible repeat (first | refine blk_drewN ?_ _ | refine blk_drew ?_ | refine blk_alloc ?_ _)); exact BK1140.out) hb); have n2_ := Aside0.mk (below_step (by repeat (first | (with_reducible first | exact HB.out | apply below_alloc | apply pw_below_drewN | apply below_drew1 | refine below_set ?_ GE1140.out) | exact HB.out)) hb); have n3_ := Aside0.mk (hbox); have n4_ := Aside0.mk ((by rw [hg]; exact (below_size (by repeat (first | (with_reducible first | exact HB.out | apply below_alloc | apply pw_below_drewN | apply below_drew1 | refine below_set ?_ GE1140.out) | exact HB.out))) : w.heap.size ≤ gb1142)); have n5_ := Aside0.mk ((by rw [hg]; exact (below_size (by repeat (first | (with_reducible first | exact HB.out | apply below_alloc | apply pw_below_drewN | apply below_drew1 | refine below_set ?_ GE1140.out) | exact HB.out))) : w.heap.size ≤ gb1142)); have n6_ := Aside0.mk ((by rw [hg]; exact Nat.ne_of_lt (blk_lt (g := gb1140) (o := .cells #[.int .i64 a0_0, .slice (some ad1141) l0_1.length c0_1, .int .i64 a0_2, .int .i64 a0_3, .int .i64 a0_4, .int .i64 a0_5, .slice A0_6 l0_6.length c0_6, .slice A0_7 l0_7.length c0_7, .int .i64 a0_8] 76 (0, 0)) (by (with_reducible repeat (first | refine blk_drewN ?_ _ | refine blk_drew ?_ | refine blk_alloc ?_ _)); exact BK1140.out)) : gb1140 ≠ gb1142)); have n7_ := Aside0.mk ((by rw [hg]; exact Nat.ne_of_gt (blk_lt (g := gb1140) (o := .cells #[.int .i64 a0_0, .slice (some ad1141) l0_1.length c0_1, .int .i64 a0_2, .int .i64 a0_3, .int .i64 a0_4, .int .i64 a0_5, .slice A0_6 l0_6.length c0_6, .slice A0_7 l0_7.length c0_7, .int .i64 a0_8] 76 (0, 0)) (by (with_reducible repeat (first | refine blk_drewN ?_ _ | refine blk_drew ?_ | refine blk_alloc ?_ _)); exact BK1140.out)) : gb1142 ≠ gb1140)); clear HO_7; clear BK1140; clear HB; have HO_7 := n0_; have BK1140 := n1_; have HB := n2_; have BK1142 := n3_; have GW1142 := n4_; have GE1142 := n5_; have NB1140_1142 := n6_; have NB1142_1140 := n7_; clear n0_ n1_ n2_ n3_ n4_ n5_ n6_ n7_; clear hb hbox hg; have hnb29 := NB1142_1140.out; have hnc29 := NB1140_1142.out; have hcz30_0 : w28.cell? ⟨gb1142, 0, none⟩ = some (.int .i64 0) := (blk_cell BK1142.out 0).trans rfl; have hcz30_1 : w28.cell? ⟨gb1142, 1, none⟩ = some (.int .i64 0) := (blk_cell BK1142.out 1).trans rfl; have hcz30_2 : w28.cell? ⟨gb1142, 2, none⟩ = some (.int .i64 0) := (blk_cell BK1142.out 2).trans rfl; have hcz30_3 : w28.cell? ⟨gb1142, 3, none⟩ = some (.int .i64 0) := (blk_cell BK1142.out 3).trans rfl; have hcz30_4 : w28.cell? ⟨gb1142, 4, none⟩ = some (.int .i64 0) := (blk_cell BK1142.out 4).trans rfl; have hfz30_0 := blk_frozen BK1142.out 0; have hfz30_1 := blk_frozen BK1142.out 1; have hfz30_2 := blk_frozen BK1142.out 2; have hfz30_3 := blk_frozen BK1142.out 3; have hfz30_4 := blk_frozen BK1142.out 4))
              go_roundg k1
              case measure => have := HK1.out; omega
              case rel => exact ⟨(x7_1), (wrap64 (x13_1 + 1)), (by first | rfl | (simp; done) | (simp [*]; done)), H', ⟨by have := HK1.out; omega⟩, ⟨by (with_reducible repeat (first | apply Kd.R_alloc | apply Kd.R_drewN | apply Kd.R_drew)); exact Kd.R_mono (Kd.R_far (p := ⟨gb1142, 4, none⟩) (Kd.R_far (p := ⟨gb1142, 3, none⟩) (Kd.R_far (p := ⟨gb1142, 2, none⟩) (Kd.R_far (p := ⟨gb1142, 1, none⟩) (Kd.R_far (p := ⟨gb1142, 0, none⟩) (Kd.R_types HO_7.out BK1142.out (by decide)) (fun _ hk => hk.2) (.int .i64 ((rd_T51 l0_1 x13_1).f0.f0.f0))) (fun _ hk => hk.2) (.int .i64 ((rd_T51 l0_1 x13_1).f0.f0.f1))) (fun _ hk => hk.2) (.int .i64 ((rd_T51 l0_1 x13_1).f0.f1.f0))) (fun _ hk => hk.2) (.int .i64 ((rd_T51 l0_1 x13_1).f0.f1.f1))) (fun _ hk => hk.2) (.int .i64 ((rd_T51 l0_1 x13_1).f1))) (fun _ hk => trivial)⟩, ⟨by (with_reducible repeat (first | refine blk_drewN ?_ _ | refine blk_drew ?_ | refine blk_alloc ?_ _)); refine blk_far ?_ NB1140_1142.out _; (with_reducible repeat (first | refine blk_drewN ?_ _ | refine blk_drew ?_ | refine blk_alloc ?_ _)); refine blk_far ?_ NB1140_1142.out _; (with_reducible repeat (first | refine blk_drewN ?_ _ | refine blk_drew ?_ | refine blk_alloc ?_ _)); refine blk_far ?_ NB1140_1142.out _; (with_reducible repeat (first | refine blk_drewN ?_ _ | refine blk_drew ?_ | refine blk_alloc ?_ _)); refine blk_far ?_ NB1140_1142.out _; (with_reducible repeat (first | refine blk_drewN ?_ _ | refine blk_drew ?_ | refine blk_alloc ?_ _)); refine blk_far ?_ NB1140_1142.out _; (with_reducible repeat (first | refine blk_drewN ?_ _ | refine blk_drew ?_ | refine blk_alloc ?_ _)); exact BK1140.out⟩, ⟨by repeat (first | (with_reducible first | exact HB.out | apply below_alloc | apply pw_below_drewN | apply below_drew1 | refine below_set ?_ GE1140.out | refine below_set ?_ GE1142.out) | exact HB.out)⟩⟩
          · rw [if_neg c8] at H
            exact absurd H (by simp)
        · rw [if_neg c7] at H
          exact absurd H (by simp)
      · rw [if_neg c6] at H
        have c6b0 : decide (x13_1 < (l0_1.length : Int)) = false := decide_eq_false c6
        clear c6
        obtain rfl := Option.some.inj H
        go_wp2
        go_ret
        exact ⟨_, by first | rfl | (simp [errW_none, errW_some] <;> rfl) | (simp [*, errW_none, errW_some] <;> rfl), by (with_reducible repeat (first | apply Kd.R_alloc | apply Kd.R_drewN | apply Kd.R_drew)); exact HO_7.out, by repeat (first | (with_reducible first | exact HB.out | apply below_alloc | apply pw_below_drewN | apply below_drew1 | refine below_set ?_ GE1140.out) | exact HB.out)⟩
mutual
def R31_Check.j0 : Nat → List (S51) → Bool → Option (Int)
  | 0, _, _ => none
  | k + 1, x0, x14 => if x14 = true then (some 6) else (if (x0.length : Int) > 4096 then (some 5) else (R31_Check.l0 k x0 x0 (x0.length : Int) 0))
def R31_Check.l0 : Nat → List (S51) → List (S51) → Int → Int → Option (Int)
  | 0, _, _, _, _ => none
  | k + 1, x0, x18, x19, x20 => if x20 < x19 then (if 0 ≤ x20 then (if x20 < (x18.length : Int) then ((R31_Valid.f ((rd_T51 x18 x20).f0.f0.f0) ((rd_T51 x18 x20).f0.f0.f1) ((rd_T51 x18 x20).f0.f1.f0) ((rd_T51 x18 x20).f0.f1.f1)).bind fun t1183 => (if t1183 = true then (if x20 ≤ (x0.length : Int) then ((some (x0.take (x20 : Int).toNat : List (S51))).bind fun y1184 => (R31_Check.l1 k x0 x18 x19 x20 y1184 (y1184.length : Int) 0 ((rd_T51 x18 x20).f0.f0.f0) ((rd_T51 x18 x20).f0.f0.f1) ((rd_T51 x18 x20).f0.f1.f0) ((rd_T51 x18 x20).f0.f1.f1) ((rd_T51 x18 x20).f1))) else (none)) else (some 8))) else (none)) else (none)) else (some 0)
def R31_Check.l1 : Nat → List (S51) → List (S51) → Int → Int → List (S51) → Int → Int → Int → Int → Int → Int → Int → Option (Int)
  | 0, _, _, _, _, _, _, _, _, _, _, _, _ => none
  | k + 1, x0, x18, x19, x20, x31, x32, x33, x1183000, x1183001, x1183002, x1183003, x1183004 => if x33 < x32 then (if 0 ≤ x33 then (if x33 < (x31.length : Int) then (if ((rd_T51 x31 x33).f1) = x1183004 then (some 10) else (R31_Check.l1 k x0 x18 x19 x20 x31 x32 (wrap64 (x33 + 1)) x1183000 x1183001 x1183002 x1183003 x1183004)) else (none)) else (none)) else (R31_Check.l0 k x0 x18 x19 (wrap64 (x20 + 1)))
end
def R31_Check.f (k : Nat) (l0 : List (S51)) (a1 : Int) : Option (Int) := if a1 < 2 then (R31_Check.j0 k l0 true) else (R31_Check.j0 k l0 (decide (a1 > 64)))
set_option maxHeartbeats 8000000 in
set_option maxRecDepth 100000 in
theorem R31_Check.calls (k : Nat) (A0 : Option Addr) (c0 : Nat) (l0 : List (S51)) (a1 : Int) (r : Int) (w : World) (hr0 : Kd.C k51 w A0 l0.length l0) (hc0 : l0.length ≤ c0) (h : R31_Check.f k l0 a1 = some r) :
    Calls Try.prog 135 #[.slice A0 l0.length c0, .int .i64 a1] w fun e w' => e = .returned (.int .i64 r) ∧ Below w.heap.size w w' := by
  have hu51 := Try.underlying51
  have hu41 := Try.underlying41
  have HR0 := Aside0.mk hr0
  have HC0 := Aside0.mk hc0
  clear hr0 hc0
  have HB := Aside0.mk (Below.refl w.heap.size w)
  have H : (if a1 < 2 then (R31_Check.j0 k l0 true) else (R31_Check.j0 k l0 (decide (a1 > 64)))) = some r := h
  clear h
  have HC3 := Aside0.mk H
  clear H
  go_enter Try.func135, Try.ntmps135
  go_upto_region 1 with (fail)
  go_cut [14] (fun v14 wc => ∃ (kq : Nat) (x14_2 : Bool), v14 = .bool x14_2 ∧ Aside0 (R31_Check.j0 kq l0 x14_2 = some r) ∧ Aside0 (kq ≤ k) ∧ Aside0 (Below w.heap.size w wc))
  case first =>
    have H := HC3.out
    clear HC3
    by_cases c4 : a1 < 2
    · rw [if_pos c4] at H
      have c4b0 : decide (a1 < 2) = true := decide_eq_true c4
      clear c4
      (first | rw [c4b0] | (simp only [i64_w, i32_w]; rw [c4b0]) | skip)
      have H' := Aside0.mk H
      clear H
      go_wp2
      go_meet
      case rel => exact ⟨_, (true), (by first | rfl | (simp; done) | (simp [*]; done)), H', ⟨by first | omega | exact Nat.le_refl _⟩, ⟨by repeat (first | (with_reducible first | exact HB.out | apply below_alloc | apply pw_below_drewN | apply below_drew1) | exact HB.out)⟩⟩
    · rw [if_neg c4] at H
      have c4b0 : decide (a1 < 2) = false := decide_eq_false c4
      clear c4
      (first | rw [c4b0] | (simp only [i64_w, i32_w]; rw [c4b0]) | skip)
      have H' := Aside0.mk H
      clear H
      go_wp2
      go_meet
      case rel => exact ⟨_, (decide (a1 > 64)), (by first | rfl | (simp; done) | (simp [*]; done)), H', ⟨by first | omega | exact Nat.le_refl _⟩, ⟨by repeat (first | (with_reducible first | exact HB.out | apply below_alloc | apply pw_below_drewN | apply below_drew1) | exact HB.out)⟩⟩
  case rest =>
    clear HC3
    try clear c1
    try clear p2
    try clear c4
    try clear c4b0
    obtain ⟨kq, x14_2, rfl, HA, HJ2, HB⟩ := hcut
    cases kq with
    | zero => exact absurd HA.out (by simp [R31_Check.j0])
    | succ kj2 =>
      have H := HA.out
      clear HA
      simp only [R31_Check.j0] at H
      by_cases c5 : x14_2 = true
      · subst c5
        have H1 : (some 6) = some r := by rw [if_pos rfl] at H; exact H
        clear H
        have H := H1
        clear H1
        obtain rfl := Option.some.inj H
        go_wp2
        go_ret
        exact ⟨by first | rfl | (simp [errW_none, errW_some] <;> rfl) | (simp [*, errW_none, errW_some] <;> rfl), by repeat (first | (with_reducible first | exact HB.out | apply below_alloc | apply pw_below_drewN | apply below_drew1) | exact HB.out)⟩
      · replace c5 := Bool.eq_false_iff.mpr c5
        subst c5
        have H1 : (if (l0.length : Int) > 4096 then (some 5) else (R31_Check.l0 kj2 l0 l0 (l0.length : Int) 0)) = some r := by rw [if_neg (show ¬ (false = true) by decide)] at H; exact H
        clear H
        have H := H1
        clear H1
        by_cases c6 : (l0.length : Int) > 4096
        · rw [if_pos c6] at H
          have c6b0 : decide (4096 < (l0.length : Int)) = true := decide_eq_true c6
          have c6b1 : decide (4096 < l0.length) = true := decide_eq_true (by omega)
          clear c6
          obtain rfl := Option.some.inj H
          go_wp2
          go_ret
          exact ⟨by first | rfl | (simp [errW_none, errW_some] <;> rfl) | (simp [*, errW_none, errW_some] <;> rfl), by repeat (first | (with_reducible first | exact HB.out | apply below_alloc | apply pw_below_drewN | apply below_drew1) | exact HB.out)⟩
        · rw [if_neg c6] at H
          have c6b0 : decide (4096 < (l0.length : Int)) = false := decide_eq_false c6
          have c6b1 : decide (4096 < l0.length) = false := decide_eq_false (by omega)
          clear c6
          have H' := Aside0.mk H
          clear H
          go_wp2
          go_loopg [20] kj2 (fun kq v20 w' => ∃ (x20_2 : Int), v20 = .int .i64 x20_2 ∧ Aside0 (R31_Check.l0 kq l0 l0 (l0.length : Int) x20_2 = some r) ∧ Aside0 (kq ≤ kj2) ∧ Aside0 (Below w.heap.size w w'))
          case atStart => exact ⟨(0), (by first | rfl | (simp; done) | (simp [*]; done)), H', ⟨Nat.le_refl _⟩, ⟨by repeat (first | (with_reducible first | exact HB.out | apply below_alloc | apply pw_below_drewN | apply below_drew1) | exact HB.out)⟩⟩
          case round =>
            clear H'
            try clear c1
            try clear p2
            try clear c4
            try clear c4b0
            try clear c5
            try clear c6
            try clear c6b0
            try clear c6b1
            try clear p2
            obtain ⟨x20_2, rfl, HA, HK2, HB⟩ := hrel
            cases gk with
            | zero => exact absurd HA.out (by simp [R31_Check.l0])
            | succ k2 =>
              have H := HA.out
              clear HA
              simp only [R31_Check.l0] at H
              by_cases c7 : x20_2 < (l0.length : Int)
              · rw [if_pos c7] at H
                have c7b0 : decide (x20_2 < (l0.length : Int)) = true := decide_eq_true c7
                clear c7
                by_cases c8 : 0 ≤ x20_2
                · rw [if_pos c8] at H
                  have c8b0 : decide (0 ≤ x20_2) = true := decide_eq_true c8
                  clear c8
                  by_cases c9 : x20_2 < (l0.length : Int)
                  · rw [if_pos c9] at H
                    have c9b0 : decide (x20_2 < (l0.length : Int)) = true := decide_eq_true c9
                    clear c9
                    replace H := Option.bind_eq_some_iff.mp H
                    obtain ⟨t1183, A100, H⟩ := H
                    replace H : (if t1183 = true then (if x20_2 ≤ (l0.length : Int) then ((some (l0.take (x20_2 : Int).toNat : List (S51))).bind fun y1184 => (R31_Check.l1 k2 l0 l0 (l0.length : Int) x20_2 y1184 (y1184.length : Int) 0 ((rd_T51 l0 x20_2).f0.f0.f0) ((rd_T51 l0 x20_2).f0.f0.f1) ((rd_T51 l0 x20_2).f0.f1.f0) ((rd_T51 l0 x20_2).f0.f1.f1) ((rd_T51 l0 x20_2).f1))) else (none)) else (some 8)) = some r := H
                    have A10 := Aside0.mk A100
                    clear A100
                    by_cases c11 : t1183 = true
                    · subst c11
                      have H1 : (if x20_2 ≤ (l0.length : Int) then ((some (l0.take (x20_2 : Int).toNat : List (S51))).bind fun y1184 => (R31_Check.l1 k2 l0 l0 (l0.length : Int) x20_2 y1184 (y1184.length : Int) 0 ((rd_T51 l0 x20_2).f0.f0.f0) ((rd_T51 l0 x20_2).f0.f0.f1) ((rd_T51 l0 x20_2).f0.f1.f0) ((rd_T51 l0 x20_2).f0.f1.f1) ((rd_T51 l0 x20_2).f1))) else (none)) = some r := by rw [if_pos rfl] at H; exact H
                      clear H
                      have H := H1
                      clear H1
                      have c12b0 := eq_true (of_decide_eq_true (by first | (with_reducible assumption) | assumption) : 0 ≤ x20_2)
                      by_cases c13 : x20_2 ≤ (l0.length : Int)
                      · rw [if_pos c13] at H
                        have c13b0 := eq_true c13
                        have c13b1 : decide (x20_2 ≤ (l0.length : Int)) = true := decide_eq_true c13
                        clear c13
                        obtain ⟨y1184, hy1184⟩ : ∃ y_ : List (S51), y_ = (l0.take (x20_2 : Int).toNat) := ⟨_, rfl⟩
                        replace H : (R31_Check.l1 k2 l0 l0 (l0.length : Int) x20_2 y1184 (y1184.length : Int) 0 ((rd_T51 l0 x20_2).f0.f0.f0) ((rd_T51 l0 x20_2).f0.f0.f1) ((rd_T51 l0 x20_2).f0.f1.f0) ((rd_T51 l0 x20_2).f0.f1.f1) ((rd_T51 l0 x20_2).f1)) = some r := by first | (rw [hy1184]; with_reducible exact H) | (have H2_ := (Option.bind_some _ _).symm.trans H; rw [hy1184]; with_reducible exact H2_) | (have H2_ := (Option.bind_some _ _).symm.trans H; with_reducible exact H2_) | with_reducible exact H | (rw [hy1184]; exact H) | exact H
                        have Ny1184 := Aside0.mk hy1184
                        clear hy1184
                        have H' := Aside0.mk H
                        clear H
                        have p1181 : 0 ≤ (x20_2 : Int) := of_decide_eq_true (by first | (with_reducible assumption) | assumption)
                        have q1181 : x20_2 < (l0.length : Int) := of_decide_eq_true (by first | (with_reducible assumption) | assumption)
                        obtain ⟨ad1181, e1181, hx1181_0, hx1181_1, hx1181_2, hx1181_3, hx1181_4⟩ := at_T51 HR0.out x20_2 p1181 q1181
                        cases e1181
                        replace hx1181_0 := (HB.out.cell (World.block_lt_of_cell? w _ hx1181_0)).trans hx1181_0
                        replace hx1181_1 := (HB.out.cell (World.block_lt_of_cell? w _ hx1181_1)).trans hx1181_1
                        replace hx1181_2 := (HB.out.cell (World.block_lt_of_cell? w _ hx1181_2)).trans hx1181_2
                        replace hx1181_3 := (HB.out.cell (World.block_lt_of_cell? w _ hx1181_3)).trans hx1181_3
                        replace hx1181_4 := (HB.out.cell (World.block_lt_of_cell? w _ hx1181_4)).trans hx1181_4
                        replace p1181 := eq_true p1181
                        replace q1181 := eq_true q1181
                        go_wp2_with (first | ((with_reducible refine gate_dst (N := 6) rfl ?_); refine box_event ?hg (N := 6) ?hd (cs := #[.int .i64 0, .int .i64 0, .int .i64 0, .int .i64 0, .int .i64 0]) (t := 51) ?hr ?_; (case hd => rfl); (case hg => rfl); (case hr => first | (go_simp; done) | (go_simp; rfl)); intro gb1182 hg w14 hbox hb; have n0_ := Aside0.mk (below_step (by repeat (first | (with_reducible first | exact HB.out | apply below_alloc | apply pw_below_drewN | apply below_drew1) | exact HB.out)) hb); have n1_ := Aside0.mk (hbox); have n2_ := Aside0.mk ((by rw [hg]; exact (below_size (by repeat (first | (with_reducible first | exact HB.out | apply below_alloc | apply pw_below_drewN | apply below_drew1) | exact HB.out))) : w.heap.size ≤ gb1182)); have n3_ := Aside0.mk ((by rw [hg]; exact (below_size (by repeat (first | (with_reducible first | exact HB.out | apply below_alloc | apply pw_below_drewN | apply below_drew1) | exact HB.out))) : w.heap.size ≤ gb1182)); clear HB; have HB := n0_; have BK1182 := n1_; have GW1182 := n2_; have GE1182 := n3_; clear n0_ n1_ n2_ n3_; clear hb hbox hg; have hcz15_0 : w14.cell? ⟨gb1182, 0, none⟩ = some (.int .i64 0) := (blk_cell BK1182.out 0).trans rfl; have hcz15_1 : w14.cell? ⟨gb1182, 1, none⟩ = some (.int .i64 0) := (blk_cell BK1182.out 1).trans rfl; have hcz15_2 : w14.cell? ⟨gb1182, 2, none⟩ = some (.int .i64 0) := (blk_cell BK1182.out 2).trans rfl; have hcz15_3 : w14.cell? ⟨gb1182, 3, none⟩ = some (.int .i64 0) := (blk_cell BK1182.out 3).trans rfl; have hcz15_4 : w14.cell? ⟨gb1182, 4, none⟩ = some (.int .i64 0) := (blk_cell BK1182.out 4).trans rfl; have hfz15_0 := blk_frozen BK1182.out 0; have hfz15_1 := blk_frozen BK1182.out 1; have hfz15_2 := blk_frozen BK1182.out 2; have hfz15_3 := blk_frozen BK1182.out 3; have hfz15_4 := blk_frozen BK1182.out 4) | ((with_reducible refine gate_callee (f := 97) rfl ?_); refine goesL_ (some 27) rfl rfl Try.func97 (by kernel_rfl) rfl #[.agg #[.int .i64 ((rd_T51 l0 x20_2).f0.f0.f0), .int .i64 ((rd_T51 l0 x20_2).f0.f0.f1), .int .i64 ((rd_T51 l0 x20_2).f0.f1.f0), .int .i64 ((rd_T51 l0 x20_2).f0.f1.f1)]] rfl (by (try simp only [List.map_toArray, List.map_cons, List.map_nil]); first | done | rfl | (simp only [List.length_drop, List.length_take]; rfl)) ?_; (with_reducible refine (R31_Valid.calls ((rd_T51 l0 x20_2).f0.f0.f0) ((rd_T51 l0 x20_2).f0.f0.f1) ((rd_T51 l0 x20_2).f0.f1.f0) ((rd_T51 l0 x20_2).f0.f1.f1) true _ A10.out).mono ?_); rintro e w16 ⟨rfl, hb⟩; refine ⟨_, rfl, ?_⟩; have n0_ := Aside0.mk (blk_below (g := gb1182) (o := .cells #[.int .i64 ((rd_T51 l0 x20_2).f0.f0.f0), .int .i64 ((rd_T51 l0 x20_2).f0.f0.f1), .int .i64 ((rd_T51 l0 x20_2).f0.f1.f0), .int .i64 ((rd_T51 l0 x20_2).f0.f1.f1), .int .i64 ((rd_T51 l0 x20_2).f1)] 51 (0, 0)) (by (with_reducible repeat (first | refine blk_drewN ?_ _ | refine blk_drew ?_ | refine blk_alloc ?_ _)); refine blk_put (cs := #[.int .i64 ((rd_T51 l0 x20_2).f0.f0.f0), .int .i64 ((rd_T51 l0 x20_2).f0.f0.f1), .int .i64 ((rd_T51 l0 x20_2).f0.f1.f0), .int .i64 ((rd_T51 l0 x20_2).f0.f1.f1), .int .i64 0]) ?_ 4 _ rfl; (with_reducible repeat (first | refine blk_drewN ?_ _ | refine blk_drew ?_ | refine blk_alloc ?_ _)); refine blk_put (cs := #[.int .i64 ((rd_T51 l0 x20_2).f0.f0.f0), .int .i64 ((rd_T51 l0 x20_2).f0.f0.f1), .int .i64 ((rd_T51 l0 x20_2).f0.f1.f0), .int .i64 0, .int .i64 0]) ?_ 3 _ rfl; (with_reducible repeat (first | refine blk_drewN ?_ _ | refine blk_drew ?_ | refine blk_alloc ?_ _)); refine blk_put (cs := #[.int .i64 ((rd_T51 l0 x20_2).f0.f0.f0), .int .i64 ((rd_T51 l0 x20_2).f0.f0.f1), .int .i64 0, .int .i64 0, .int .i64 0]) ?_ 2 _ rfl; (with_reducible repeat (first | refine blk_drewN ?_ _ | refine blk_drew ?_ | refine blk_alloc ?_ _)); refine blk_put (cs := #[.int .i64 ((rd_T51 l0 x20_2).f0.f0.f0), .int .i64 0, .int .i64 0, .int .i64 0, .int .i64 0]) ?_ 1 _ rfl; (with_reducible repeat (first | refine blk_drewN ?_ _ | refine blk_drew ?_ | refine blk_alloc ?_ _)); refine blk_put (cs := #[.int .i64 0, .int .i64 0, .int .i64 0, .int .i64 0, .int .i64 0]) ?_ 0 _ rfl; (with_reducible repeat (first | refine blk_drewN ?_ _ | refine blk_drew ?_ | refine blk_alloc ?_ _)); exact BK1182.out) hb); have n1_ := Aside0.mk (below_step (by repeat (first | (with_reducible first | exact HB.out | apply below_alloc | apply pw_below_drewN | apply below_drew1 | refine below_set ?_ GE1182.out) | exact HB.out)) hb); clear BK1182; clear HB; have BK1182 := n0_; have HB := n1_; clear n0_ n1_; (try clear hb); (try clear hb2); (try clear hk); (try clear hi); have q17 : (x20_2 : Int) ≤ ((l0.length : Int) : Int) := of_decide_eq_true (by first | (with_reducible assumption) | assumption); obtain ⟨i017, hi017, _, hsz17, _⟩ := info_parts info51; have hroom17 : l0.length ≤ c0 := HC0.out; have hC17 : Kd.C k51 _ (some ad1181) l0.length l0 := HR0.out; have hcut17 := cut_to (P := Try.prog) 39 51 .i64 Try.underlying39 hi017 (some ad1181) l0.length c0 x20_2 (of_decide_eq_true (by first | (with_reducible assumption) | assumption)) q17 hroom17; have hr17 := Kd.C_take (m := (x20_2 : Int).toNat) hC17 (by omega); have hy17 : y1184.length = (x20_2 : Int).toNat := (by rw [Ny1184.out, List.length_take]; omega); rw [← Ny1184.out] at hr17; rw [← hy17] at hcut17; have HR1187 := Aside0.mk hr17; have HC1187 := Aside0.mk (show y1184.length ≤ c0 from by omega); clear hr17 hC17 hroom17 hi017 hsz17; have KY17 := Aside0.mk hy17; clear hy17; replace q17 := eq_true q17))
                        go_loopg [33] k2 (fun kq v33 w' => ∃ (x33_3 : Int), v33 = .int .i64 x33_3 ∧ Aside0 (R31_Check.l1 kq l0 l0 (l0.length : Int) x20_2 y1184 (y1184.length : Int) x33_3 ((rd_T51 l0 x20_2).f0.f0.f0) ((rd_T51 l0 x20_2).f0.f0.f1) ((rd_T51 l0 x20_2).f0.f1.f0) ((rd_T51 l0 x20_2).f0.f1.f1) ((rd_T51 l0 x20_2).f1) = some r) ∧ Aside0 (kq ≤ k2) ∧ Aside0 (w'.heap[gb1182]? = some (.cells #[.int .i64 ((rd_T51 l0 x20_2).f0.f0.f0), .int .i64 ((rd_T51 l0 x20_2).f0.f0.f1), .int .i64 ((rd_T51 l0 x20_2).f0.f1.f0), .int .i64 ((rd_T51 l0 x20_2).f0.f1.f1), .int .i64 ((rd_T51 l0 x20_2).f1)] 51 (0, 0))) ∧ Aside0 (Below w.heap.size w w'))
                        case atStart => exact ⟨(0), (by first | rfl | (simp; done) | (simp [*]; done)), H', ⟨Nat.le_refl _⟩, ⟨by (with_reducible repeat (first | refine blk_drewN ?_ _ | refine blk_drew ?_ | refine blk_alloc ?_ _)); exact BK1182.out⟩, ⟨by repeat (first | (with_reducible first | exact HB.out | apply below_alloc | apply pw_below_drewN | apply below_drew1 | refine below_set ?_ GE1182.out) | exact HB.out)⟩⟩
                        case round =>
                          clear H'
                          try clear c1
                          try clear p1
                          try clear q1
                          try clear hx1
                          try clear p2
                          try clear c4
                          try clear c4b0
                          try clear c5
                          try clear c6
                          try clear c6b0
                          try clear c6b1
                          try clear c7
                          try clear c7b0
                          try clear c8
                          try clear c8b0
                          try clear c9
                          try clear c9b0
                          try clear c11
                          try clear p11
                          try clear q11
                          try clear hx11
                          try clear c12
                          try clear c12b0
                          try clear c13
                          try clear c13b0
                          try clear c13b1
                          try clear q17
                          try clear hcz15_0
                          try clear hcz15_1
                          try clear hcz15_2
                          try clear hcz15_3
                          try clear hcz15_4
                          try clear hfz15_0
                          try clear hfz15_1
                          try clear hfz15_2
                          try clear hfz15_3
                          try clear hfz15_4
                          try clear hx1181_0
                          try clear hx1181_1
                          try clear hx1181_2
                          try clear hx1181_3
                          try clear hx1181_4
                          try clear p1181
                          try clear p2
                          try clear q1181
                          try clear q17
                          obtain ⟨x33_3, rfl, HA, HK3, BK1182, HB⟩ := hrel
                          cases gk with
                          | zero => exact absurd HA.out (by simp [R31_Check.l1])
                          | succ k3 =>
                            have H := HA.out
                            clear HA
                            simp only [R31_Check.l1] at H
                            by_cases c18 : x33_3 < (y1184.length : Int)
                            · rw [if_pos c18] at H
                              have c18b0 : decide (x33_3 < (y1184.length : Int)) = true := decide_eq_true c18
                              clear c18
                              by_cases c19 : 0 ≤ x33_3
                              · rw [if_pos c19] at H
                                have c19b0 : decide (0 ≤ x33_3) = true := decide_eq_true c19
                                clear c19
                                by_cases c20 : x33_3 < (y1184.length : Int)
                                · rw [if_pos c20] at H
                                  have c20b0 : decide (x33_3 < (y1184.length : Int)) = true := decide_eq_true c20
                                  clear c20
                                  by_cases c21 : ((rd_T51 y1184 x33_3).f1) = ((rd_T51 l0 x20_2).f1)
                                  · rw [if_pos c21] at H
                                    have c21b0 : (((rd_T51 y1184 x33_3).f1) == ((rd_T51 l0 x20_2).f1)) = true := beq_iff_eq.mpr c21
                                    have c21b1 : (((rd_T51 y1184 x33_3).f1) != ((rd_T51 l0 x20_2).f1)) = false := bne_eq_false_iff_eq.mpr c21
                                    clear c21
                                    obtain rfl := Option.some.inj H
                                    have p1188 : 0 ≤ (x33_3 : Int) := of_decide_eq_true (by first | (with_reducible assumption) | assumption)
                                    have q1188 : x33_3 < (y1184.length : Int) := of_decide_eq_true (by first | (with_reducible assumption) | assumption)
                                    obtain ⟨ad1188, e1188, hx1188_0, hx1188_1, hx1188_2, hx1188_3, hx1188_4⟩ := at_T51 HR1187.out x33_3 p1188 q1188
                                    obtain rfl : ad1181 = ad1188 := (by injection e1188)
                                    replace hx1188_0 := (HB.out.cell (World.block_lt_of_cell? w _ hx1188_0)).trans hx1188_0
                                    replace hx1188_1 := (HB.out.cell (World.block_lt_of_cell? w _ hx1188_1)).trans hx1188_1
                                    replace hx1188_2 := (HB.out.cell (World.block_lt_of_cell? w _ hx1188_2)).trans hx1188_2
                                    replace hx1188_3 := (HB.out.cell (World.block_lt_of_cell? w _ hx1188_3)).trans hx1188_3
                                    replace hx1188_4 := (HB.out.cell (World.block_lt_of_cell? w _ hx1188_4)).trans hx1188_4
                                    replace p1188 := eq_true p1188
                                    replace q1188 := eq_true q1188
                                    go_wp2_with (first | ((with_reducible refine gate_dst (N := 8) rfl ?_); refine box_event ?hg (N := 8) ?hd (cs := #[.int .i64 0, .int .i64 0, .int .i64 0, .int .i64 0, .int .i64 0]) (t := 51) ?hr ?_; (case hd => rfl); (case hg => rfl); (case hr => first | (go_simp; done) | (go_simp; rfl)); intro gb1189 hg w22 hbox hb; have n0_ := Aside0.mk (blk_below (g := gb1182) (o := .cells #[.int .i64 ((rd_T51 l0 x20_2).f0.f0.f0), .int .i64 ((rd_T51 l0 x20_2).f0.f0.f1), .int .i64 ((rd_T51 l0 x20_2).f0.f1.f0), .int .i64 ((rd_T51 l0 x20_2).f0.f1.f1), .int .i64 ((rd_T51 l0 x20_2).f1)] 51 (0, 0)) (by (with_reducible repeat (first | refine blk_drewN ?_ _ | refine blk_drew ?_ | refine blk_alloc ?_ _)); exact BK1182.out) hb); have n1_ := Aside0.mk (below_step (by repeat (first | (with_reducible first | exact HB.out | apply below_alloc | apply pw_below_drewN | apply below_drew1 | refine below_set ?_ GE1182.out) | exact HB.out)) hb); have n2_ := Aside0.mk (hbox); have n3_ := Aside0.mk ((by rw [hg]; exact (below_size (by repeat (first | (with_reducible first | exact HB.out | apply below_alloc | apply pw_below_drewN | apply below_drew1 | refine below_set ?_ GE1182.out) | exact HB.out))) : w.heap.size ≤ gb1189)); have n4_ := Aside0.mk ((by rw [hg]; exact (below_size (by repeat (first | (with_reducible first | exact HB.out | apply below_alloc | apply pw_below_drewN | apply below_drew1 | refine below_set ?_ GE1182.out) | exact HB.out))) : w.heap.size ≤ gb1189)); have n5_ := Aside0.mk ((by rw [hg]; exact Nat.ne_of_lt (blk_lt (g := gb1182) (o := .cells #[.int .i64 ((rd_T51 l0 x20_2).f0.f0.f0), .int .i64 ((rd_T51 l0 x20_2).f0.f0.f1), .int .i64 ((rd_T51 l0 x20_2).f0.f1.f0), .int .i64 ((rd_T51 l0 x20_2).f0.f1.f1), .int .i64 ((rd_T51 l0 x20_2).f1)] 51 (0, 0)) (by (with_reducible repeat (first | refine blk_drewN ?_ _ | refine blk_drew ?_ | refine blk_alloc ?_ _)); exact BK1182.out)) : gb1182 ≠ gb1189)); have n6_ := Aside0.mk ((by rw [hg]; exact Nat.ne_of_gt (blk_lt (g := gb1182) (o := .cells #[.int .i64 ((rd_T51 l0 x20_2).f0.f0.f0), .int .i64 ((rd_T51 l0 x20_2).f0.f0.f1), .int .i64 ((rd_T51 l0 x20_2).f0.f1.f0), .int .i64 ((rd_T51 l0 x20_2).f0.f1.f1), .int .i64 ((rd_T51 l0 x20_2).f1)] 51 (0, 0)) (by (with_reducible repeat (first | refine blk_drewN ?_ _ | refine blk_drew ?_ | refine blk_alloc ?_ _)); exact BK1182.out)) : gb1189 ≠ gb1182)); clear BK1182; clear HB; have BK1182 := n0_; have HB := n1_; have BK1189 := n2_; have GW1189 := n3_; have GE1189 := n4_; have NB1182_1189 := n5_; have NB1189_1182 := n6_; clear n0_ n1_ n2_ n3_ n4_ n5_ n6_; clear hb hbox hg; have hnb23 := NB1189_1182.out; have hnc23 := NB1182_1189.out; have hcz24_0 : w22.cell? ⟨gb1189, 0, none⟩ = some (.int .i64 0) := (blk_cell BK1189.out 0).trans rfl; have hcz24_1 : w22.cell? ⟨gb1189, 1, none⟩ = some (.int .i64 0) := (blk_cell BK1189.out 1).trans rfl; have hcz24_2 : w22.cell? ⟨gb1189, 2, none⟩ = some (.int .i64 0) := (blk_cell BK1189.out 2).trans rfl; have hcz24_3 : w22.cell? ⟨gb1189, 3, none⟩ = some (.int .i64 0) := (blk_cell BK1189.out 3).trans rfl; have hcz24_4 : w22.cell? ⟨gb1189, 4, none⟩ = some (.int .i64 0) := (blk_cell BK1189.out 4).trans rfl; have hfz24_0 := blk_frozen BK1189.out 0; have hfz24_1 := blk_frozen BK1189.out 1; have hfz24_2 := blk_frozen BK1189.out 2; have hfz24_3 := blk_frozen BK1189.out 3; have hfz24_4 := blk_frozen BK1189.out 4; have hcz25_0 : w22.cell? ⟨gb1182, 0, none⟩ = some (.int .i64 ((rd_T51 l0 x20_2).f0.f0.f0)) := (blk_cell BK1182.out 0).trans rfl; have hcz25_1 : w22.cell? ⟨gb1182, 1, none⟩ = some (.int .i64 ((rd_T51 l0 x20_2).f0.f0.f1)) := (blk_cell BK1182.out 1).trans rfl; have hcz25_2 : w22.cell? ⟨gb1182, 2, none⟩ = some (.int .i64 ((rd_T51 l0 x20_2).f0.f1.f0)) := (blk_cell BK1182.out 2).trans rfl; have hcz25_3 : w22.cell? ⟨gb1182, 3, none⟩ = some (.int .i64 ((rd_T51 l0 x20_2).f0.f1.f1)) := (blk_cell BK1182.out 3).trans rfl; have hcz25_4 : w22.cell? ⟨gb1182, 4, none⟩ = some (.int .i64 ((rd_T51 l0 x20_2).f1)) := (blk_cell BK1182.out 4).trans rfl; have hfz25_0 := blk_frozen BK1182.out 0; have hfz25_1 := blk_frozen BK1182.out 1; have hfz25_2 := blk_frozen BK1182.out 2; have hfz25_3 := blk_frozen BK1182.out 3; have hfz25_4 := blk_frozen BK1182.out 4))
                                    go_ret
                                    exact ⟨by first | rfl | (simp [errW_none, errW_some] <;> rfl) | (simp [*, errW_none, errW_some] <;> rfl), by repeat (first | (with_reducible first | exact HB.out | apply below_alloc | apply pw_below_drewN | apply below_drew1 | refine below_set ?_ GE1182.out | refine below_set ?_ GE1189.out) | exact HB.out)⟩
                                  · rw [if_neg c21] at H
                                    have c21b0 : (((rd_T51 y1184 x33_3).f1) == ((rd_T51 l0 x20_2).f1)) = false := beq_eq_false_iff_ne.mpr c21
                                    have c21b1 : (((rd_T51 y1184 x33_3).f1) != ((rd_T51 l0 x20_2).f1)) = true := bne_iff_ne.mpr c21
                                    have H' := Aside0.mk H
                                    clear H
                                    have p1188 : 0 ≤ (x33_3 : Int) := of_decide_eq_true (by first | (with_reducible assumption) | assumption)
                                    have q1188 : x33_3 < (y1184.length : Int) := of_decide_eq_true (by first | (with_reducible assumption) | assumption)
                                    obtain ⟨ad1188, e1188, hx1188_0, hx1188_1, hx1188_2, hx1188_3, hx1188_4⟩ := at_T51 HR1187.out x33_3 p1188 q1188
                                    obtain rfl : ad1181 = ad1188 := (by injection e1188)
                                    replace hx1188_0 := (HB.out.cell (World.block_lt_of_cell? w _ hx1188_0)).trans hx1188_0
                                    replace hx1188_1 := (HB.out.cell (World.block_lt_of_cell? w _ hx1188_1)).trans hx1188_1
                                    replace hx1188_2 := (HB.out.cell (World.block_lt_of_cell? w _ hx1188_2)).trans hx1188_2
                                    replace hx1188_3 := (HB.out.cell (World.block_lt_of_cell? w _ hx1188_3)).trans hx1188_3
                                    replace hx1188_4 := (HB.out.cell (World.block_lt_of_cell? w _ hx1188_4)).trans hx1188_4
                                    replace p1188 := eq_true p1188
                                    replace q1188 := eq_true q1188
                                    go_wp2_with (first | ((with_reducible refine gate_dst (N := 8) rfl ?_); refine box_event ?hg (N := 8) ?hd (cs := #[.int .i64 0, .int .i64 0, .int .i64 0, .int .i64 0, .int .i64 0]) (t := 51) ?hr ?_; (case hd => rfl); (case hg => rfl); (case hr => first | (go_simp; done) | (go_simp; rfl)); intro gb1189 hg w26 hbox hb; have n0_ := Aside0.mk (blk_below (g := gb1182) (o := .cells #[.int .i64 ((rd_T51 l0 x20_2).f0.f0.f0), .int .i64 ((rd_T51 l0 x20_2).f0.f0.f1), .int .i64 ((rd_T51 l0 x20_2).f0.f1.f0), .int .i64 ((rd_T51 l0 x20_2).f0.f1.f1), .int .i64 ((rd_T51 l0 x20_2).f1)] 51 (0, 0)) (by (with_reducible repeat (first | refine blk_drewN ?_ _ | refine blk_drew ?_ | refine blk_alloc ?_ _)); exact BK1182.out) hb); have n1_ := Aside0.mk (below_step (by repeat (first | (with_reducible first | exact HB.out | apply below_alloc | apply pw_below_drewN | apply below_drew1 | refine below_set ?_ GE1182.out) | exact HB.out)) hb); have n2_ := Aside0.mk (hbox); have n3_ := Aside0.mk ((by rw [hg]; exact (below_size (by repeat (first | (with_reducible first | exact HB.out | apply below_alloc | apply pw_below_drewN | apply below_drew1 | refine below_set ?_ GE1182.out) | exact HB.out))) : w.heap.size ≤ gb1189)); have n4_ := Aside0.mk ((by rw [hg]; exact (below_size (by repeat (first | (with_reducible first | exact HB.out | apply below_alloc | apply pw_below_drewN | apply below_drew1 | refine below_set ?_ GE1182.out) | exact HB.out))) : w.heap.size ≤ gb1189)); have n5_ := Aside0.mk ((by rw [hg]; exact Nat.ne_of_lt (blk_lt (g := gb1182) (o := .cells #[.int .i64 ((rd_T51 l0 x20_2).f0.f0.f0), .int .i64 ((rd_T51 l0 x20_2).f0.f0.f1), .int .i64 ((rd_T51 l0 x20_2).f0.f1.f0), .int .i64 ((rd_T51 l0 x20_2).f0.f1.f1), .int .i64 ((rd_T51 l0 x20_2).f1)] 51 (0, 0)) (by (with_reducible repeat (first | refine blk_drewN ?_ _ | refine blk_drew ?_ | refine blk_alloc ?_ _)); exact BK1182.out)) : gb1182 ≠ gb1189)); have n6_ := Aside0.mk ((by rw [hg]; exact Nat.ne_of_gt (blk_lt (g := gb1182) (o := .cells #[.int .i64 ((rd_T51 l0 x20_2).f0.f0.f0), .int .i64 ((rd_T51 l0 x20_2).f0.f0.f1), .int .i64 ((rd_T51 l0 x20_2).f0.f1.f0), .int .i64 ((rd_T51 l0 x20_2).f0.f1.f1), .int .i64 ((rd_T51 l0 x20_2).f1)] 51 (0, 0)) (by (with_reducible repeat (first | refine blk_drewN ?_ _ | refine blk_drew ?_ | refine blk_alloc ?_ _)); exact BK1182.out)) : gb1189 ≠ gb1182)); clear BK1182; clear HB; have BK1182 := n0_; have HB := n1_; have BK1189 := n2_; have GW1189 := n3_; have GE1189 := n4_; have NB1182_1189 := n5_; have NB1189_1182 := n6_; clear n0_ n1_ n2_ n3_ n4_ n5_ n6_; clear hb hbox hg; have hnb27 := NB1189_1182.out; have hnc27 := NB1182_1189.out; have hcz28_0 : w26.cell? ⟨gb1189, 0, none⟩ = some (.int .i64 0) := (blk_cell BK1189.out 0).trans rfl; have hcz28_1 : w26.cell? ⟨gb1189, 1, none⟩ = some (.int .i64 0) := (blk_cell BK1189.out 1).trans rfl; have hcz28_2 : w26.cell? ⟨gb1189, 2, none⟩ = some (.int .i64 0) := (blk_cell BK1189.out 2).trans rfl; have hcz28_3 : w26.cell? ⟨gb1189, 3, none⟩ = some (.int .i64 0) := (blk_cell BK1189.out 3).trans rfl; have hcz28_4 : w26.cell? ⟨gb1189, 4, none⟩ = some (.int .i64 0) := (blk_cell BK1189.out 4).trans rfl; have hfz28_0 := blk_frozen BK1189.out 0; have hfz28_1 := blk_frozen BK1189.out 1; have hfz28_2 := blk_frozen BK1189.out 2; have hfz28_3 := blk_frozen BK1189.out 3; have hfz28_4 := blk_frozen BK1189.out 4; have hcz29_0 : w26.cell? ⟨gb1182, 0, none⟩ = some (.int .i64 ((rd_T51 l0 x20_2).f0.f0.f0)) := (blk_cell BK1182.out 0).trans rfl; have hcz29_1 : w26.cell? ⟨gb1182, 1, none⟩ = some (.int .i64 ((rd_T51 l0 x20_2).f0.f0.f1)) := (blk_cell BK1182.out 1).trans rfl; have hcz29_2 : w26.cell? ⟨gb1182, 2, none⟩ = some (.int .i64 ((rd_T51 l0 x20_2).f0.f1.f0)) := (blk_cell BK1182.out 2).trans rfl; have hcz29_3 : w26.cell? ⟨gb1182, 3, none⟩ = some (.int .i64 ((rd_T51 l0 x20_2).f0.f1.f1)) := (blk_cell BK1182.out 3).trans rfl; have hcz29_4 : w26.cell? ⟨gb1182, 4, none⟩ = some (.int .i64 ((rd_T51 l0 x20_2).f1)) := (blk_cell BK1182.out 4).trans rfl; have hfz29_0 := blk_frozen BK1182.out 0; have hfz29_1 := blk_frozen BK1182.out 1; have hfz29_2 := blk_frozen BK1182.out 2; have hfz29_3 := blk_frozen BK1182.out 3; have hfz29_4 := blk_frozen BK1182.out 4))
                                    go_roundg k3
                                    case measure => have := HJ2.out; have := HK2.out; have := HK3.out; omega
                                    case rel => exact ⟨(wrap64 (x33_3 + 1)), (by first | rfl | (simp; done) | (simp [*]; done)), H', ⟨by have := HJ2.out; have := HK2.out; have := HK3.out; omega⟩, ⟨by (with_reducible repeat (first | refine blk_drewN ?_ _ | refine blk_drew ?_ | refine blk_alloc ?_ _)); refine blk_far ?_ NB1182_1189.out _; (with_reducible repeat (first | refine blk_drewN ?_ _ | refine blk_drew ?_ | refine blk_alloc ?_ _)); refine blk_far ?_ NB1182_1189.out _; (with_reducible repeat (first | refine blk_drewN ?_ _ | refine blk_drew ?_ | refine blk_alloc ?_ _)); refine blk_far ?_ NB1182_1189.out _; (with_reducible repeat (first | refine blk_drewN ?_ _ | refine blk_drew ?_ | refine blk_alloc ?_ _)); refine blk_far ?_ NB1182_1189.out _; (with_reducible repeat (first | refine blk_drewN ?_ _ | refine blk_drew ?_ | refine blk_alloc ?_ _)); refine blk_far ?_ NB1182_1189.out _; (with_reducible repeat (first | refine blk_drewN ?_ _ | refine blk_drew ?_ | refine blk_alloc ?_ _)); exact BK1182.out⟩, ⟨by repeat (first | (with_reducible first | exact HB.out | apply below_alloc | apply pw_below_drewN | apply below_drew1 | refine below_set ?_ GE1182.out | refine below_set ?_ GE1189.out) | exact HB.out)⟩⟩
                                · rw [if_neg c20] at H
                                  exact absurd H (by simp)
                              · rw [if_neg c19] at H
                                exact absurd H (by simp)
                            · rw [if_neg c18] at H
                              have c18b0 : decide (x33_3 < (y1184.length : Int)) = false := decide_eq_false c18
                              clear c18
                              have H' := Aside0.mk H
                              clear H
                              go_wp2
                              go_roundg k3
                              case measure => have := HJ2.out; have := HK2.out; have := HK3.out; omega
                              case rel => exact ⟨(wrap64 (x20_2 + 1)), (by first | rfl | (simp; done) | (simp [*]; done)), H', ⟨by have := HJ2.out; have := HK2.out; have := HK3.out; omega⟩, ⟨by repeat (first | (with_reducible first | exact HB.out | apply below_alloc | apply pw_below_drewN | apply below_drew1 | refine below_set ?_ GE1182.out) | exact HB.out)⟩⟩
                      · rw [if_neg c13] at H
                        exact absurd H (by simp)
                    · replace c11 := Bool.eq_false_iff.mpr c11
                      subst c11
                      have H1 : (some 8) = some r := by rw [if_neg (show ¬ (false = true) by decide)] at H; exact H
                      clear H
                      have H := H1
                      clear H1
                      obtain rfl := Option.some.inj H
                      have p1181 : 0 ≤ (x20_2 : Int) := of_decide_eq_true (by first | (with_reducible assumption) | assumption)
                      have q1181 : x20_2 < (l0.length : Int) := of_decide_eq_true (by first | (with_reducible assumption) | assumption)
                      obtain ⟨ad1181, e1181, hx1181_0, hx1181_1, hx1181_2, hx1181_3, hx1181_4⟩ := at_T51 HR0.out x20_2 p1181 q1181
                      cases e1181
                      replace hx1181_0 := (HB.out.cell (World.block_lt_of_cell? w _ hx1181_0)).trans hx1181_0
                      replace hx1181_1 := (HB.out.cell (World.block_lt_of_cell? w _ hx1181_1)).trans hx1181_1
                      replace hx1181_2 := (HB.out.cell (World.block_lt_of_cell? w _ hx1181_2)).trans hx1181_2
                      replace hx1181_3 := (HB.out.cell (World.block_lt_of_cell? w _ hx1181_3)).trans hx1181_3
                      replace hx1181_4 := (HB.out.cell (World.block_lt_of_cell? w _ hx1181_4)).trans hx1181_4
                      replace p1181 := eq_true p1181
                      replace q1181 := eq_true q1181
                      go_wp2_with (first | ((with_reducible refine gate_dst (N := 6) rfl ?_); refine box_event ?hg (N := 6) ?hd (cs := #[.int .i64 0, .int .i64 0, .int .i64 0, .int .i64 0, .int .i64 0]) (t := 51) ?hr ?_; (case hd => rfl); (case hg => rfl); (case hr => first | (go_simp; done) | (go_simp; rfl)); intro gb1182 hg w30 hbox hb; have n0_ := Aside0.mk (below_step (by repeat (first | (with_reducible first | exact HB.out | apply below_alloc | apply pw_below_drewN | apply below_drew1) | exact HB.out)) hb); have n1_ := Aside0.mk (hbox); have n2_ := Aside0.mk ((by rw [hg]; exact (below_size (by repeat (first | (with_reducible first | exact HB.out | apply below_alloc | apply pw_below_drewN | apply below_drew1) | exact HB.out))) : w.heap.size ≤ gb1182)); have n3_ := Aside0.mk ((by rw [hg]; exact (below_size (by repeat (first | (with_reducible first | exact HB.out | apply below_alloc | apply pw_below_drewN | apply below_drew1) | exact HB.out))) : w.heap.size ≤ gb1182)); clear HB; have HB := n0_; have BK1182 := n1_; have GW1182 := n2_; have GE1182 := n3_; clear n0_ n1_ n2_ n3_; clear hb hbox hg; have hcz31_0 : w30.cell? ⟨gb1182, 0, none⟩ = some (.int .i64 0) := (blk_cell BK1182.out 0).trans rfl; have hcz31_1 : w30.cell? ⟨gb1182, 1, none⟩ = some (.int .i64 0) := (blk_cell BK1182.out 1).trans rfl; have hcz31_2 : w30.cell? ⟨gb1182, 2, none⟩ = some (.int .i64 0) := (blk_cell BK1182.out 2).trans rfl; have hcz31_3 : w30.cell? ⟨gb1182, 3, none⟩ = some (.int .i64 0) := (blk_cell BK1182.out 3).trans rfl; have hcz31_4 : w30.cell? ⟨gb1182, 4, none⟩ = some (.int .i64 0) := (blk_cell BK1182.out 4).trans rfl; have hfz31_0 := blk_frozen BK1182.out 0; have hfz31_1 := blk_frozen BK1182.out 1; have hfz31_2 := blk_frozen BK1182.out 2; have hfz31_3 := blk_frozen BK1182.out 3; have hfz31_4 := blk_frozen BK1182.out 4) | ((with_reducible refine gate_callee (f := 97) rfl ?_); refine goesL_ (some 27) rfl rfl Try.func97 (by kernel_rfl) rfl #[.agg #[.int .i64 ((rd_T51 l0 x20_2).f0.f0.f0), .int .i64 ((rd_T51 l0 x20_2).f0.f0.f1), .int .i64 ((rd_T51 l0 x20_2).f0.f1.f0), .int .i64 ((rd_T51 l0 x20_2).f0.f1.f1)]] rfl (by (try simp only [List.map_toArray, List.map_cons, List.map_nil]); first | done | rfl | (simp only [List.length_drop, List.length_take]; rfl)) ?_; (with_reducible refine (R31_Valid.calls ((rd_T51 l0 x20_2).f0.f0.f0) ((rd_T51 l0 x20_2).f0.f0.f1) ((rd_T51 l0 x20_2).f0.f1.f0) ((rd_T51 l0 x20_2).f0.f1.f1) false _ A10.out).mono ?_); rintro e w32 ⟨rfl, hb⟩; refine ⟨_, rfl, ?_⟩; have n0_ := Aside0.mk (blk_below (g := gb1182) (o := .cells #[.int .i64 ((rd_T51 l0 x20_2).f0.f0.f0), .int .i64 ((rd_T51 l0 x20_2).f0.f0.f1), .int .i64 ((rd_T51 l0 x20_2).f0.f1.f0), .int .i64 ((rd_T51 l0 x20_2).f0.f1.f1), .int .i64 ((rd_T51 l0 x20_2).f1)] 51 (0, 0)) (by (with_reducible repeat (first | refine blk_drewN ?_ _ | refine blk_drew ?_ | refine blk_alloc ?_ _)); refine blk_put (cs := #[.int .i64 ((rd_T51 l0 x20_2).f0.f0.f0), .int .i64 ((rd_T51 l0 x20_2).f0.f0.f1), .int .i64 ((rd_T51 l0 x20_2).f0.f1.f0), .int .i64 ((rd_T51 l0 x20_2).f0.f1.f1), .int .i64 0]) ?_ 4 _ rfl; (with_reducible repeat (first | refine blk_drewN ?_ _ | refine blk_drew ?_ | refine blk_alloc ?_ _)); refine blk_put (cs := #[.int .i64 ((rd_T51 l0 x20_2).f0.f0.f0), .int .i64 ((rd_T51 l0 x20_2).f0.f0.f1), .int .i64 ((rd_T51 l0 x20_2).f0.f1.f0), .int .i64 0, .int .i64 0]) ?_ 3 _ rfl; (with_reducible repeat (first | refine blk_drewN ?_ _ | refine blk_drew ?_ | refine blk_alloc ?_ _)); refine blk_put (cs := #[.int .i64 ((rd_T51 l0 x20_2).f0.f0.f0), .int .i64 ((rd_T51 l0 x20_2).f0.f0.f1), .int .i64 0, .int .i64 0, .int .i64 0]) ?_ 2 _ rfl; (with_reducible repeat (first | refine blk_drewN ?_ _ | refine blk_drew ?_ | refine blk_alloc ?_ _)); refine blk_put (cs := #[.int .i64 ((rd_T51 l0 x20_2).f0.f0.f0), .int .i64 0, .int .i64 0, .int .i64 0, .int .i64 0]) ?_ 1 _ rfl; (with_reducible repeat (first | refine blk_drewN ?_ _ | refine blk_drew ?_ | refine blk_alloc ?_ _)); refine blk_put (cs := #[.int .i64 0, .int .i64 0, .int .i64 0, .int .i64 0, .int .i64 0]) ?_ 0 _ rfl; (with_reducible repeat (first | refine blk_drewN ?_ _ | refine blk_drew ?_ | refine blk_alloc ?_ _)); exact BK1182.out) hb); have n1_ := Aside0.mk (below_step (by repeat (first | (with_reducible first | exact HB.out | apply below_alloc | apply pw_below_drewN | apply below_drew1 | refine below_set ?_ GE1182.out) | exact HB.out)) hb); clear BK1182; clear HB; have BK1182 := n0_; have HB := n1_; clear n0_ n1_; (try clear hb); (try clear hb2); (try clear hk); (try clear hi)))
                      go_ret
                      exact ⟨by first | rfl | (simp [errW_none, errW_some] <;> rfl) | (simp [*, errW_none, errW_some] <;> rfl), by repeat (first | (with_reducible first | exact HB.out | apply below_alloc | apply pw_below_drewN | apply below_drew1 | refine below_set ?_ GE1182.out) | exact HB.out)⟩
                  · rw [if_neg c9] at H
                    exact absurd H (by simp)
                · rw [if_neg c8] at H
                  exact absurd H (by simp)
              · rw [if_neg c7] at H
                have c7b0 : decide (x20_2 < (l0.length : Int)) = false := decide_eq_false c7
                clear c7
                obtain rfl := Option.some.inj H
                go_wp2
                go_ret
                exact ⟨by first | rfl | (simp [errW_none, errW_some] <;> rfl) | (simp [*, errW_none, errW_some] <;> rfl), by repeat (first | (with_reducible first | exact HB.out | apply below_alloc | apply pw_below_drewN | apply below_drew1) | exact HB.out)⟩
end Go.Proofs.Ytdcelpppgbmlaaa.P
