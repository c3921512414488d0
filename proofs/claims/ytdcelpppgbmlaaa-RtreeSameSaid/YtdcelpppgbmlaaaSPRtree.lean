-- WRITTEN BY wip/gen.py (the kit's print with contracts put in that are proved by hand). Lean checks it.
import Derived.Test.YtdcelpppgbmlaaaSP0
import Derived.Test.YtdcelpppgbmlaaaSPPeriod
namespace Go.Proofs.Ytdcelpppgbmlaaa.P
open Go.RowKit Go.Proofs.YtdcelpppgbmlaaaW.PrintWords Go.Proofs.YtdcelpppgbmlaaaW.PrintLast Go.Proofs.YtdcelpppgbmlaaaW.PrintMore
attribute [local go_sem] max2_int min2_int max_two min_two max_three min_three max_four min_four   -- for this text's walks alone
set_option linter.unusedVariables false
set_option linter.unusedSimpArgs false
def rtree_valid.f (a0_0 : Int) (a0_1 : Int) (a0_2 : Int) (a0_3 : Int) : Option (Bool) := (period_Valid.f a0_0 a0_1).bind fun t1147 => (if t1147 = true then ((period_Valid.f a0_2 a0_3).bind fun t1148 => (some t1148)) else (some false))
set_option maxHeartbeats 8000000 in
set_option maxRecDepth 100000 in
theorem rtree_valid.calls (a0_0 : Int) (a0_1 : Int) (a0_2 : Int) (a0_3 : Int) (r : Bool) (w : World) (h : rtree_valid.f a0_0 a0_1 a0_2 a0_3 = some r) :
    Calls Try.prog 160 #[.agg #[.int .i64 a0_0, .int .i64 a0_1, .int .i64 a0_2, .int .i64 a0_3]] w fun e w' => e = .returned (.bool r) ∧ Below w.heap.size w w' := by
  have hu41 := Try.underlying41
  have hu33 := Try.underlying33
  have HB := Aside0.mk (Below.refl w.heap.size w)
  have H : ((period_Valid.f a0_0 a0_1).bind fun t1147 => (if t1147 = true then ((period_Valid.f a0_2 a0_3).bind fun t1148 => (some t1148)) else (some false))) = some r := h
  clear h
  replace H := Option.bind_eq_some_iff.mp H
  obtain ⟨t1147, A20, H⟩ := H
  replace H : (if t1147 = true then ((period_Valid.f a0_2 a0_3).bind fun t1148 => (some t1148)) else (some false)) = some r := H
  have A2 := Aside0.mk A20
  clear A20
  by_cases c3 : t1147 = true
  · subst c3
    have H1 : ((period_Valid.f a0_2 a0_3).bind fun t1148 => (some t1148)) = some r := by rw [if_pos rfl] at H; exact H
    clear H
    have H := H1
    clear H1
    replace H := Option.bind_eq_some_iff.mp H
    obtain ⟨t1148, A40, H⟩ := H
    replace H : (some t1148) = some r := H
    have A4 := Aside0.mk A40
    clear A40
    obtain rfl := Option.some.inj H
    go_enter Try.func160, Try.ntmps160
    go_wp2_with (first | ((with_reducible refine gate_dst (N := 1) rfl ?_); refine box_event ?hg (N := 1) ?hd (cs := #[.int .i64 a0_0, .int .i64 a0_1, .int .i64 a0_2, .int .i64 a0_3]) (t := 41) ?hr ?_; (case hd => rfl); (case hg => rfl); (case hr => first | (go_simp; done) | (go_simp; rfl)); intro gb1146 hg w5 hbox hb; have n0_ := Aside0.mk (below_step (by repeat (first | (with_reducible first | exact HB.out | apply below_alloc | apply pw_below_drewN | apply below_drew1) | exact HB.out)) hb); have n1_ := Aside0.mk (hbox); have n2_ := Aside0.mk ((by rw [hg]; exact (below_size (by repeat (first | (with_reducible first | exact HB.out | apply below_alloc | apply pw_below_drewN | apply below_drew1) | exact HB.out))) : w.heap.size ≤ gb1146)); have n3_ := Aside0.mk ((by rw [hg]; exact (below_size (by repeat (first | (with_reducible first | exact HB.out | apply below_alloc | apply pw_below_drewN | apply below_drew1) | exact HB.out))) : w.heap.size ≤ gb1146)); clear HB; have HB := n0_; have BK1146 := n1_; have GW1146 := n2_; have GE1146 := n3_; clear n0_ n1_ n2_ n3_; clear hb hbox hg; have hcz6_0 : w5.cell? ⟨gb1146, 0, none⟩ = some (.int .i64 a0_0) := (blk_cell BK1146.out 0).trans rfl; have hcz6_1 : w5.cell? ⟨gb1146, 1, none⟩ = some (.int .i64 a0_1) := (blk_cell BK1146.out 1).trans rfl; have hcz6_2 : w5.cell? ⟨gb1146, 2, none⟩ = some (.int .i64 a0_2) := (blk_cell BK1146.out 2).trans rfl; have hcz6_3 : w5.cell? ⟨gb1146, 3, none⟩ = some (.int .i64 a0_3) := (blk_cell BK1146.out 3).trans rfl; have hfz6_0 := blk_frozen BK1146.out 0; have hfz6_1 := blk_frozen BK1146.out 1; have hfz6_2 := blk_frozen BK1146.out 2; have hfz6_3 := blk_frozen BK1146.out 3) | ((with_reducible refine gate_callee (f := 111) rfl ?_); refine goesL_ (some 5) rfl rfl Try.func111 (by kernel_rfl) rfl #[.agg #[.int .i64 a0_0, .int .i64 a0_1]] rfl (by (try simp only [List.map_toArray, List.map_cons, List.map_nil]); first | done | rfl | (simp only [List.length_drop, List.length_take]; rfl)) ?_; (with_reducible refine (period_Valid.calls a0_0 a0_1 true _ A2.out).mono ?_); rintro e w7 ⟨rfl, hb⟩; refine ⟨_, rfl, ?_⟩; have n0_ := Aside0.mk (blk_below (g := gb1146) (o := .cells #[.int .i64 a0_0, .int .i64 a0_1, .int .i64 a0_2, .int .i64 a0_3] 41 (0, 0)) (by (with_reducible repeat (first | refine blk_drewN ?_ _ | refine blk_drew ?_ | refine blk_alloc ?_ _)); exact BK1146.out) hb); have n1_ := Aside0.mk (below_step (by repeat (first | (with_reducible first | exact HB.out | apply below_alloc | apply pw_below_drewN | apply below_drew1 | refine below_set ?_ GE1146.out) | exact HB.out)) hb); clear BK1146; clear HB; have BK1146 := n0_; have HB := n1_; clear n0_ n1_; (try clear hb); (try clear hb2); (try clear hk); (try clear hi); have hcz8_0 : w7.cell? ⟨gb1146, 0, none⟩ = some (.int .i64 a0_0) := (blk_cell BK1146.out 0).trans rfl; have hcz8_1 : w7.cell? ⟨gb1146, 1, none⟩ = some (.int .i64 a0_1) := (blk_cell BK1146.out 1).trans rfl; have hcz8_2 : w7.cell? ⟨gb1146, 2, none⟩ = some (.int .i64 a0_2) := (blk_cell BK1146.out 2).trans rfl; have hcz8_3 : w7.cell? ⟨gb1146, 3, none⟩ = some (.int .i64 a0_3) := (blk_cell BK1146.out 3).trans rfl; have hfz8_0 := blk_frozen BK1146.out 0; have hfz8_1 := blk_frozen BK1146.out 1; have hfz8_2 := blk_frozen BK1146.out 2; have hfz8_3 := blk_frozen BK1146.out 3) | (go_at_call 111; (with_reducible refine (period_Valid.calls a0_2 a0_3 t1148 _ A4.out).mono ?_); rintro e w9 ⟨rfl, hb⟩; have n0_ := Aside0.mk (blk_below (g := gb1146) (o := .cells #[.int .i64 a0_0, .int .i64 a0_1, .int .i64 a0_2, .int .i64 a0_3] 41 (0, 0)) (by (with_reducible repeat (first | refine blk_drewN ?_ _ | refine blk_drew ?_ | refine blk_alloc ?_ _)); exact BK1146.out) hb); have n1_ := Aside0.mk (below_step (by repeat (first | (with_reducible first | exact HB.out | apply below_alloc | apply pw_below_drewN | apply below_drew1 | refine below_set ?_ GE1146.out) | exact HB.out)) hb); clear BK1146; clear HB; have BK1146 := n0_; have HB := n1_; clear n0_ n1_; (try clear hb); (try clear hb2); (try clear hk); (try clear hi)))
    go_ret
    exact ⟨by first | rfl | (simp [errW_none, errW_some] <;> rfl) | (simp [*, errW_none, errW_some] <;> rfl), by repeat (first | (with_reducible first | exact HB.out | apply below_alloc | apply pw_below_drewN | apply below_drew1 | refine below_set ?_ GE1146.out) | exact HB.out)⟩
  · replace c3 := Bool.eq_false_iff.mpr c3
    subst c3
    have H1 : (some false) = some r := by rw [if_neg (show ¬ (false = true) by decide)] at H; exact H
    clear H
    have H := H1
    clear H1
    obtain rfl := Option.some.inj H
    go_enter Try.func160, Try.ntmps160
    go_wp2_with (first | ((with_reducible refine gate_dst (N := 1) rfl ?_); refine box_event ?hg (N := 1) ?hd (cs := #[.int .i64 a0_0, .int .i64 a0_1, .int .i64 a0_2, .int .i64 a0_3]) (t := 41) ?hr ?_; (case hd => rfl); (case hg => rfl); (case hr => first | (go_simp; done) | (go_simp; rfl)); intro gb1146 hg w10 hbox hb; have n0_ := Aside0.mk (below_step (by repeat (first | (with_reducible first | exact HB.out | apply below_alloc | apply pw_below_drewN | apply below_drew1) | exact HB.out)) hb); have n1_ := Aside0.mk (hbox); have n2_ := Aside0.mk ((by rw [hg]; exact (below_size (by repeat (first | (with_reducible first | exact HB.out | apply below_alloc | apply pw_below_drewN | apply below_drew1) | exact HB.out))) : w.heap.size ≤ gb1146)); have n3_ := Aside0.mk ((by rw [hg]; exact (below_size (by repeat (first | (with_reducible first | exact HB.out | apply below_alloc | apply pw_below_drewN | apply below_drew1) | exact HB.out))) : w.heap.size ≤ gb1146)); clear HB; have HB := n0_; have BK1146 := n1_; have GW1146 := n2_; have GE1146 := n3_; clear n0_ n1_ n2_ n3_; clear hb hbox hg; have hcz11_0 : w10.cell? ⟨gb1146, 0, none⟩ = some (.int .i64 a0_0) := (blk_cell BK1146.out 0).trans rfl; have hcz11_1 : w10.cell? ⟨gb1146, 1, none⟩ = some (.int .i64 a0_1) := (blk_cell BK1146.out 1).trans rfl; have hcz11_2 : w10.cell? ⟨gb1146, 2, none⟩ = some (.int .i64 a0_2) := (blk_cell BK1146.out 2).trans rfl; have hcz11_3 : w10.cell? ⟨gb1146, 3, none⟩ = some (.int .i64 a0_3) := (blk_cell BK1146.out 3).trans rfl; have hfz11_0 := blk_frozen BK1146.out 0; have hfz11_1 := blk_frozen BK1146.out 1; have hfz11_2 := blk_frozen BK1146.out 2; have hfz11_3 := blk_frozen BK1146.out 3) | ((with_reducible refine gate_callee (f := 111) rfl ?_); refine goesL_ (some 5) rfl rfl Try.func111 (by kernel_rfl) rfl #[.agg #[.int .i64 a0_0, .int .i64 a0_1]] rfl (by (try simp only [List.map_toArray, List.map_cons, List.map_nil]); first | done | rfl | (simp only [List.length_drop, List.length_take]; rfl)) ?_; (with_reducible refine (period_Valid.calls a0_0 a0_1 false _ A2.out).mono ?_); rintro e w12 ⟨rfl, hb⟩; refine ⟨_, rfl, ?_⟩; have n0_ := Aside0.mk (blk_below (g := gb1146) (o := .cells #[.int .i64 a0_0, .int .i64 a0_1, .int .i64 a0_2, .int .i64 a0_3] 41 (0, 0)) (by (with_reducible repeat (first | refine blk_drewN ?_ _ | refine blk_drew ?_ | refine blk_alloc ?_ _)); exact BK1146.out) hb); have n1_ := Aside0.mk (below_step (by repeat (first | (with_reducible first | exact HB.out | apply below_alloc | apply pw_below_drewN | apply below_drew1 | refine below_set ?_ GE1146.out) | exact HB.out)) hb); clear BK1146; clear HB; have BK1146 := n0_; have HB := n1_; clear n0_ n1_; (try clear hb); (try clear hb2); (try clear hk); (try clear hi)))
    go_ret
    exact ⟨by first | rfl | (simp [errW_none, errW_some] <;> rfl) | (simp [*, errW_none, errW_some] <;> rfl), by repeat (first | (with_reducible first | exact HB.out | apply below_alloc | apply pw_below_drewN | apply below_drew1 | refine below_set ?_ GE1146.out) | exact HB.out)⟩
def rtree_hull.f (a0_0 : Int) (a0_1 : Int) (a1_0 : Int) (a1_1 : Int) : Option (Int × Int) := some (mn a0_0 a1_0, mx a0_1 a1_1)
set_option maxHeartbeats 8000000 in
set_option maxRecDepth 100000 in
theorem rtree_hull.calls (a0_0 : Int) (a0_1 : Int) (a1_0 : Int) (a1_1 : Int) (r1 : Int) (r2 : Int) (w : World) (h : rtree_hull.f a0_0 a0_1 a1_0 a1_1 = some (r1, r2)) :
    Calls Try.prog 213 #[.agg #[.int .i64 a0_0, .int .i64 a0_1], .agg #[.int .i64 a1_0, .int .i64 a1_1]] w fun e w' => e = .returned (.agg #[.int .i64 r1, .int .i64 r2]) ∧ Below w.heap.size w w' := by
  have hu33 := Try.underlying33
  have HB := Aside0.mk (Below.refl w.heap.size w)
  have H : (some (mn a0_0 a1_0, mx a0_1 a1_1)) = some (r1, r2) := h
  clear h
  obtain ⟨ji3, hji3⟩ : ∃ j_ : Int, (mn a0_0 a1_0) = j_ := ⟨_, rfl⟩
  replace H : (some (ji3, mx a0_1 a1_1)) = some (r1, r2) := by first | (rw [hji3] at H; exact H) | (simp only [hji3] at H ⊢; exact H)
  have hji3_ : (if a1_0 < a0_0 then a1_0 else a0_0) = ji3 := hji3
  obtain ⟨ji4, hji4⟩ : ∃ j_ : Int, (mx a0_1 a1_1) = j_ := ⟨_, rfl⟩
  replace H : (some (ji3, ji4)) = some (r1, r2) := by first | (rw [hji4] at H; exact H) | (simp only [hji4] at H ⊢; exact H)
  have hji4_ : (if a0_1 < a1_1 then a1_1 else a0_1) = ji4 := hji4
  simp only [Option.some.injEq, Prod.mk.injEq] at H
  obtain ⟨rfl, rfl⟩ := H
  go_enter Try.func213, Try.ntmps213
  go_wp2_with (first | ((with_reducible refine gate_dst (N := 2) rfl ?_); refine box_event ?hg (N := 2) ?hd (cs := #[.int .i64 a0_0, .int .i64 a0_1]) (t := 33) ?hr ?_; (case hd => rfl); (case hg => rfl); (case hr => first | (go_simp; done) | (go_simp; rfl)); intro gb1149 hg w5 hbox hb; have n0_ := Aside0.mk (below_step (by repeat (first | (with_reducible first | exact HB.out | apply below_alloc | apply pw_below_drewN | apply below_drew1) | exact HB.out)) hb); have n1_ := Aside0.mk (hbox); have n2_ := Aside0.mk ((by rw [hg]; exact (below_size (by repeat (first | (with_reducible first | exact HB.out | apply below_alloc | apply pw_below_drewN | apply below_drew1) | exact HB.out))) : w.heap.size ≤ gb1149)); have n3_ := Aside0.mk ((by rw [hg]; exact (below_size (by repeat (first | (with_reducible first | exact HB.out | apply below_alloc | apply pw_below_drewN | apply below_drew1) | exact HB.out))) : w.heap.size ≤ gb1149)); clear HB; have HB := n0_; have BK1149 := n1_; have GW1149 := n2_; have GE1149 := n3_; clear n0_ n1_ n2_ n3_; clear hb hbox hg) | ((with_reducible refine gate_dst (N := 3) rfl ?_); refine box_event ?hg (N := 3) ?hd (cs := #[.int .i64 a1_0, .int .i64 a1_1]) (t := 33) ?hr ?_; (case hd => rfl); (case hg => rfl); (case hr => first | (go_simp; done) | (go_simp; rfl)); intro gb1150 hg w6 hbox hb; have n0_ := Aside0.mk (blk_below (g := gb1149) (o := .cells #[.int .i64 a0_0, .int .i64 a0_1] 33 (0, 0)) (by (with_reducible repeat (first | refine blk_drewN ?_ _ | refine blk_drew ?_ | refine blk_alloc ?_ _)); exact BK1149.out) hb); have n1_ := Aside0.mk (below_step (by repeat (first | (with_reducible first | exact HB.out | apply below_alloc | apply pw_below_drewN | apply below_drew1 | refine below_set ?_ GE1149.out) | exact HB.out)) hb); have n2_ := Aside0.mk (hbox); have n3_ := Aside0.mk ((by rw [hg]; exact (below_size (by repeat (first | (with_reducible first | exact HB.out | apply below_alloc | apply pw_below_drewN | apply below_drew1 | refine below_set ?_ GE1149.out) | exact HB.out))) : w.heap.size ≤ gb1150)); have n4_ := Aside0.mk ((by rw [hg]; exact (below_size (by repeat (first | (with_reducible first | exact HB.out | apply below_alloc | apply pw_below_drewN | apply below_drew1 | refine below_set ?_ GE1149.out) | exact HB.out))) : w.heap.size ≤ gb1150)); have n5_ := Aside0.mk ((by rw [hg]; exact Nat.ne_of_lt (blk_lt (g := gb1149) (o := .cells #[.int .i64 a0_0, .int .i64 a0_1] 33 (0, 0)) (by (with_reducible repeat (first | refine blk_drewN ?_ _ | refine blk_drew ?_ | refine blk_alloc ?_ _)); exact BK1149.out)) : gb1149 ≠ gb1150)); have n6_ := Aside0.mk ((by rw [hg]; exact Nat.ne_of_gt (blk_lt (g := gb1149) (o := .cells #[.int .i64 a0_0, .int .i64 a0_1] 33 (0, 0)) (by (with_reducible repeat (first | refine blk_drewN ?_ _ | refine blk_drew ?_ | refine blk_alloc ?_ _)); exact BK1149.out)) : gb1150 ≠ gb1149)); clear BK1149; clear HB; have BK1149 := n0_; have HB := n1_; have BK1150 := n2_; have GW1150 := n3_; have GE1150 := n4_; have NB1149_1150 := n5_; have NB1150_1149 := n6_; clear n0_ n1_ n2_ n3_ n4_ n5_ n6_; clear hb hbox hg) | ((with_reducible refine gate_dst (N := 4) rfl ?_); refine box_event ?hg (N := 4) ?hd (cs := #[.int .i64 0, .int .i64 0]) (t := 33) ?hr ?_; (case hd => rfl); (case hg => rfl); (case hr => first | (go_simp; done) | (go_simp; rfl)); intro gb1151 hg w7 hbox hb; have n0_ := Aside0.mk (blk_below (g := gb1149) (o := .cells #[.int .i64 a0_0, .int .i64 a0_1] 33 (0, 0)) (by (with_reducible repeat (first | refine blk_drewN ?_ _ | refine blk_drew ?_ | refine blk_alloc ?_ _)); exact BK1149.out) hb); have n1_ := Aside0.mk (blk_below (g := gb1150) (o := .cells #[.int .i64 a1_0, .int .i64 a1_1] 33 (0, 0)) (by (with_reducible repeat (first | refine blk_drewN ?_ _ | refine blk_drew ?_ | refine blk_alloc ?_ _)); exact BK1150.out) hb); have n2_ := Aside0.mk (below_step (by repeat (first | (with_reducible first | exact HB.out | apply below_alloc | apply pw_below_drewN | apply below_drew1 | refine below_set ?_ GE1149.out | refine below_set ?_ GE1150.out) | exact HB.out)) hb); have n3_ := Aside0.mk (hbox); have n4_ := Aside0.mk ((by rw [hg]; exact (below_size (by repeat (first | (with_reducible first | exact HB.out | apply below_alloc | apply pw_below_drewN | apply below_drew1 | refine below_set ?_ GE1149.out | refine below_set ?_ GE1150.out) | exact HB.out))) : w.heap.size ≤ gb1151)); have n5_ := Aside0.mk ((by rw [hg]; exact (below_size (by repeat (first | (with_reducible first | exact HB.out | apply below_alloc | apply pw_below_drewN | apply below_drew1 | refine below_set ?_ GE1149.out | refine below_set ?_ GE1150.out) | exact HB.out))) : w.heap.size ≤ gb1151)); have n6_ := Aside0.mk ((by rw [hg]; exact Nat.ne_of_lt (blk_lt (g := gb1149) (o := .cells #[.int .i64 a0_0, .int .i64 a0_1] 33 (0, 0)) (by (with_reducible repeat (first | refine blk_drewN ?_ _ | refine blk_drew ?_ | refine blk_alloc ?_ _)); exact BK1149.out)) : gb1149 ≠ gb1151)); have n7_ := Aside0.mk ((by rw [hg]; exact Nat.ne_of_gt (blk_lt (g := gb1149) (o := .cells #[.int .i64 a0_0, .int .i64 a0_1] 33 (0, 0)) (by (with_reducible repeat (first | refine blk_drewN ?_ _ | refine blk_drew ?_ | refine blk_alloc ?_ _)); exact BK1149.out)) : gb1151 ≠ gb1149)); have n8_ := Aside0.mk ((by rw [hg]; exact Nat.ne_of_lt (blk_lt (g := gb1150) (o := .cells #[.int .i64 a1_0, .int .i64 a1_1] 33 (0, 0)) (by (with_reducible repeat (first | refine blk_drewN ?_ _ | refine blk_drew ?_ | refine blk_alloc ?_ _)); exact BK1150.out)) : gb1150 ≠ gb1151)); have n9_ := Aside0.mk ((by rw [hg]; exact Nat.ne_of_gt (blk_lt (g := gb1150) (o := .cells #[.int .i64 a1_0, .int .i64 a1_1] 33 (0, 0)) (by (with_reducible repeat (first | refine blk_drewN ?_ _ | refine blk_drew ?_ | refine blk_alloc ?_ _)); exact BK1150.out)) : gb1151 ≠ gb1150)); clear BK1149; clear BK1150; clear HB; have BK1149 := n0_; have BK1150 := n1_; have HB := n2_; have BK1151 := n3_; have GW1151 := n4_; have GE1151 := n5_; have NB1149_1151 := n6_; have NB1151_1149 := n7_; have NB1150_1151 := n8_; have NB1151_1150 := n9_; clear n0_ n1_ n2_ n3_ n4_ n5_ n6_ n7_ n8_ n9_; clear hb hbox hg; have hnb8 := NB1149_1150.out; have hnc8 := NB1150_1149.out; have hnb9 := NB1149_1151.out; have hnc9 := NB1151_1149.out; have hcz10_0 : w7.cell? ⟨gb1149, 0, none⟩ = some (.int .i64 a0_0) := (blk_cell BK1149.out 0).trans rfl; have hcz10_1 : w7.cell? ⟨gb1149, 1, none⟩ = some (.int .i64 a0_1) := (blk_cell BK1149.out 1).trans rfl; have hfz10_0 := blk_frozen BK1149.out 0; have hfz10_1 := blk_frozen BK1149.out 1; have hnb11 := NB1150_1151.out; have hnc11 := NB1151_1150.out; have hcz12_0 : w7.cell? ⟨gb1150, 0, none⟩ = some (.int .i64 a1_0) := (blk_cell BK1150.out 0).trans rfl; have hcz12_1 : w7.cell? ⟨gb1150, 1, none⟩ = some (.int .i64 a1_1) := (blk_cell BK1150.out 1).trans rfl; have hfz12_0 := blk_frozen BK1150.out 0; have hfz12_1 := blk_frozen BK1150.out 1; have hcz13_0 : w7.cell? ⟨gb1151, 0, none⟩ = some (.int .i64 0) := (blk_cell BK1151.out 0).trans rfl; have hcz13_1 : w7.cell? ⟨gb1151, 1, none⟩ = some (.int .i64 0) := (blk_cell BK1151.out 1).trans rfl; have hfz13_0 := blk_frozen BK1151.out 0; have hfz13_1 := blk_frozen BK1151.out 1))
  refine bodyPost_ret (results_cell_row rfl _ _ gb1151 33 #[.int .i64 ji3, .int .i64 ji4] (0, 0) _ rfl (by (with_reducible repeat (first | refine blk_drewN ?_ _ | refine blk_drew ?_ | refine blk_alloc ?_ _)); refine blk_put (cs := #[.int .i64 ji3, .int .i64 0]) ?_ 1 _ rfl; (with_reducible repeat (first | refine blk_drewN ?_ _ | refine blk_drew ?_ | refine blk_alloc ?_ _)); refine blk_put (cs := #[.int .i64 0, .int .i64 0]) ?_ 0 _ rfl; (with_reducible repeat (first | refine blk_drewN ?_ _ | refine blk_drew ?_ | refine blk_alloc ?_ _)); exact BK1151.out) Try.underlying33 rfl (by kernel_rfl)) rfl ?_
  exact ⟨by first | rfl | (simp [errW_none, errW_some] <;> rfl) | (simp only [← hji3, ← hji4]; first | rfl | (simp [errW_none, errW_some] <;> rfl)) | (simp [*, errW_none, errW_some] <;> rfl), by repeat (first | (with_reducible first | exact HB.out | apply below_alloc | apply pw_below_drewN | apply below_drew1 | refine below_set ?_ GE1149.out | refine below_set ?_ GE1150.out | refine below_set ?_ GE1151.out) | exact HB.out)⟩
def rtree_join.f (a0_0 : Int) (a0_1 : Int) (a0_2 : Int) (a0_3 : Int) (a1_0 : Int) (a1_1 : Int) (a1_2 : Int) (a1_3 : Int) : Option (Int × Int × Int × Int) := (rtree_hull.f a0_0 a0_1 a1_0 a1_1).bind fun bt1155 => ((rtree_hull.f a0_2 a0_3 a1_2 a1_3).bind fun bt1157 => (some (bt1155.1, bt1155.2, bt1157.1, bt1157.2)))
def rtree_join.T1 : Bool × List (List Nat × List Nat) := (true, [([], []), ([0], [0]), ([], []), ([2], [2]), ([1, 3], [1, 3]), ([], []), ([5], [5]), ([], []), ([7], [7]), ([6, 8, 4], [6, 8]), ([4, 9], [4, 9]), ([10, 9, 0, 1, 2, 3, 4, 5, 6, 7, 8, 9, 10], [10])])
def rtree_join.B1 : List Nat := [0, 1, 0, 4, 15, 0, 32, 0, 128, 511, 1023, 2047]
theorem rtree_join.tab1 : rtab .any (opsOf Try.f166 1) = rtree_join.T1 := by kernel_rfl
theorem rtree_join.bits1 : waitsOk rtree_join.T1.2 rtree_join.B1 = true := by kernel_rfl
set_option maxHeartbeats 8000000 in
set_option maxRecDepth 100000 in
theorem rtree_join.calls (a0_0 : Int) (a0_1 : Int) (a0_2 : Int) (a0_3 : Int) (a1_0 : Int) (a1_1 : Int) (a1_2 : Int) (a1_3 : Int) (r1 : Int) (r2 : Int) (r3 : Int) (r4 : Int) (w : World) (h : rtree_join.f a0_0 a0_1 a0_2 a0_3 a1_0 a1_1 a1_2 a1_3 = some (r1, r2, r3, r4)) :
    Calls Try.prog 166 #[.agg #[.int .i64 a0_0, .int .i64 a0_1, .int .i64 a0_2, .int .i64 a0_3], .agg #[.int .i64 a1_0, .int .i64 a1_1, .int .i64 a1_2, .int .i64 a1_3]] w fun e w' => e = .returned (.agg #[.int .i64 r1, .int .i64 r2, .int .i64 r3, .int .i64 r4]) ∧ Below w.heap.size w w' := by
  have hu41 := Try.underlying41
  have hu33 := Try.underlying33
  have HB := Aside0.mk (Below.refl w.heap.size w)
  have H : ((rtree_hull.f a0_0 a0_1 a1_0 a1_1).bind fun bt1155 => ((rtree_hull.f a0_2 a0_3 a1_2 a1_3).bind fun bt1157 => (some (bt1155.1, bt1155.2, bt1157.1, bt1157.2)))) = some (r1, r2, r3, r4) := h
  clear h
  replace H := Option.bind_eq_some_iff.mp H
  obtain ⟨⟨t1155, t1156⟩, A30, H⟩ := H
  replace H : ((rtree_hull.f a0_2 a0_3 a1_2 a1_3).bind fun bt1157 => (some (t1155, t1156, bt1157.1, bt1157.2))) = some (r1, r2, r3, r4) := H
  have A3 := Aside0.mk A30
  clear A30
  replace H := Option.bind_eq_some_iff.mp H
  obtain ⟨⟨t1157, t1158⟩, A40, H⟩ := H
  replace H : (some (t1155, t1156, t1157, t1158)) = some (r1, r2, r3, r4) := H
  have A4 := Aside0.mk A40
  clear A40
  simp only [Option.some.injEq, Prod.mk.injEq] at H
  obtain ⟨rfl, rfl, rfl, rfl⟩ := H
  go_enter Try.func166, Try.ntmps166
  try go_wp2_with (first | ((with_reducible refine gate_dst (N := 2) rfl ?_); refine box_event ?hg (N := 2) ?hd (cs := #[.int .i64 a0_0, .int .i64 a0_1, .int .i64 a0_2, .int .i64 a0_3]) (t := 41) ?hr ?_; (case hd => rfl); (case hg => rfl); (case hr => first | (go_simp; done) | (go_simp; rfl)); intro gb1152 hg w5 hbox hb; have n0_ := Aside0.mk (below_step (by repeat (first | (with_reducible first | exact HB.out | apply below_alloc | apply pw_below_drewN | apply below_drew1) | exact HB.out)) hb); have n1_ := Aside0.mk (hbox); have n2_ := Aside0.mk ((by rw [hg]; exact (below_size (by repeat (first | (with_reducible first | exact HB.out | apply below_alloc | apply pw_below_drewN | apply below_drew1) | exact HB.out))) : w.heap.size ≤ gb1152)); have n3_ := Aside0.mk ((by rw [hg]; exact (below_size (by repeat (first | (with_reducible first | exact HB.out | apply below_alloc | apply pw_below_drewN | apply below_drew1) | exact HB.out))) : w.heap.size ≤ gb1152)); clear HB; have HB := n0_; have BK1152 := n1_; have GW1152 := n2_; have GE1152 := n3_; clear n0_ n1_ n2_ n3_; clear hb hbox hg) | ((with_reducible refine gate_dst (N := 3) rfl ?_); refine box_event ?hg (N := 3) ?hd (cs := #[.int .i64 a1_0, .int .i64 a1_1, .int .i64 a1_2, .int .i64 a1_3]) (t := 41) ?hr ?_; (case hd => rfl); (case hg => rfl); (case hr => first | (go_simp; done) | (go_simp; rfl)); intro gb1153 hg w6 hbox hb; have n0_ := Aside0.mk (blk_below (g := gb1152) (o := .cells #[.int .i64 a0_0, .int .i64 a0_1, .int .i64 a0_2, .int .i64 a0_3] 41 (0, 0)) (by (with_reducible repeat (first | refine blk_drewN ?_ _ | refine blk_drew ?_ | refine blk_alloc ?_ _)); exact BK1152.out) hb); have n1_ := Aside0.mk (below_step (by repeat (first | (with_reducible first | exact HB.out | apply below_alloc | apply pw_below_drewN | apply below_drew1 | refine below_set ?_ GE1152.out) | exact HB.out)) hb); have n2_ := Aside0.mk (hbox); have n3_ := Aside0.mk ((by rw [hg]; exact (below_size (by repeat (first | (with_reducible first | exact HB.out | apply below_alloc | apply pw_below_drewN | apply below_drew1 | refine below_set ?_ GE1152.out) | exact HB.out))) : w.heap.size ≤ gb1153)); have n4_ := Aside0.mk ((by rw [hg]; exact (below_size (by repeat (first | (with_reducible first | exact HB.out | apply below_alloc | apply pw_below_drewN | apply below_drew1 | refine below_set ?_ GE1152.out) | exact HB.out))) : w.heap.size ≤ gb1153)); have n5_ := Aside0.mk ((by rw [hg]; exact Nat.ne_of_lt (blk_lt (g := gb1152) (o := .cells #[.int .i64 a0_0, .int .i64 a0_1, .int .i64 a0_2, .int .i64 a0_3] 41 (0, 0)) (by (with_reducible repeat (first | refine blk_drewN ?_ _ | refine blk_drew ?_ | refine blk_alloc ?_ _)); exact BK1152.out)) : gb1152 ≠ gb1153)); have n6_ := Aside0.mk ((by rw [hg]; exact Nat.ne_of_gt (blk_lt (g := gb1152) (o := .cells #[.int .i64 a0_0, .int .i64 a0_1, .int .i64 a0_2, .int .i64 a0_3] 41 (0, 0)) (by (with_reducible repeat (first | refine blk_drewN ?_ _ | refine blk_drew ?_ | refine blk_alloc ?_ _)); exact BK1152.out)) : gb1153 ≠ gb1152)); clear BK1152; clear HB; have BK1152 := n0_; have HB := n1_; have BK1153 := n2_; have GW1153 := n3_; have GE1153 := n4_; have NB1152_1153 := n5_; have NB1153_1152 := n6_; clear n0_ n1_ n2_ n3_ n4_ n5_ n6_; clear hb hbox hg) | ((with_reducible refine gate_dst (N := 4) rfl ?_); refine box_event ?hg (N := 4) ?hd (cs := #[.int .i64 0, .int .i64 0, .int .i64 0, .int .i64 0]) (t := 41) ?hr ?_; (case hd => rfl); (case hg => rfl); (case hr => first | (go_simp; done) | (go_simp; rfl)); intro gb1154 hg w7 hbox hb; have n0_ := Aside0.mk (blk_below (g := gb1152) (o := .cells #[.int .i64 a0_0, .int .i64 a0_1, .int .i64 a0_2, .int .i64 a0_3] 41 (0, 0)) (by (with_reducible repeat (first | refine blk_drewN ?_ _ | refine blk_drew ?_ | refine blk_alloc ?_ _)); exact BK1152.out) hb); have n1_ := Aside0.mk (blk_below (g := gb1153) (o := .cells #[.int .i64 a1_0, .int .i64 a1_1, .int .i64 a1_2, .int .i64 a1_3] 41 (0, 0)) (by (with_reducible repeat (first | refine blk_drewN ?_ _ | refine blk_drew ?_ | refine blk_alloc ?_ _)); exact BK1153.out) hb); have n2_ := Aside0.mk (below_step (by repeat (first | (with_reducible first | exact HB.out | apply below_alloc | apply pw_below_drewN | apply below_drew1 | refine below_set ?_ GE1152.out | refine below_set ?_ GE1153.out) | exact HB.out)) hb); have n3_ := Aside0.mk (hbox); have n4_ := Aside0.mk ((by rw [hg]; exact (below_size (by repeat (first | (with_reducible first | exact HB.out | apply below_alloc | apply pw_below_drewN | apply below_drew1 | refine below_set ?_ GE1152.out | refine below_set ?_ GE1153.out) | exact HB.out))) : w.heap.size ≤ gb1154)); have n5_ := Aside0.mk ((by rw [hg]; exact (below_size (by repeat (first | (with_reducible first | exact HB.out | apply below_alloc | apply pw_below_drewN | apply below_drew1 | refine below_set ?_ GE1152.out | refine below_set ?_ GE1153.out) | exact HB.out))) : w.heap.size ≤ gb1154)); have n6_ := Aside0.mk ((by rw [hg]; exact Nat.ne_of_lt (blk_lt (g := gb1152) (o := .cells #[.int .i64 a0_0, .int .i64 a0_1, .int .i64 a0_2, .int .i64 a0_3] 41 (0, 0)) (by (with_reducible repeat (first | refine blk_drewN ?_ _ | refine blk_drew ?_ | refine blk_alloc ?_ _)); exact BK1152.out)) : gb1152 ≠ gb1154)); have n7_ := Aside0.mk ((by rw [hg]; exact Nat.ne_of_gt (blk_lt (g := gb1152) (o := .cells #[.int .i64 a0_0, .int .i64 a0_1, .int .i64 a0_2, .int .i64 a0_3] 41 (0, 0)) (by (with_reducible repeat (first | refine blk_drewN ?_ _ | refine blk_drew ?_ | refine blk_alloc ?_ _)); exact BK1152.out)) : gb1154 ≠ gb1152)); have n8_ := Aside0.mk ((by rw [hg]; exact Nat.ne_of_lt (blk_lt (g := gb1153) (o := .cells #[.int .i64 a1_0, .int .i64 a1_1, .int .i64 a1_2, .int .i64 a1_3] 41 (0, 0)) (by (with_reducible repeat (first | refine blk_drewN ?_ _ | refine blk_drew ?_ | refine blk_alloc ?_ _)); exact BK1153.out)) : gb1153 ≠ gb1154)); have n9_ := Aside0.mk ((by rw [hg]; exact Nat.ne_of_gt (blk_lt (g := gb1153) (o := .cells #[.int .i64 a1_0, .int .i64 a1_1, .int .i64 a1_2, .int .i64 a1_3] 41 (0, 0)) (by (with_reducible repeat (first | refine blk_drewN ?_ _ | refine blk_drew ?_ | refine blk_alloc ?_ _)); exact BK1153.out)) : gb1154 ≠ gb1153)); clear BK1152; clear BK1153; clear HB; have BK1152 := n0_; have BK1153 := n1_; have HB := n2_; have BK1154 := n3_; have GW1154 := n4_; have GE1154 := n5_; have NB1152_1154 := n6_; have NB1154_1152 := n7_; have NB1153_1154 := n8_; have NB1154_1153 := n9_; clear n0_ n1_ n2_ n3_ n4_ n5_ n6_ n7_ n8_ n9_; clear hb hbox hg))
  have n0_ := Aside0.mk (blk_drew BK1152.out)
  have n1_ := Aside0.mk (blk_drew BK1153.out)
  have n2_ := Aside0.mk (blk_drew BK1154.out)
  have n3_ := Aside0.mk (below_drew1 HB.out)
  clear BK1152
  clear BK1153
  clear BK1154
  clear HB
  have BK1152 := n0_
  have BK1153 := n1_
  have BK1154 := n2_
  have HB := n3_
  clear n0_ n1_ n2_ n3_
  refine start_ (n := 12) (S := fun w' => w'.cell? ⟨gb1152, 0, none⟩ = some (.int .i64 a0_0) ∧ w'.cell? ⟨gb1152, 1, none⟩ = some (.int .i64 a0_1) ∧ w'.cell? ⟨gb1152, 2, none⟩ = some (.int .i64 a0_2) ∧ w'.cell? ⟨gb1152, 3, none⟩ = some (.int .i64 a0_3) ∧ w'.cell? ⟨gb1153, 0, none⟩ = some (.int .i64 a1_0) ∧ w'.cell? ⟨gb1153, 1, none⟩ = some (.int .i64 a1_1) ∧ w'.cell? ⟨gb1153, 2, none⟩ = some (.int .i64 a1_2) ∧ w'.cell? ⟨gb1153, 3, none⟩ = some (.int .i64 a1_3)) (ds := []) #[false, false, false, false, false, false, false, false, false, false, false, false] (by kernel_rfl) rfl rfl ⟨(blk_cell BK1152.out 0).trans rfl, (blk_cell BK1152.out 1).trans rfl, (blk_cell BK1152.out 2).trans rfl, (blk_cell BK1152.out 3).trans rfl, (blk_cell BK1153.out 0).trans rfl, (blk_cell BK1153.out 1).trans rfl, (blk_cell BK1153.out 2).trans rfl, (blk_cell BK1153.out 3).trans rfl⟩ (fun hHeld => ?_); refine with_tabW rtree_join.tab1 rtree_join.bits1 (fun HT_ HW_ => ?_)
  generalize w7.drew = w8 at BK1152 BK1153 BK1154 HB hHeld ⊢
  refine pure_ (i := 0) (N := some 5) (v := ?_) (a' := ?_) #[true, false, false, false, false, false, false, false, false, false, false, false] rfl rfl (any_of HT_.out (by kernel_rfl)) (fun _ _ _ h => h) (Or.inl ⟨by rfl, ?_⟩) ?_ ?_
  rotate_left
  · intro w'
    go_simp
    with_reducible rfl
  rotate_left
  · simp only [Act.put, List.setIfInBounds_toArray, List.set_cons_zero, List.set_cons_succ, i64_w, i32_w]
    rfl
  refine pure_ (i := 2) (N := some 7) (v := ?_) (a' := ?_) #[true, false, true, false, false, false, false, false, false, false, false, false] rfl rfl (any_of HT_.out (by kernel_rfl)) (fun _ _ _ h => h) (Or.inl ⟨by rfl, ?_⟩) ?_ ?_
  rotate_left
  · intro w'
    go_simp
    with_reducible rfl
  rotate_left
  · simp only [Act.put, List.setIfInBounds_toArray, List.set_cons_zero, List.set_cons_succ, i64_w, i32_w]
    rfl
  refine pure_ (i := 5) (N := some 10) (v := ?_) (a' := ?_) #[true, false, true, false, false, true, false, false, false, false, false, false] rfl rfl (any_of HT_.out (by kernel_rfl)) (fun _ _ _ h => h) (Or.inl ⟨by rfl, ?_⟩) ?_ ?_
  rotate_left
  · intro w'
    go_simp
    with_reducible rfl
  rotate_left
  · simp only [Act.put, List.setIfInBounds_toArray, List.set_cons_zero, List.set_cons_succ, i64_w, i32_w]
    rfl
  refine pure_ (i := 7) (N := some 12) (v := ?_) (a' := ?_) #[true, false, true, false, false, true, false, true, false, false, false, false] rfl rfl (any_of HT_.out (by kernel_rfl)) (fun _ _ _ h => h) (Or.inl ⟨by rfl, ?_⟩) ?_ ?_
  rotate_left
  · intro w'
    go_simp
    with_reducible rfl
  rotate_left
  · simp only [Act.put, List.setIfInBounds_toArray, List.set_cons_zero, List.set_cons_succ, i64_w, i32_w]
    rfl
  refine take_ (i := 1) (N := some 6) (v := ?_) (a' := ?_) #[true, true, true, false, false, true, false, true, false, false, false, false] rfl rfl (take_ofW HT_.out HW_.out (by kernel_rfl)) (fun _ _ _ h => h) (Or.inl ⟨by rfl, ?_⟩) hHeld ?_ ?_
  rotate_left
  · rintro w' ⟨s0, s1, s2, s3, s4, s5, s6, s7⟩
    go_simp
    with_reducible rfl
  rotate_left
  · simp only [Act.put, List.setIfInBounds_toArray, List.set_cons_zero, List.set_cons_succ, i64_w, i32_w]
    rfl
  refine take_ (i := 3) (N := some 8) (v := ?_) (a' := ?_) #[true, true, true, true, false, true, false, true, false, false, false, false] rfl rfl (take_ofW HT_.out HW_.out (by kernel_rfl)) (fun _ _ _ h => h) (Or.inl ⟨by rfl, ?_⟩) hHeld ?_ ?_
  rotate_left
  · rintro w' ⟨s0, s1, s2, s3, s4, s5, s6, s7⟩
    go_simp
    with_reducible rfl
  rotate_left
  · simp only [Act.put, List.setIfInBounds_toArray, List.set_cons_zero, List.set_cons_succ, i64_w, i32_w]
    rfl
  refine take_ (i := 6) (N := some 11) (v := ?_) (a' := ?_) #[true, true, true, true, false, true, true, true, false, false, false, false] rfl rfl (take_ofW HT_.out HW_.out (by kernel_rfl)) (fun _ _ _ h => h) (Or.inl ⟨by rfl, ?_⟩) hHeld ?_ ?_
  rotate_left
  · rintro w' ⟨s0, s1, s2, s3, s4, s5, s6, s7⟩
    go_simp
    with_reducible rfl
  rotate_left
  · simp only [Act.put, List.setIfInBounds_toArray, List.set_cons_zero, List.set_cons_succ, i64_w, i32_w]
    rfl
  refine take_ (i := 8) (N := some 13) (v := ?_) (a' := ?_) #[true, true, true, true, false, true, true, true, true, false, false, false] rfl rfl (take_ofW HT_.out HW_.out (by kernel_rfl)) (fun _ _ _ h => h) (Or.inl ⟨by rfl, ?_⟩) hHeld ?_ ?_
  rotate_left
  · rintro w' ⟨s0, s1, s2, s3, s4, s5, s6, s7⟩
    go_simp
    with_reducible rfl
  rotate_left
  · simp only [Act.put, List.setIfInBounds_toArray, List.set_cons_zero, List.set_cons_succ, i64_w, i32_w]
    rfl
  refine one_ (i := 4) (N := some 9) #[true, true, true, true, true, true, true, true, true, false, false, false] rfl rfl (one_of HT_.out (by kernel_rfl)) (by decide) (fun K hK => ?_)
  refine goes_ Try.func213 (by kernel_rfl) rfl #[.agg #[.int .i64 a0_0, .int .i64 a0_1], .agg #[.int .i64 a1_0, .int .i64 a1_1]] (by rfl) rfl rfl (by (try simp only [List.map_toArray, List.map_cons, List.map_nil]); first | done | rfl | (simp only [List.length_drop, List.length_take]; rfl)) ?_
  with_reducible refine (rtree_hull.calls a0_0 a0_1 a1_0 a1_1 t1155 t1156 _ A3.out).mono ?_
  rintro e w9 ⟨rfl, hb⟩
  refine ⟨_, rfl, ?_⟩
  have n0_ := Aside0.mk (blk_below (g := gb1152) (o := .cells #[.int .i64 a0_0, .int .i64 a0_1, .int .i64 a0_2, .int .i64 a0_3] 41 (0, 0)) (by (with_reducible repeat (first | refine blk_drewN ?_ _ | refine blk_drew ?_ | refine blk_alloc ?_ _)); exact BK1152.out) hb)
  have n1_ := Aside0.mk (blk_below (g := gb1153) (o := .cells #[.int .i64 a1_0, .int .i64 a1_1, .int .i64 a1_2, .int .i64 a1_3] 41 (0, 0)) (by (with_reducible repeat (first | refine blk_drewN ?_ _ | refine blk_drew ?_ | refine blk_alloc ?_ _)); exact BK1153.out) hb)
  have n2_ := Aside0.mk (blk_below (g := gb1154) (o := .cells #[.int .i64 0, .int .i64 0, .int .i64 0, .int .i64 0] 41 (0, 0)) (by (with_reducible repeat (first | refine blk_drewN ?_ _ | refine blk_drew ?_ | refine blk_alloc ?_ _)); exact BK1154.out) hb)
  have n3_ := Aside0.mk (below_step (by repeat (first | (with_reducible first | exact HB.out | apply below_alloc | apply pw_below_drewN | apply below_drew1 | refine below_set ?_ GE1152.out | refine below_set ?_ GE1153.out | refine below_set ?_ GE1154.out) | exact HB.out)) hb)
  clear BK1152
  clear BK1153
  clear BK1154
  clear HB
  have BK1152 := n0_
  have BK1153 := n1_
  have BK1154 := n2_
  have HB := n3_
  clear n0_ n1_ n2_ n3_
  (try clear hb)
  (try clear hb2)
  (try clear hk)
  (try clear hi)
  refine hK.out _ _ ⟨(blk_cell BK1152.out 0).trans rfl, (blk_cell BK1152.out 1).trans rfl, (blk_cell BK1152.out 2).trans rfl, (blk_cell BK1152.out 3).trans rfl, (blk_cell BK1153.out 0).trans rfl, (blk_cell BK1153.out 1).trans rfl, (blk_cell BK1153.out 2).trans rfl, (blk_cell BK1153.out 3).trans rfl⟩ (fun hHeld => ?_)
  clear hK K
  refine norm_ (a' := ?_) ?_ ?_
  rotate_left
  · show Act.put _ (some 9) _ = _
    simp only [Act.put, List.setIfInBounds_toArray, List.set_cons_zero, List.set_cons_succ, i64_w, i32_w]
    rfl
  refine one_ (i := 9) (N := some 14) #[true, true, true, true, true, true, true, true, true, true, false, false] rfl rfl (one_of HT_.out (by kernel_rfl)) (by decide) (fun K hK => ?_)
  refine goes_ Try.func213 (by kernel_rfl) rfl #[.agg #[.int .i64 a0_2, .int .i64 a0_3], .agg #[.int .i64 a1_2, .int .i64 a1_3]] (by rfl) rfl rfl (by (try simp only [List.map_toArray, List.map_cons, List.map_nil]); first | done | rfl | (simp only [List.length_drop, List.length_take]; rfl)) ?_
  with_reducible refine (rtree_hull.calls a0_2 a0_3 a1_2 a1_3 t1157 t1158 _ A4.out).mono ?_
  rintro e w10 ⟨rfl, hb⟩
  refine ⟨_, rfl, ?_⟩
  have n0_ := Aside0.mk (blk_below (g := gb1152) (o := .cells #[.int .i64 a0_0, .int .i64 a0_1, .int .i64 a0_2, .int .i64 a0_3] 41 (0, 0)) (by (with_reducible repeat (first | refine blk_drewN ?_ _ | refine blk_drew ?_ | refine blk_alloc ?_ _)); exact BK1152.out) hb)
  have n1_ := Aside0.mk (blk_below (g := gb1153) (o := .cells #[.int .i64 a1_0, .int .i64 a1_1, .int .i64 a1_2, .int .i64 a1_3] 41 (0, 0)) (by (with_reducible repeat (first | refine blk_drewN ?_ _ | refine blk_drew ?_ | refine blk_alloc ?_ _)); exact BK1153.out) hb)
  have n2_ := Aside0.mk (blk_below (g := gb1154) (o := .cells #[.int .i64 0, .int .i64 0, .int .i64 0, .int .i64 0] 41 (0, 0)) (by (with_reducible repeat (first | refine blk_drewN ?_ _ | refine blk_drew ?_ | refine blk_alloc ?_ _)); exact BK1154.out) hb)
  have n3_ := Aside0.mk (below_step (by repeat (first | (with_reducible first | exact HB.out | apply below_alloc | apply pw_below_drewN | apply below_drew1 | refine below_set ?_ GE1152.out | refine below_set ?_ GE1153.out | refine below_set ?_ GE1154.out) | exact HB.out)) hb)
  clear BK1152
  clear BK1153
  clear BK1154
  clear HB
  have BK1152 := n0_
  have BK1153 := n1_
  have BK1154 := n2_
  have HB := n3_
  clear n0_ n1_ n2_ n3_
  (try clear hb)
  (try clear hb2)
  (try clear hk)
  (try clear hi)
  refine hK.out _ _ ⟨(blk_cell BK1152.out 0).trans rfl, (blk_cell BK1152.out 1).trans rfl, (blk_cell BK1152.out 2).trans rfl, (blk_cell BK1152.out 3).trans rfl, (blk_cell BK1153.out 0).trans rfl, (blk_cell BK1153.out 1).trans rfl, (blk_cell BK1153.out 2).trans rfl, (blk_cell BK1153.out 3).trans rfl⟩ (fun hHeld => ?_)
  clear hK K
  refine norm_ (a' := ?_) ?_ ?_
  rotate_left
  · show Act.put _ (some 14) _ = _
    simp only [Act.put, List.setIfInBounds_toArray, List.set_cons_zero, List.set_cons_succ, i64_w, i32_w]
    rfl
  refine pure_ (i := 10) (N := some 15) (v := ?_) (a' := ?_) #[true, true, true, true, true, true, true, true, true, true, true, false] rfl rfl (any_of HT_.out (by kernel_rfl)) (fun _ _ _ h => h) (Or.inl ⟨by rfl, ?_⟩) ?_ ?_
  rotate_left
  · intro w'
    go_simp
    with_reducible rfl
  rotate_left
  · simp only [Act.put, List.setIfInBounds_toArray, List.set_cons_zero, List.set_cons_succ, i64_w, i32_w]
    rfl
  refine one_ (i := 11) (N := none) #[true, true, true, true, true, true, true, true, true, true, true, true] rfl rfl (one_of HT_.out (by kernel_rfl)) (by decide) (fun K hK => ?_)
  have hs11 : w10.cell? ⟨gb1154, 0, none⟩ = some (.int .i64 0) := (blk_cell BK1154.out 0).trans rfl
  have hfs11 := blk_frozen BK1154.out 0
  have hns11_0 := NB1152_1154.out
  have hns11_1 := NB1153_1154.out
  have hms11_0 := NB1154_1152.out
  have hms11_1 := NB1154_1153.out
  have hs12 : w10.cell? ⟨gb1154, 1, none⟩ = some (.int .i64 0) := (blk_cell BK1154.out 1).trans rfl
  have hfs12 := blk_frozen BK1154.out 1
  have hns12_0 := NB1152_1154.out
  have hns12_1 := NB1153_1154.out
  have hms12_0 := NB1154_1152.out
  have hms12_1 := NB1154_1153.out
  have hs13 : w10.cell? ⟨gb1154, 2, none⟩ = some (.int .i64 0) := (blk_cell BK1154.out 2).trans rfl
  have hfs13 := blk_frozen BK1154.out 2
  have hns13_0 := NB1152_1154.out
  have hns13_1 := NB1153_1154.out
  have hms13_0 := NB1154_1152.out
  have hms13_1 := NB1154_1153.out
  have hs14 : w10.cell? ⟨gb1154, 3, none⟩ = some (.int .i64 0) := (blk_cell BK1154.out 3).trans rfl
  have hfs14 := blk_frozen BK1154.out 3
  have hns14_0 := NB1152_1154.out
  have hns14_1 := NB1153_1154.out
  have hms14_0 := NB1154_1152.out
  have hms14_1 := NB1154_1153.out
  refine skip_ (w1 := ?_) (by rfl) rfl ?_ ?_
  rotate_left
  · go_simp
    rfl
  refine hK.out _ _ ⟨((cell_far (p := ⟨gb1154, _, none⟩) NB1152_1154.out _).trans (((cell_far (p := ⟨gb1154, _, none⟩) NB1152_1154.out _).trans (((cell_far (p := ⟨gb1154, _, none⟩) NB1152_1154.out _).trans (((cell_far (p := ⟨gb1154, _, none⟩) NB1152_1154.out _).trans (hHeld.1)))))))), ((cell_far (p := ⟨gb1154, _, none⟩) NB1152_1154.out _).trans (((cell_far (p := ⟨gb1154, _, none⟩) NB1152_1154.out _).trans (((cell_far (p := ⟨gb1154, _, none⟩) NB1152_1154.out _).trans (((cell_far (p := ⟨gb1154, _, none⟩) NB1152_1154.out _).trans (hHeld.2.1)))))))), ((cell_far (p := ⟨gb1154, _, none⟩) NB1152_1154.out _).trans (((cell_far (p := ⟨gb1154, _, none⟩) NB1152_1154.out _).trans (((cell_far (p := ⟨gb1154, _, none⟩) NB1152_1154.out _).trans (((cell_far (p := ⟨gb1154, _, none⟩) NB1152_1154.out _).trans (hHeld.2.2.1)))))))), ((cell_far (p := ⟨gb1154, _, none⟩) NB1152_1154.out _).trans (((cell_far (p := ⟨gb1154, _, none⟩) NB1152_1154.out _).trans (((cell_far (p := ⟨gb1154, _, none⟩) NB1152_1154.out _).trans (((cell_far (p := ⟨gb1154, _, none⟩) NB1152_1154.out _).trans (hHeld.2.2.2.1)))))))), ((cell_far (p := ⟨gb1154, _, none⟩) NB1153_1154.out _).trans (((cell_far (p := ⟨gb1154, _, none⟩) NB1153_1154.out _).trans (((cell_far (p := ⟨gb1154, _, none⟩) NB1153_1154.out _).trans (((cell_far (p := ⟨gb1154, _, none⟩) NB1153_1154.out _).trans (hHeld.2.2.2.2.1)))))))), ((cell_far (p := ⟨gb1154, _, none⟩) NB1153_1154.out _).trans (((cell_far (p := ⟨gb1154, _, none⟩) NB1153_1154.out _).trans (((cell_far (p := ⟨gb1154, _, none⟩) NB1153_1154.out _).trans (((cell_far (p := ⟨gb1154, _, none⟩) NB1153_1154.out _).trans (hHeld.2.2.2.2.2.1)))))))), ((cell_far (p := ⟨gb1154, _, none⟩) NB1153_1154.out _).trans (((cell_far (p := ⟨gb1154, _, none⟩) NB1153_1154.out _).trans (((cell_far (p := ⟨gb1154, _, none⟩) NB1153_1154.out _).trans (((cell_far (p := ⟨gb1154, _, none⟩) NB1153_1154.out _).trans (hHeld.2.2.2.2.2.2.1)))))))), ((cell_far (p := ⟨gb1154, _, none⟩) NB1153_1154.out _).trans (((cell_far (p := ⟨gb1154, _, none⟩) NB1153_1154.out _).trans (((cell_far (p := ⟨gb1154, _, none⟩) NB1153_1154.out _).trans (((cell_far (p := ⟨gb1154, _, none⟩) NB1153_1154.out _).trans (hHeld.2.2.2.2.2.2.2))))))))⟩ (fun hHeld => ?_)
  clear hK K
  refine done_ (done_of HT_.out (by kernel_rfl)) ?_
  try go_wp2
  refine bodyPost_ret (results_cell_row rfl _ _ gb1154 41 #[.int .i64 t1155, .int .i64 t1156, .int .i64 t1157, .int .i64 t1158] (0, 0) _ rfl (by (with_reducible repeat (first | refine blk_drewN ?_ _ | refine blk_drew ?_ | refine blk_alloc ?_ _)); refine blk_put (cs := #[.int .i64 t1155, .int .i64 t1156, .int .i64 t1157, .int .i64 0]) ?_ 3 _ rfl; (with_reducible repeat (first | refine blk_drewN ?_ _ | refine blk_drew ?_ | refine blk_alloc ?_ _)); refine blk_put (cs := #[.int .i64 t1155, .int .i64 t1156, .int .i64 0, .int .i64 0]) ?_ 2 _ rfl; (with_reducible repeat (first | refine blk_drewN ?_ _ | refine blk_drew ?_ | refine blk_alloc ?_ _)); refine blk_put (cs := #[.int .i64 t1155, .int .i64 0, .int .i64 0, .int .i64 0]) ?_ 1 _ rfl; (with_reducible repeat (first | refine blk_drewN ?_ _ | refine blk_drew ?_ | refine blk_alloc ?_ _)); refine blk_put (cs := #[.int .i64 0, .int .i64 0, .int .i64 0, .int .i64 0]) ?_ 0 _ rfl; (with_reducible repeat (first | refine blk_drewN ?_ _ | refine blk_drew ?_ | refine blk_alloc ?_ _)); exact BK1154.out) Try.underlying41 rfl (by kernel_rfl)) rfl ?_
  exact ⟨by first | rfl | (simp [errW_none, errW_some] <;> rfl) | (simp [*, errW_none, errW_some] <;> rfl), by repeat (first | (with_reducible first | exact HB.out | apply below_alloc | apply pw_below_drewN | apply below_drew1 | refine below_set ?_ GE1152.out | refine below_set ?_ GE1153.out | refine below_set ?_ GE1154.out) | exact HB.out)⟩
end Go.Proofs.Ytdcelpppgbmlaaa.P
