-- WRITTEN BY wip/gen.py (the kit's print with contracts put in that are proved by hand). Lean checks it.
import Derived.Test.YtdcelpppgbmlaaaSP0
import Derived.Test.YtdcelpppgbmlaaaSPPeriod
import Derived.Test.YtdcelpppgbmlaaaSESort
namespace Go.Proofs.Ytdcelpppgbmlaaa.P
open Go.RowKit Go.Proofs.YtdcelpppgbmlaaaW.PrintWords Go.Proofs.YtdcelpppgbmlaaaW.PrintLast Go.Proofs.YtdcelpppgbmlaaaW.PrintMore
attribute [local go_sem] max2_int min2_int max_two min_two max_three min_three max_four min_four   -- for this text's walks alone
set_option linter.unusedVariables false
set_option linter.unusedSimpArgs false
def region_valid.f (a0_0 : Int) (a0_1 : Int) (a0_2 : Int) (a0_3 : Int) : Option (Bool) := (period_Valid.f a0_0 a0_1).bind fun t636 => (if t636 = true then ((period_Valid.f a0_2 a0_3).bind fun t637 => (some t637)) else (some false))
set_option maxHeartbeats 8000000 in
set_option maxRecDepth 100000 in
theorem region_valid.calls (a0_0 : Int) (a0_1 : Int) (a0_2 : Int) (a0_3 : Int) (r : Bool) (w : World) (h : region_valid.f a0_0 a0_1 a0_2 a0_3 = some r) :
    Calls Try.prog 134 #[.agg #[.int .i64 a0_0, .int .i64 a0_1, .int .i64 a0_2, .int .i64 a0_3]] w fun e w' => e = .returned (.bool r) ∧ Below w.heap.size w w' := by
  have hu41 := Try.underlying41
  have hu33 := Try.underlying33
  have HB := Aside0.mk (Below.refl w.heap.size w)
  have H : ((period_Valid.f a0_0 a0_1).bind fun t636 => (if t636 = true then ((period_Valid.f a0_2 a0_3).bind fun t637 => (some t637)) else (some false))) = some r := h
  clear h
  replace H := Option.bind_eq_some_iff.mp H
  obtain ⟨t636, A20, H⟩ := H
  replace H : (if t636 = true then ((period_Valid.f a0_2 a0_3).bind fun t637 => (some t637)) else (some false)) = some r := H
  have A2 := Aside0.mk A20
  clear A20
  by_cases c3 : t636 = true
  · subst c3
    have H1 : ((period_Valid.f a0_2 a0_3).bind fun t637 => (some t637)) = some r := by rw [if_pos rfl] at H; exact H
    clear H
    have H := H1
    clear H1
    replace H := Option.bind_eq_some_iff.mp H
    obtain ⟨t637, A40, H⟩ := H
    replace H : (some t637) = some r := H
    have A4 := Aside0.mk A40
    clear A40
    obtain rfl := Option.some.inj H
    go_enter Try.func134, Try.ntmps134
    go_wp2_with (first | ((with_reducible refine gate_dst (N := 1) rfl ?_); refine box_event ?hg (N := 1) ?hd (cs := #[.int .i64 a0_0, .int .i64 a0_1, .int .i64 a0_2, .int .i64 a0_3]) (t := 41) ?hr ?_; (case hd => rfl); (case hg => rfl); (case hr => first | (go_simp; done) | (go_simp; rfl)); intro gb635 hg w5 hbox hb; have n0_ := Aside0.mk (below_step (by repeat (first | (with_reducible first | exact HB.out | apply below_alloc | apply pw_below_drewN | apply below_drew1) | exact HB.out)) hb); have n1_ := Aside0.mk (hbox); have n2_ := Aside0.mk ((by rw [hg]; exact (below_size (by repeat (first | (with_reducible first | exact HB.out | apply below_alloc | apply pw_below_drewN | apply below_drew1) | exact HB.out))) : w.heap.size ≤ gb635)); have n3_ := Aside0.mk ((by rw [hg]; exact (below_size (by repeat (first | (with_reducible first | exact HB.out | apply below_alloc | apply pw_below_drewN | apply below_drew1) | exact HB.out))) : w.heap.size ≤ gb635)); clear HB; have HB := n0_; have BK635 := n1_; have GW635 := n2_; have GE635 := n3_; clear n0_ n1_ n2_ n3_; clear hb hbox hg; have hcz6_0 : w5.cell? ⟨gb635, 0, none⟩ = some (.int .i64 a0_0) := (blk_cell BK635.out 0).trans rfl; have hcz6_1 : w5.cell? ⟨gb635, 1, none⟩ = some (.int .i64 a0_1) := (blk_cell BK635.out 1).trans rfl; have hcz6_2 : w5.cell? ⟨gb635, 2, none⟩ = some (.int .i64 a0_2) := (blk_cell BK635.out 2).trans rfl; have hcz6_3 : w5.cell? ⟨gb635, 3, none⟩ = some (.int .i64 a0_3) := (blk_cell BK635.out 3).trans rfl; have hfz6_0 := blk_frozen BK635.out 0; have hfz6_1 := blk_frozen BK635.out 1; have hfz6_2 := blk_frozen BK635.out 2; have hfz6_3 := blk_frozen BK635.out 3) | ((with_reducible refine gate_callee (f := 111) rfl ?_); refine goesL_ (some 5) rfl rfl Try.func111 (by kernel_rfl) rfl #[.agg #[.int .i64 a0_0, .int .i64 a0_1]] rfl (by (try simp only [List.map_toArray, List.map_cons, List.map_nil]); first | done | rfl | (simp only [List.length_drop, List.length_take]; rfl)) ?_; (with_reducible refine (period_Valid.calls a0_0 a0_1 true _ A2.out).mono ?_); rintro e w7 ⟨rfl, hb⟩; refine ⟨_, rfl, ?_⟩; have n0_ := Aside0.mk (blk_below (g := gb635) (o := .cells #[.int .i64 a0_0, .int .i64 a0_1, .int .i64 a0_2, .int .i64 a0_3] 41 (0, 0)) (by (with_reducible repeat (first | refine blk_drewN ?_ _ | refine blk_drew ?_ | refine blk_alloc ?_ _)); exact BK635.out) hb); have n1_ := Aside0.mk (below_step (by repeat (first | (with_reducible first | exact HB.out | apply below_alloc | apply pw_below_drewN | apply below_drew1 | refine below_set ?_ GE635.out) | exact HB.out)) hb); clear BK635; clear HB; have BK635 := n0_; have HB := n1_; clear n0_ n1_; (try clear hb); (try clear hb2); (try clear hk); (try clear hi); have hcz8_0 : w7.cell? ⟨gb635, 0, none⟩ = some (.int .i64 a0_0) := (blk_cell BK635.out 0).trans rfl; have hcz8_1 : w7.cell? ⟨gb635, 1, none⟩ = some (.int .i64 a0_1) := (blk_cell BK635.out 1).trans rfl; have hcz8_2 : w7.cell? ⟨gb635, 2, none⟩ = some (.int .i64 a0_2) := (blk_cell BK635.out 2).trans rfl; have hcz8_3 : w7.cell? ⟨gb635, 3, none⟩ = some (.int .i64 a0_3) := (blk_cell BK635.out 3).trans rfl; have hfz8_0 := blk_frozen BK635.out 0; have hfz8_1 := blk_frozen BK635.out 1; have hfz8_2 := blk_frozen BK635.out 2; have hfz8_3 := blk_frozen BK635.out 3) | (go_at_call 111; (with_reducible refine (period_Valid.calls a0_2 a0_3 t637 _ A4.out).mono ?_); rintro e w9 ⟨rfl, hb⟩; have n0_ := Aside0.mk (blk_below (g := gb635) (o := .cells #[.int .i64 a0_0, .int .i64 a0_1, .int .i64 a0_2, .int .i64 a0_3] 41 (0, 0)) (by (with_reducible repeat (first | refine blk_drewN ?_ _ | refine blk_drew ?_ | refine blk_alloc ?_ _)); exact BK635.out) hb); have n1_ := Aside0.mk (below_step (by repeat (first | (with_reducible first | exact HB.out | apply below_alloc | apply pw_below_drewN | apply below_drew1 | refine below_set ?_ GE635.out) | exact HB.out)) hb); clear BK635; clear HB; have BK635 := n0_; have HB := n1_; clear n0_ n1_; (try clear hb); (try clear hb2); (try clear hk); (try clear hi)))
    go_ret
    exact ⟨by first | rfl | (simp [errW_none, errW_some] <;> rfl) | (simp [*, errW_none, errW_some] <;> rfl), by repeat (first | (with_reducible first | exact HB.out | apply below_alloc | apply pw_below_drewN | apply below_drew1 | refine below_set ?_ GE635.out) | exact HB.out)⟩
  · replace c3 := Bool.eq_false_iff.mpr c3
    subst c3
    have H1 : (some false) = some r := by rw [if_neg (show ¬ (false = true) by decide)] at H; exact H
    clear H
    have H := H1
    clear H1
    obtain rfl := Option.some.inj H
    go_enter Try.func134, Try.ntmps134
    go_wp2_with (first | ((with_reducible refine gate_dst (N := 1) rfl ?_); refine box_event ?hg (N := 1) ?hd (cs := #[.int .i64 a0_0, .int .i64 a0_1, .int .i64 a0_2, .int .i64 a0_3]) (t := 41) ?hr ?_; (case hd => rfl); (case hg => rfl); (case hr => first | (go_simp; done) | (go_simp; rfl)); intro gb635 hg w10 hbox hb; have n0_ := Aside0.mk (below_step (by repeat (first | (with_reducible first | exact HB.out | apply below_alloc | apply pw_below_drewN | apply below_drew1) | exact HB.out)) hb); have n1_ := Aside0.mk (hbox); have n2_ := Aside0.mk ((by rw [hg]; exact (below_size (by repeat (first | (with_reducible first | exact HB.out | apply below_alloc | apply pw_below_drewN | apply below_drew1) | exact HB.out))) : w.heap.size ≤ gb635)); have n3_ := Aside0.mk ((by rw [hg]; exact (below_size (by repeat (first | (with_reducible first | exact HB.out | apply below_alloc | apply pw_below_drewN | apply below_drew1) | exact HB.out))) : w.heap.size ≤ gb635)); clear HB; have HB := n0_; have BK635 := n1_; have GW635 := n2_; have GE635 := n3_; clear n0_ n1_ n2_ n3_; clear hb hbox hg; have hcz11_0 : w10.cell? ⟨gb635, 0, none⟩ = some (.int .i64 a0_0) := (blk_cell BK635.out 0).trans rfl; have hcz11_1 : w10.cell? ⟨gb635, 1, none⟩ = some (.int .i64 a0_1) := (blk_cell BK635.out 1).trans rfl; have hcz11_2 : w10.cell? ⟨gb635, 2, none⟩ = some (.int .i64 a0_2) := (blk_cell BK635.out 2).trans rfl; have hcz11_3 : w10.cell? ⟨gb635, 3, none⟩ = some (.int .i64 a0_3) := (blk_cell BK635.out 3).trans rfl; have hfz11_0 := blk_frozen BK635.out 0; have hfz11_1 := blk_frozen BK635.out 1; have hfz11_2 := blk_frozen BK635.out 2; have hfz11_3 := blk_frozen BK635.out 3) | ((with_reducible refine gate_callee (f := 111) rfl ?_); refine goesL_ (some 5) rfl rfl Try.func111 (by kernel_rfl) rfl #[.agg #[.int .i64 a0_0, .int .i64 a0_1]] rfl (by (try simp only [List.map_toArray, List.map_cons, List.map_nil]); first | done | rfl | (simp only [List.length_drop, List.length_take]; rfl)) ?_; (with_reducible refine (period_Valid.calls a0_0 a0_1 false _ A2.out).mono ?_); rintro e w12 ⟨rfl, hb⟩; refine ⟨_, rfl, ?_⟩; have n0_ := Aside0.mk (blk_below (g := gb635) (o := .cells #[.int .i64 a0_0, .int .i64 a0_1, .int .i64 a0_2, .int .i64 a0_3] 41 (0, 0)) (by (with_reducible repeat (first | refine blk_drewN ?_ _ | refine blk_drew ?_ | refine blk_alloc ?_ _)); exact BK635.out) hb); have n1_ := Aside0.mk (below_step (by repeat (first | (with_reducible first | exact HB.out | apply below_alloc | apply pw_below_drewN | apply below_drew1 | refine below_set ?_ GE635.out) | exact HB.out)) hb); clear BK635; clear HB; have BK635 := n0_; have HB := n1_; clear n0_ n1_; (try clear hb); (try clear hb2); (try clear hk); (try clear hi)))
    go_ret
    exact ⟨by first | rfl | (simp [errW_none, errW_some] <;> rfl) | (simp [*, errW_none, errW_some] <;> rfl), by repeat (first | (with_reducible first | exact HB.out | apply below_alloc | apply pw_below_drewN | apply below_drew1 | refine below_set ?_ GE635.out) | exact HB.out)⟩
end Go.Proofs.Ytdcelpppgbmlaaa.P
