-- WRITTEN BY wip/gen.py (the kit's print with contracts put in that are proved by hand). Lean checks it.
import Derived.Test.YtdcelpppgbmlaaaXP0
import Derived.Test.YtdcelpppgbmlaaaXPEq1
import Derived.Test.YtdcelpppgbmlaaaXPRef01
import Derived.Test.YtdcelpppgbmlaaaXPRef03
import Derived.Test.YtdcelpppgbmlaaaXPRef03b
import Derived.Test.YtdcelpppgbmlaaaXPRef03c
namespace Go.Proofs.Ytdcelpppgbmlaaa.P
open Go.RowKit Go.Proofs.YtdcelpppgbmlaaaW.PrintWords Go.Proofs.YtdcelpppgbmlaaaW.PrintLast Go.Proofs.YtdcelpppgbmlaaaW.PrintMore
attribute [local go_sem] max2_int min2_int max_two min_two max_three min_three max_four min_four   -- for this text's walks alone
set_option linter.unusedVariables false
set_option linter.unusedSimpArgs false
attribute [local go_sem high] eqA41
def bitemporalref05_Same.l0 : Nat → List (S41) → List (S41) → Int → Option (Bool)
  | 0, _, _, _ => none
  | k + 1, x0, x1, x5 => if x5 < (x0.length : Int) then (if 0 ≤ x5 then (if x5 < (x1.length : Int) then (if ((!(((rd_T41 x0 x5).f0.f0) == ((rd_T41 x1 x5).f0.f0)) || (!(((rd_T41 x0 x5).f0.f1) == ((rd_T41 x1 x5).f0.f1)))) || ((!(((rd_T41 x0 x5).f1.f0) == ((rd_T41 x1 x5).f1.f0)) || (!(((rd_T41 x0 x5).f1.f1) == ((rd_T41 x1 x5).f1.f1)))))) = true then (some false) else (bitemporalref05_Same.l0 k x0 x1 (wrap64 (x5 + 1)))) else (none)) else (none)) else (some true)
def bitemporalref05_Same.f (k : Nat) (l0 : List (S41)) (l1 : List (S41)) : Option (Bool) := if (l0.length : Int) = (l1.length : Int) then (bitemporalref05_Same.l0 k l0 l1 0) else (some false)
set_option maxHeartbeats 8000000 in
set_option maxRecDepth 100000 in
theorem bitemporalref05_Same.calls (k : Nat) (A0 : Option Addr) (c0 : Nat) (l0 : List (S41)) (A1 : Option Addr) (c1 : Nat) (l1 : List (S41)) (r : Bool) (w : World) (hr0 : Kd.C k41 w A0 l0.length l0) (hc0 : l0.length ≤ c0) (hr1 : Kd.C k41 w A1 l1.length l1) (hc1 : l1.length ≤ c1) (h : bitemporalref05_Same.f k l0 l1 = some r) :
    Calls Try.prog 66 #[.slice A0 l0.length c0, .slice A1 l1.length c1] w fun e w' => e = .returned (.bool r) ∧ Drawn0 w w' := by
  have hu41 := Try.underlying41
  have HR0 := Aside0.mk hr0
  have HC0 := Aside0.mk hc0
  clear hr0 hc0
  have HR1 := Aside0.mk hr1
  have HC1 := Aside0.mk hc1
  clear hr1 hc1
  have H : (if (l0.length : Int) = (l1.length : Int) then (bitemporalref05_Same.l0 k l0 l1 0) else (some false)) = some r := h
  clear h
  by_cases c3 : (l0.length : Int) = (l1.length : Int)
  · rw [if_pos c3] at H
    have c3b0 : ((l0.length : Int) == (l1.length : Int)) = true := beq_iff_eq.mpr c3
    have c3b1 : ((l0.length : Int) != (l1.length : Int)) = false := bne_eq_false_iff_eq.mpr c3
    have c3b2 : (l0.length == l1.length) = true := by first | simpa using c3 | (simp at c3 ⊢; omega)
    clear c3
    have H' := Aside0.mk H
    clear H
    go_enter Try.func66, Try.ntmps66
    go_wp2
    repeat (go_quiet (fail); try go_wp2)
    go_loopg [5] k (fun kq v5 w' => ∃ (x5_1 : Int), v5 = .int .i64 x5_1 ∧ Aside0 (bitemporalref05_Same.l0 kq l0 l1 x5_1 = some r) ∧ Aside0 (kq ≤ k) ∧ Drawn0 w w')
    case atStart => exact ⟨(0), (by first | rfl | (simp; done) | (simp [*]; done)), H', ⟨Nat.le_refl _⟩, by repeat (first | exact Drawn0.refl _ | apply Drawn0.step)⟩
    case round =>
      clear H'
      try clear c1
      try clear p2
      try clear c3
      try clear c3b0
      try clear c3b1
      try clear c3b2
      obtain ⟨x5_1, rfl, HA, HK1, ⟨m1, rfl⟩⟩ := hrel
      cases gk with
      | zero => exact absurd HA.out (by simp [bitemporalref05_Same.l0])
      | succ k1 =>
        have H := HA.out
        clear HA
        simp only [bitemporalref05_Same.l0] at H
        by_cases c4 : x5_1 < (l0.length : Int)
        · rw [if_pos c4] at H
          have c4b0 : decide (x5_1 < (l0.length : Int)) = true := decide_eq_true c4
          clear c4
          by_cases c5 : 0 ≤ x5_1
          · rw [if_pos c5] at H
            have c5b0 : decide (0 ≤ x5_1) = true := decide_eq_true c5
            clear c5
            by_cases c6 : x5_1 < (l1.length : Int)
            · rw [if_pos c6] at H
              have c6b0 : decide (x5_1 < (l1.length : Int)) = true := decide_eq_true c6
              clear c6
              by_cases c7 : ((!(((rd_T41 l0 x5_1).f0.f0) == ((rd_T41 l1 x5_1).f0.f0)) || (!(((rd_T41 l0 x5_1).f0.f1) == ((rd_T41 l1 x5_1).f0.f1)))) || ((!(((rd_T41 l0 x5_1).f1.f0) == ((rd_T41 l1 x5_1).f1.f0)) || (!(((rd_T41 l0 x5_1).f1.f1) == ((rd_T41 l1 x5_1).f1.f1)))))) = true
              · rw [if_pos c7] at H
                have c7b0 : ((!(((rd_T41 l0 x5_1).f0.f0) == ((rd_T41 l1 x5_1).f0.f0)) || (!(((rd_T41 l0 x5_1).f0.f1) == ((rd_T41 l1 x5_1).f0.f1)))) || ((!(((rd_T41 l0 x5_1).f1.f0) == ((rd_T41 l1 x5_1).f1.f0)) || (!(((rd_T41 l0 x5_1).f1.f1) == ((rd_T41 l1 x5_1).f1.f1)))))) = true := c7
                clear c7
                obtain rfl := Option.some.inj H
                have p633 : 0 ≤ (x5_1 : Int) := of_decide_eq_true (by first | (with_reducible assumption) | assumption)
                have q633 : x5_1 < (l0.length : Int) := of_decide_eq_true (by first | (with_reducible assumption) | assumption)
                obtain ⟨ad633, e633, hx633_0, hx633_1, hx633_2, hx633_3⟩ := at_T41 HR0.out x5_1 p633 q633
                cases e633
                replace p633 := eq_true p633
                replace q633 := eq_true q633
                have p634 : 0 ≤ (x5_1 : Int) := of_decide_eq_true (by first | (with_reducible assumption) | assumption)
                have q634 : x5_1 < (l1.length : Int) := of_decide_eq_true (by first | (with_reducible assumption) | assumption)
                obtain ⟨ad634, e634, hx634_0, hx634_1, hx634_2, hx634_3⟩ := at_T41 HR1.out x5_1 p634 q634
                cases e634
                replace p634 := eq_true p634
                replace q634 := eq_true q634
                go_wp2
                repeat (go_quiet (fail); try go_wp2)
                go_ret
                exact ⟨by first | rfl | (simp; done) | (simp [*]; done), by repeat (first | exact Drawn0.refl _ | apply Drawn0.step)⟩
              · rw [if_neg c7] at H
                have c7b0 : ((!(((rd_T41 l0 x5_1).f0.f0) == ((rd_T41 l1 x5_1).f0.f0)) || (!(((rd_T41 l0 x5_1).f0.f1) == ((rd_T41 l1 x5_1).f0.f1)))) || ((!(((rd_T41 l0 x5_1).f1.f0) == ((rd_T41 l1 x5_1).f1.f0)) || (!(((rd_T41 l0 x5_1).f1.f1) == ((rd_T41 l1 x5_1).f1.f1)))))) = false := by simpa using c7
                clear c7
                have H' := Aside0.mk H
                clear H
                have p633 : 0 ≤ (x5_1 : Int) := of_decide_eq_true (by first | (with_reducible assumption) | assumption)
                have q633 : x5_1 < (l0.length : Int) := of_decide_eq_true (by first | (with_reducible assumption) | assumption)
                obtain ⟨ad633, e633, hx633_0, hx633_1, hx633_2, hx633_3⟩ := at_T41 HR0.out x5_1 p633 q633
                cases e633
                replace p633 := eq_true p633
                replace q633 := eq_true q633
                have p634 : 0 ≤ (x5_1 : Int) := of_decide_eq_true (by first | (with_reducible assumption) | assumption)
                have q634 : x5_1 < (l1.length : Int) := of_decide_eq_true (by first | (with_reducible assumption) | assumption)
                obtain ⟨ad634, e634, hx634_0, hx634_1, hx634_2, hx634_3⟩ := at_T41 HR1.out x5_1 p634 q634
                cases e634
                replace p634 := eq_true p634
                replace q634 := eq_true q634
                go_wp2
                repeat (go_quiet (fail); try go_wp2)
                go_roundg k1
                case measure => have := HK1.out; omega
                case rel => exact ⟨(wrap64 (x5_1 + 1)), (by first | rfl | (simp; done) | (simp [*]; done)), H', ⟨by have := HK1.out; omega⟩, by repeat (first | exact Drawn0.refl _ | apply Drawn0.step)⟩
            · rw [if_neg c6] at H
              exact absurd H (by simp)
          · rw [if_neg c5] at H
            exact absurd H (by simp)
        · rw [if_neg c4] at H
          have c4b0 : decide (x5_1 < (l0.length : Int)) = false := decide_eq_false c4
          clear c4
          obtain rfl := Option.some.inj H
          go_wp2
          repeat (go_quiet (fail); try go_wp2)
          go_ret
          exact ⟨by first | rfl | (simp; done) | (simp [*]; done), by repeat (first | exact Drawn0.refl _ | apply Drawn0.step)⟩
  · rw [if_neg c3] at H
    have c3b0 : ((l0.length : Int) == (l1.length : Int)) = false := beq_eq_false_iff_ne.mpr c3
    have c3b1 : ((l0.length : Int) != (l1.length : Int)) = true := bne_iff_ne.mpr c3
    have c3b2 : (l0.length == l1.length) = false := by first | simpa using c3 | (simp at c3 ⊢; omega)
    obtain rfl := Option.some.inj H
    go_enter Try.func66, Try.ntmps66
    go_wp2
    repeat (go_quiet (fail); try go_wp2)
    go_ret
    exact ⟨by first | rfl | (simp; done) | (simp [*]; done), by repeat (first | exact Drawn0.refl _ | apply Drawn0.step)⟩
def bitemporalref05_Sound.f (a0_0 : Int) (a0_1 : Int) (a0_2 : Int) (a0_3 : Int) : Option (Bool) := (bitemporalref01_Valid.f a0_0 a0_1).bind fun t757 => (if t757 = true then ((bitemporalref01_Valid.f a0_2 a0_3).bind fun t758 => (some t758)) else (some false))
set_option maxHeartbeats 8000000 in
set_option maxRecDepth 100000 in
theorem bitemporalref05_Sound.calls (a0_0 : Int) (a0_1 : Int) (a0_2 : Int) (a0_3 : Int) (r : Bool) (w : World) (h : bitemporalref05_Sound.f a0_0 a0_1 a0_2 a0_3 = some r) :
    Calls Try.prog 76 #[.agg #[.int .i64 a0_0, .int .i64 a0_1, .int .i64 a0_2, .int .i64 a0_3]] w fun e w' => e = .returned (.bool r) ∧ Below w.heap.size w w' := by
  have hu41 := Try.underlying41
  have hu33 := Try.underlying33
  have HB := Aside0.mk (Below.refl w.heap.size w)
  have H : ((bitemporalref01_Valid.f a0_0 a0_1).bind fun t757 => (if t757 = true then ((bitemporalref01_Valid.f a0_2 a0_3).bind fun t758 => (some t758)) else (some false))) = some r := h
  clear h
  replace H := Option.bind_eq_some_iff.mp H
  obtain ⟨t757, A20, H⟩ := H
  replace H : (if t757 = true then ((bitemporalref01_Valid.f a0_2 a0_3).bind fun t758 => (some t758)) else (some false)) = some r := H
  have A2 := Aside0.mk A20
  clear A20
  by_cases c3 : t757 = true
  · subst c3
    have H1 : ((bitemporalref01_Valid.f a0_2 a0_3).bind fun t758 => (some t758)) = some r := by rw [if_pos rfl] at H; exact H
    clear H
    have H := H1
    clear H1
    replace H := Option.bind_eq_some_iff.mp H
    obtain ⟨t758, A40, H⟩ := H
    replace H : (some t758) = some r := H
    have A4 := Aside0.mk A40
    clear A40
    obtain rfl := Option.some.inj H
    go_enter Try.func76, Try.ntmps76
    go_wp2_with (first | ((with_reducible refine gate_dst (N := 1) rfl ?_); refine box_event ?hg (N := 1) ?hd (cs := #[.int .i64 a0_0, .int .i64 a0_1, .int .i64 a0_2, .int .i64 a0_3]) (t := 41) ?hr ?_; (case hd => rfl); (case hg => rfl); (case hr => first | (go_simp; done) | (go_simp; rfl)); intro gb756 hg w5 hbox hb; have n0_ := Aside0.mk (below_step (by repeat (first | (with_reducible first | exact HB.out | apply below_alloc | apply pw_below_drewN | apply below_drew1) | exact HB.out)) hb); have n1_ := Aside0.mk (hbox); have n2_ := Aside0.mk ((by rw [hg]; exact (below_size (by repeat (first | (with_reducible first | exact HB.out | apply below_alloc | apply pw_below_drewN | apply below_drew1) | exact HB.out))) : w.heap.size ≤ gb756)); have n3_ := Aside0.mk ((by rw [hg]; exact (below_size (by repeat (first | (with_reducible first | exact HB.out | apply below_alloc | apply pw_below_drewN | apply below_drew1) | exact HB.out))) : w.heap.size ≤ gb756)); clear HB; have HB := n0_; have BK756 := n1_; have GW756 := n2_; have GE756 := n3_; clear n0_ n1_ n2_ n3_; clear hb hbox hg; have hcz6_0 : w5.cell? ⟨gb756, 0, none⟩ = some (.int .i64 a0_0) := (blk_cell BK756.out 0).trans rfl; have hcz6_1 : w5.cell? ⟨gb756, 1, none⟩ = some (.int .i64 a0_1) := (blk_cell BK756.out 1).trans rfl; have hcz6_2 : w5.cell? ⟨gb756, 2, none⟩ = some (.int .i64 a0_2) := (blk_cell BK756.out 2).trans rfl; have hcz6_3 : w5.cell? ⟨gb756, 3, none⟩ = some (.int .i64 a0_3) := (blk_cell BK756.out 3).trans rfl; have hfz6_0 := blk_frozen BK756.out 0; have hfz6_1 := blk_frozen BK756.out 1; have hfz6_2 := blk_frozen BK756.out 2; have hfz6_3 := blk_frozen BK756.out 3) | ((with_reducible refine gate_callee (f := 37) rfl ?_); refine goesL_ (some 5) rfl rfl Try.func37 (by kernel_rfl) rfl #[.agg #[.int .i64 a0_0, .int .i64 a0_1]] rfl (by (try simp only [List.map_toArray, List.map_cons, List.map_nil]); first | done | rfl | (simp only [List.length_drop, List.length_take]; rfl)) ?_; (with_reducible refine (bitemporalref01_Valid.calls a0_0 a0_1 true _ A2.out).mono ?_); rintro e w7 ⟨rfl, hb⟩; refine ⟨_, rfl, ?_⟩; have n0_ := Aside0.mk (blk_below (g := gb756) (o := .cells #[.int .i64 a0_0, .int .i64 a0_1, .int .i64 a0_2, .int .i64 a0_3] 41 (0, 0)) (by (with_reducible repeat (first | refine blk_drewN ?_ _ | refine blk_drew ?_ | refine blk_alloc ?_ _)); exact BK756.out) hb); have n1_ := Aside0.mk (below_step (by repeat (first | (with_reducible first | exact HB.out | apply below_alloc | apply pw_below_drewN | apply below_drew1 | refine below_set ?_ GE756.out) | exact HB.out)) hb); clear BK756; clear HB; have BK756 := n0_; have HB := n1_; clear n0_ n1_; (try clear hb); (try clear hb2); (try clear hk); (try clear hi); have hcz8_0 : w7.cell? ⟨gb756, 0, none⟩ = some (.int .i64 a0_0) := (blk_cell BK756.out 0).trans rfl; have hcz8_1 : w7.cell? ⟨gb756, 1, none⟩ = some (.int .i64 a0_1) := (blk_cell BK756.out 1).trans rfl; have hcz8_2 : w7.cell? ⟨gb756, 2, none⟩ = some (.int .i64 a0_2) := (blk_cell BK756.out 2).trans rfl; have hcz8_3 : w7.cell? ⟨gb756, 3, none⟩ = some (.int .i64 a0_3) := (blk_cell BK756.out 3).trans rfl; have hfz8_0 := blk_frozen BK756.out 0; have hfz8_1 := blk_frozen BK756.out 1; have hfz8_2 := blk_frozen BK756.out 2; have hfz8_3 := blk_frozen BK756.out 3) | (go_at_call 37; (with_reducible refine (bitemporalref01_Valid.calls a0_2 a0_3 t758 _ A4.out).mono ?_); rintro e w9 ⟨rfl, hb⟩; have n0_ := Aside0.mk (blk_below (g := gb756) (o := .cells #[.int .i64 a0_0, .int .i64 a0_1, .int .i64 a0_2, .int .i64 a0_3] 41 (0, 0)) (by (with_reducible repeat (first | refine blk_drewN ?_ _ | refine blk_drew ?_ | refine blk_alloc ?_ _)); exact BK756.out) hb); have n1_ := Aside0.mk (below_step (by repeat (first | (with_reducible first | exact HB.out | apply below_alloc | apply pw_below_drewN | apply below_drew1 | refine below_set ?_ GE756.out) | exact HB.out)) hb); clear BK756; clear HB; have BK756 := n0_; have HB := n1_; clear n0_ n1_; (try clear hb); (try clear hb2); (try clear hk); (try clear hi)))
    go_ret
    exact ⟨by first | rfl | (simp [errW_none, errW_some] <;> rfl) | (simp [*, errW_none, errW_some] <;> rfl), by repeat (first | (with_reducible first | exact HB.out | apply below_alloc | apply pw_below_drewN | apply below_drew1 | refine below_set ?_ GE756.out) | exact HB.out)⟩
  · replace c3 := Bool.eq_false_iff.mpr c3
    subst c3
    have H1 : (some false) = some r := by rw [if_neg (show ¬ (false = true) by decide)] at H; exact H
    clear H
    have H := H1
    clear H1
    obtain rfl := Option.some.inj H
    go_enter Try.func76, Try.ntmps76
    go_wp2_with (first | ((with_reducible refine gate_dst (N := 1) rfl ?_); refine box_event ?hg (N := 1) ?hd (cs := #[.int .i64 a0_0, .int .i64 a0_1, .int .i64 a0_2, .int .i64 a0_3]) (t := 41) ?hr ?_; (case hd => rfl); (case hg => rfl); (case hr => first | (go_simp; done) | (go_simp; rfl)); intro gb756 hg w10 hbox hb; have n0_ := Aside0.mk (below_step (by repeat (first | (with_reducible first | exact HB.out | apply below_alloc | apply pw_below_drewN | apply below_drew1) | exact HB.out)) hb); have n1_ := Aside0.mk (hbox); have n2_ := Aside0.mk ((by rw [hg]; exact (below_size (by repeat (first | (with_reducible first | exact HB.out | apply below_alloc | apply pw_below_drewN | apply below_drew1) | exact HB.out))) : w.heap.size ≤ gb756)); have n3_ := Aside0.mk ((by rw [hg]; exact (below_size (by repeat (first | (with_reducible first | exact HB.out | apply below_alloc | apply pw_below_drewN | apply below_drew1) | exact HB.out))) : w.heap.size ≤ gb756)); clear HB; have HB := n0_; have BK756 := n1_; have GW756 := n2_; have GE756 := n3_; clear n0_ n1_ n2_ n3_; clear hb hbox hg; have hcz11_0 : w10.cell? ⟨gb756, 0, none⟩ = some (.int .i64 a0_0) := (blk_cell BK756.out 0).trans rfl; have hcz11_1 : w10.cell? ⟨gb756, 1, none⟩ = some (.int .i64 a0_1) := (blk_cell BK756.out 1).trans rfl; have hcz11_2 : w10.cell? ⟨gb756, 2, none⟩ = some (.int .i64 a0_2) := (blk_cell BK756.out 2).trans rfl; have hcz11_3 : w10.cell? ⟨gb756, 3, none⟩ = some (.int .i64 a0_3) := (blk_cell BK756.out 3).trans rfl; have hfz11_0 := blk_frozen BK756.out 0; have hfz11_1 := blk_frozen BK756.out 1; have hfz11_2 := blk_frozen BK756.out 2; have hfz11_3 := blk_frozen BK756.out 3) | ((with_reducible refine gate_callee (f := 37) rfl ?_); refine goesL_ (some 5) rfl rfl Try.func37 (by kernel_rfl) rfl #[.agg #[.int .i64 a0_0, .int .i64 a0_1]] rfl (by (try simp only [List.map_toArray, List.map_cons, List.map_nil]); first | done | rfl | (simp only [List.length_drop, List.length_take]; rfl)) ?_; (with_reducible refine (bitemporalref01_Valid.calls a0_0 a0_1 false _ A2.out).mono ?_); rintro e w12 ⟨rfl, hb⟩; refine ⟨_, rfl, ?_⟩; have n0_ := Aside0.mk (blk_below (g := gb756) (o := .cells #[.int .i64 a0_0, .int .i64 a0_1, .int .i64 a0_2, .int .i64 a0_3] 41 (0, 0)) (by (with_reducible repeat (first | refine blk_drewN ?_ _ | refine blk_drew ?_ | refine blk_alloc ?_ _)); exact BK756.out) hb); have n1_ := Aside0.mk (below_step (by repeat (first | (with_reducible first | exact HB.out | apply below_alloc | apply pw_below_drewN | apply below_drew1 | refine below_set ?_ GE756.out) | exact HB.out)) hb); clear BK756; clear HB; have BK756 := n0_; have HB := n1_; clear n0_ n1_; (try clear hb); (try clear hb2); (try clear hk); (try clear hi)))
    go_ret
    exact ⟨by first | rfl | (simp [errW_none, errW_some] <;> rfl) | (simp [*, errW_none, errW_some] <;> rfl), by repeat (first | (with_reducible first | exact HB.out | apply below_alloc | apply pw_below_drewN | apply below_drew1 | refine below_set ?_ GE756.out) | exact HB.out)⟩
def bitemporalref05_Contains.l0 : Nat → List (S41) → Int → Int → Int → Option (Bool)
  | 0, _, _, _, _ => none
  | k + 1, x0, x1, x2, x7 => if x7 < (x0.length : Int) then (if 0 ≤ x7 then ((bitemporalref05_Sound.f ((rd_T41 x0 x7).f0.f0) ((rd_T41 x0 x7).f0.f1) ((rd_T41 x0 x7).f1.f0) ((rd_T41 x0 x7).f1.f1)).bind fun t760 => (if t760 = true then ((bitemporalref01_Contains.f ((rd_T41 x0 x7).f0.f0) ((rd_T41 x0 x7).f0.f1) x1).bind fun t762 => (if t762 = true then ((bitemporalref01_Contains.f ((rd_T41 x0 x7).f1.f0) ((rd_T41 x0 x7).f1.f1) x2).bind fun t764 => (if t764 = true then (some true) else (bitemporalref05_Contains.l0 k x0 x1 x2 (wrap64 (x7 + 1))))) else (bitemporalref05_Contains.l0 k x0 x1 x2 (wrap64 (x7 + 1))))) else (bitemporalref05_Contains.l0 k x0 x1 x2 (wrap64 (x7 + 1))))) else (none)) else (some false)
def bitemporalref05_Contains.f (k : Nat) (l0 : List (S41)) (a1 : Int) (a2 : Int) : Option (Bool) := bitemporalref05_Contains.l0 k l0 a1 a2 0
set_option maxHeartbeats 8000000 in
set_option maxRecDepth 100000 in
theorem bitemporalref05_Contains.calls (k : Nat) (A0 : Option Addr) (c0 : Nat) (l0 : List (S41)) (a1 : Int) (a2 : Int) (r : Bool) (w : World) (hr0 : Kd.C k41 w A0 l0.length l0) (hc0 : l0.length ≤ c0) (h : bitemporalref05_Contains.f k l0 a1 a2 = some r) :
    Calls Try.prog 80 #[.slice A0 l0.length c0, .int .i64 a1, .int .i64 a2] w fun e w' => e = .returned (.bool r) ∧ Below w.heap.size w w' := by
  have hu41 := Try.underlying41
  have hu33 := Try.underlying33
  have HR0 := Aside0.mk hr0
  have HC0 := Aside0.mk hc0
  clear hr0 hc0
  have HB := Aside0.mk (Below.refl w.heap.size w)
  have H : (bitemporalref05_Contains.l0 k l0 a1 a2 0) = some r := h
  clear h
  have H' := Aside0.mk H
  clear H
  go_enter Try.func80, Try.ntmps80
  go_wp2
  go_loopg [7] k (fun kq v7 w' => ∃ (x7_1 : Int), v7 = .int .i64 x7_1 ∧ Aside0 (bitemporalref05_Contains.l0 kq l0 a1 a2 x7_1 = some r) ∧ Aside0 (kq ≤ k) ∧ Aside0 (Below w.heap.size w w'))
  case atStart => exact ⟨(0), (by first | rfl | (simp; done) | (simp [*]; done)), H', ⟨Nat.le_refl _⟩, ⟨by repeat (first | (with_reducible first | exact HB.out | apply below_alloc | apply pw_below_drewN | apply below_drew1) | exact HB.out)⟩⟩
  case round =>
    clear H'
    try clear p2
    obtain ⟨x7_1, rfl, HA, HK1, HB⟩ := hrel
    cases gk with
    | zero => exact absurd HA.out (by simp [bitemporalref05_Contains.l0])
    | succ k1 =>
      have H := HA.out
      clear HA
      simp only [bitemporalref05_Contains.l0] at H
      by_cases c4 : x7_1 < (l0.length : Int)
      · rw [if_pos c4] at H
        have c4b0 : decide (x7_1 < (l0.length : Int)) = true := decide_eq_true c4
        clear c4
        by_cases c5 : 0 ≤ x7_1
        · rw [if_pos c5] at H
          have c5b0 : decide (0 ≤ x7_1) = true := decide_eq_true c5
          clear c5
          replace H := Option.bind_eq_some_iff.mp H
          obtain ⟨t760, A60, H⟩ := H
          replace H : (if t760 = true then ((bitemporalref01_Contains.f ((rd_T41 l0 x7_1).f0.f0) ((rd_T41 l0 x7_1).f0.f1) a1).bind fun t762 => (if t762 = true then ((bitemporalref01_Contains.f ((rd_T41 l0 x7_1).f1.f0) ((rd_T41 l0 x7_1).f1.f1) a2).bind fun t764 => (if t764 = true then (some true) else (bitemporalref05_Contains.l0 k1 l0 a1 a2 (wrap64 (x7_1 + 1))))) else (bitemporalref05_Contains.l0 k1 l0 a1 a2 (wrap64 (x7_1 + 1))))) else (bitemporalref05_Contains.l0 k1 l0 a1 a2 (wrap64 (x7_1 + 1)))) = some r := H
          have A6 := Aside0.mk A60
          clear A60
          by_cases c7 : t760 = true
          · subst c7
            have H1 : ((bitemporalref01_Contains.f ((rd_T41 l0 x7_1).f0.f0) ((rd_T41 l0 x7_1).f0.f1) a1).bind fun t762 => (if t762 = true then ((bitemporalref01_Contains.f ((rd_T41 l0 x7_1).f1.f0) ((rd_T41 l0 x7_1).f1.f1) a2).bind fun t764 => (if t764 = true then (some true) else (bitemporalref05_Contains.l0 k1 l0 a1 a2 (wrap64 (x7_1 + 1))))) else (bitemporalref05_Contains.l0 k1 l0 a1 a2 (wrap64 (x7_1 + 1))))) = some r := by rw [if_pos rfl] at H; exact H
            clear H
            have H := H1
            clear H1
            replace H := Option.bind_eq_some_iff.mp H
            obtain ⟨t762, A80, H⟩ := H
            replace H : (if t762 = true then ((bitemporalref01_Contains.f ((rd_T41 l0 x7_1).f1.f0) ((rd_T41 l0 x7_1).f1.f1) a2).bind fun t764 => (if t764 = true then (some true) else (bitemporalref05_Contains.l0 k1 l0 a1 a2 (wrap64 (x7_1 + 1))))) else (bitemporalref05_Contains.l0 k1 l0 a1 a2 (wrap64 (x7_1 + 1)))) = some r := H
            have A8 := Aside0.mk A80
            clear A80
            by_cases c9 : t762 = true
            · subst c9
              have H1 : ((bitemporalref01_Contains.f ((rd_T41 l0 x7_1).f1.f0) ((rd_T41 l0 x7_1).f1.f1) a2).bind fun t764 => (if t764 = true then (some true) else (bitemporalref05_Contains.l0 k1 l0 a1 a2 (wrap64 (x7_1 + 1))))) = some r := by rw [if_pos rfl] at H; exact H
              clear H
              have H := H1
              clear H1
              replace H := Option.bind_eq_some_iff.mp H
              obtain ⟨t764, A100, H⟩ := H
              replace H : (if t764 = true then (some true) else (bitemporalref05_Contains.l0 k1 l0 a1 a2 (wrap64 (x7_1 + 1)))) = some r := H
              have A10 := Aside0.mk A100
              clear A100
              by_cases c11 : t764 = true
              · subst c11
                have H1 : (some true) = some r := by rw [if_pos rfl] at H; exact H
                clear H
                have H := H1
                clear H1
                obtain rfl := Option.some.inj H
                have p759 : 0 ≤ (x7_1 : Int) := of_decide_eq_true (by first | (with_reducible assumption) | assumption)
                have q759 : x7_1 < (l0.length : Int) := of_decide_eq_true (by first | (with_reducible assumption) | assumption)
                obtain ⟨ad759, e759, hx759_0, hx759_1, hx759_2, hx759_3⟩ := at_T41 HR0.out x7_1 p759 q759
                cases e759
                replace hx759_0 := (HB.out.cell (World.block_lt_of_cell? w _ hx759_0)).trans hx759_0
                replace hx759_1 := (HB.out.cell (World.block_lt_of_cell? w _ hx759_1)).trans hx759_1
                replace hx759_2 := (HB.out.cell (World.block_lt_of_cell? w _ hx759_2)).trans hx759_2
                replace hx759_3 := (HB.out.cell (World.block_lt_of_cell? w _ hx759_3)).trans hx759_3
                replace p759 := eq_true p759
                replace q759 := eq_true q759
                go_wp2_with (first | ((with_reducible refine gate_callee (f := 76) rfl ?_); refine goesL_ (some 18) rfl rfl Try.func76 (by kernel_rfl) rfl #[.agg #[.int .i64 ((rd_T41 l0 x7_1).f0.f0), .int .i64 ((rd_T41 l0 x7_1).f0.f1), .int .i64 ((rd_T41 l0 x7_1).f1.f0), .int .i64 ((rd_T41 l0 x7_1).f1.f1)]] rfl (by (try simp only [List.map_toArray, List.map_cons, List.map_nil]); first | done | rfl | (simp only [List.length_drop, List.length_take]; rfl)) ?_; (with_reducible refine (bitemporalref05_Sound.calls ((rd_T41 l0 x7_1).f0.f0) ((rd_T41 l0 x7_1).f0.f1) ((rd_T41 l0 x7_1).f1.f0) ((rd_T41 l0 x7_1).f1.f1) true _ A6.out).mono ?_); rintro e w12 ⟨rfl, hb⟩; refine ⟨_, rfl, ?_⟩; have n0_ := Aside0.mk (below_step (by repeat (first | (with_reducible first | exact HB.out | apply below_alloc | apply pw_below_drewN | apply below_drew1) | exact HB.out)) hb); clear HB; have HB := n0_; clear n0_; (try clear hb); (try clear hb2); (try clear hk); (try clear hi); have p761 : 0 ≤ (x7_1 : Int) := of_decide_eq_true (by first | (with_reducible assumption) | assumption); have q761 : x7_1 < (l0.length : Int) := of_decide_eq_true (by first | (with_reducible assumption) | assumption); obtain ⟨ad761, e761, hx761_0, hx761_1, hx761_2, hx761_3⟩ := at_T41 HR0.out x7_1 p761 q761; obtain rfl : ad759 = ad761 := (by injection e761); replace hx761_0 := (HB.out.cell (World.block_lt_of_cell? w _ hx761_0)).trans hx761_0; replace hx761_1 := (HB.out.cell (World.block_lt_of_cell? w _ hx761_1)).trans hx761_1; replace hx761_2 := (HB.out.cell (World.block_lt_of_cell? w _ hx761_2)).trans hx761_2; replace hx761_3 := (HB.out.cell (World.block_lt_of_cell? w _ hx761_3)).trans hx761_3; replace p761 := eq_true p761; replace q761 := eq_true q761) | (go_at_call 119; (with_reducible refine (bitemporalref01_Contains.calls ((rd_T41 l0 x7_1).f0.f0) ((rd_T41 l0 x7_1).f0.f1) a1 true _ A8.out).mono ?_); rintro e w13 ⟨rfl, hb⟩; have n0_ := Aside0.mk (below_step (by repeat (first | (with_reducible first | exact HB.out | apply below_alloc | apply pw_below_drewN | apply below_drew1) | exact HB.out)) hb); clear HB; have HB := n0_; clear n0_; (try clear hb); (try clear hb2); (try clear hk); (try clear hi); have p763 : 0 ≤ (x7_1 : Int) := of_decide_eq_true (by first | (with_reducible assumption) | assumption); have q763 : x7_1 < (l0.length : Int) := of_decide_eq_true (by first | (with_reducible assumption) | assumption); obtain ⟨ad763, e763, hx763_0, hx763_1, hx763_2, hx763_3⟩ := at_T41 HR0.out x7_1 p763 q763; obtain rfl : ad759 = ad763 := (by injection e763); replace hx763_0 := (HB.out.cell (World.block_lt_of_cell? w _ hx763_0)).trans hx763_0; replace hx763_1 := (HB.out.cell (World.block_lt_of_cell? w _ hx763_1)).trans hx763_1; replace hx763_2 := (HB.out.cell (World.block_lt_of_cell? w _ hx763_2)).trans hx763_2; replace hx763_3 := (HB.out.cell (World.block_lt_of_cell? w _ hx763_3)).trans hx763_3; replace p763 := eq_true p763; replace q763 := eq_true q763) | (go_at_call 119; (with_reducible refine (bitemporalref01_Contains.calls ((rd_T41 l0 x7_1).f1.f0) ((rd_T41 l0 x7_1).f1.f1) a2 true _ A10.out).mono ?_); rintro e w14 ⟨rfl, hb⟩; have n0_ := Aside0.mk (below_step (by repeat (first | (with_reducible first | exact HB.out | apply below_alloc | apply pw_below_drewN | apply below_drew1) | exact HB.out)) hb); clear HB; have HB := n0_; clear n0_; (try clear hb); (try clear hb2); (try clear hk); (try clear hi)))
                go_ret
                exact ⟨by first | rfl | (simp [errW_none, errW_some] <;> rfl) | (simp [*, errW_none, errW_some] <;> rfl), by repeat (first | (with_reducible first | exact HB.out | apply below_alloc | apply pw_below_drewN | apply below_drew1) | exact HB.out)⟩
              · replace c11 := Bool.eq_false_iff.mpr c11
                subst c11
                have H1 : (bitemporalref05_Contains.l0 k1 l0 a1 a2 (wrap64 (x7_1 + 1))) = some r := by rw [if_neg (show ¬ (false = true) by decide)] at H; exact H
                clear H
                have H := H1
                clear H1
                have H' := Aside0.mk H
                clear H
                have p759 : 0 ≤ (x7_1 : Int) := of_decide_eq_true (by first | (with_reducible assumption) | assumption)
                have q759 : x7_1 < (l0.length : Int) := of_decide_eq_true (by first | (with_reducible assumption) | assumption)
                obtain ⟨ad759, e759, hx759_0, hx759_1, hx759_2, hx759_3⟩ := at_T41 HR0.out x7_1 p759 q759
                cases e759
                replace hx759_0 := (HB.out.cell (World.block_lt_of_cell? w _ hx759_0)).trans hx759_0
                replace hx759_1 := (HB.out.cell (World.block_lt_of_cell? w _ hx759_1)).trans hx759_1
                replace hx759_2 := (HB.out.cell (World.block_lt_of_cell? w _ hx759_2)).trans hx759_2
                replace hx759_3 := (HB.out.cell (World.block_lt_of_cell? w _ hx759_3)).trans hx759_3
                replace p759 := eq_true p759
                replace q759 := eq_true q759
                go_wp2_with (first | ((with_reducible refine gate_callee (f := 76) rfl ?_); refine goesL_ (some 18) rfl rfl Try.func76 (by kernel_rfl) rfl #[.agg #[.int .i64 ((rd_T41 l0 x7_1).f0.f0), .int .i64 ((rd_T41 l0 x7_1).f0.f1), .int .i64 ((rd_T41 l0 x7_1).f1.f0), .int .i64 ((rd_T41 l0 x7_1).f1.f1)]] rfl (by (try simp only [List.map_toArray, List.map_cons, List.map_nil]); first | done | rfl | (simp only [List.length_drop, List.length_take]; rfl)) ?_; (with_reducible refine (bitemporalref05_Sound.calls ((rd_T41 l0 x7_1).f0.f0) ((rd_T41 l0 x7_1).f0.f1) ((rd_T41 l0 x7_1).f1.f0) ((rd_T41 l0 x7_1).f1.f1) true _ A6.out).mono ?_); rintro e w15 ⟨rfl, hb⟩; refine ⟨_, rfl, ?_⟩; have n0_ := Aside0.mk (below_step (by repeat (first | (with_reducible first | exact HB.out | apply below_alloc | apply pw_below_drewN | apply below_drew1) | exact HB.out)) hb); clear HB; have HB := n0_; clear n0_; (try clear hb); (try clear hb2); (try clear hk); (try clear hi); have p761 : 0 ≤ (x7_1 : Int) := of_decide_eq_true (by first | (with_reducible assumption) | assumption); have q761 : x7_1 < (l0.length : Int) := of_decide_eq_true (by first | (with_reducible assumption) | assumption); obtain ⟨ad761, e761, hx761_0, hx761_1, hx761_2, hx761_3⟩ := at_T41 HR0.out x7_1 p761 q761; obtain rfl : ad759 = ad761 := (by injection e761); replace hx761_0 := (HB.out.cell (World.block_lt_of_cell? w _ hx761_0)).trans hx761_0; replace hx761_1 := (HB.out.cell (World.block_lt_of_cell? w _ hx761_1)).trans hx761_1; replace hx761_2 := (HB.out.cell (World.block_lt_of_cell? w _ hx761_2)).trans hx761_2; replace hx761_3 := (HB.out.cell (World.block_lt_of_cell? w _ hx761_3)).trans hx761_3; replace p761 := eq_true p761; replace q761 := eq_true q761) | (go_at_call 119; (with_reducible refine (bitemporalref01_Contains.calls ((rd_T41 l0 x7_1).f0.f0) ((rd_T41 l0 x7_1).f0.f1) a1 true _ A8.out).mono ?_); rintro e w16 ⟨rfl, hb⟩; have n0_ := Aside0.mk (below_step (by repeat (first | (with_reducible first | exact HB.out | apply below_alloc | apply pw_below_drewN | apply below_drew1) | exact HB.out)) hb); clear HB; have HB := n0_; clear n0_; (try clear hb); (try clear hb2); (try clear hk); (try clear hi); have p763 : 0 ≤ (x7_1 : Int) := of_decide_eq_true (by first | (with_reducible assumption) | assumption); have q763 : x7_1 < (l0.length : Int) := of_decide_eq_true (by first | (with_reducible assumption) | assumption); obtain ⟨ad763, e763, hx763_0, hx763_1, hx763_2, hx763_3⟩ := at_T41 HR0.out x7_1 p763 q763; obtain rfl : ad759 = ad763 := (by injection e763); replace hx763_0 := (HB.out.cell (World.block_lt_of_cell? w _ hx763_0)).trans hx763_0; replace hx763_1 := (HB.out.cell (World.block_lt_of_cell? w _ hx763_1)).trans hx763_1; replace hx763_2 := (HB.out.cell (World.block_lt_of_cell? w _ hx763_2)).trans hx763_2; replace hx763_3 := (HB.out.cell (World.block_lt_of_cell? w _ hx763_3)).trans hx763_3; replace p763 := eq_true p763; replace q763 := eq_true q763) | (go_at_call 119; (with_reducible refine (bitemporalref01_Contains.calls ((rd_T41 l0 x7_1).f1.f0) ((rd_T41 l0 x7_1).f1.f1) a2 false _ A10.out).mono ?_); rintro e w17 ⟨rfl, hb⟩; have n0_ := Aside0.mk (below_step (by repeat (first | (with_reducible first | exact HB.out | apply below_alloc | apply pw_below_drewN | apply below_drew1) | exact HB.out)) hb); clear HB; have HB := n0_; clear n0_; (try clear hb); (try clear hb2); (try clear hk); (try clear hi)))
                go_roundg k1
                case measure => have := HK1.out; omega
                case rel => exact ⟨(wrap64 (x7_1 + 1)), (by first | rfl | (simp; done) | (simp [*]; done)), H', ⟨by have := HK1.out; omega⟩, ⟨by repeat (first | (with_reducible first | exact HB.out | apply below_alloc | apply pw_below_drewN | apply below_drew1) | exact HB.out)⟩⟩
            · replace c9 := Bool.eq_false_iff.mpr c9
              subst c9
              have H1 : (bitemporalref05_Contains.l0 k1 l0 a1 a2 (wrap64 (x7_1 + 1))) = some r := by rw [if_neg (show ¬ (false = true) by decide)] at H; exact H
              clear H
              have H := H1
              clear H1
              have H' := Aside0.mk H
              clear H
              have p759 : 0 ≤ (x7_1 : Int) := of_decide_eq_true (by first | (with_reducible assumption) | assumption)
              have q759 : x7_1 < (l0.length : Int) := of_decide_eq_true (by first | (with_reducible assumption) | assumption)
              obtain ⟨ad759, e759, hx759_0, hx759_1, hx759_2, hx759_3⟩ := at_T41 HR0.out x7_1 p759 q759
              cases e759
              replace hx759_0 := (HB.out.cell (World.block_lt_of_cell? w _ hx759_0)).trans hx759_0
              replace hx759_1 := (HB.out.cell (World.block_lt_of_cell? w _ hx759_1)).trans hx759_1
              replace hx759_2 := (HB.out.cell (World.block_lt_of_cell? w _ hx759_2)).trans hx759_2
              replace hx759_3 := (HB.out.cell (World.block_lt_of_cell? w _ hx759_3)).trans hx759_3
              replace p759 := eq_true p759
              replace q759 := eq_true q759
              go_wp2_with (first | ((with_reducible refine gate_callee (f := 76) rfl ?_); refine goesL_ (some 18) rfl rfl Try.func76 (by kernel_rfl) rfl #[.agg #[.int .i64 ((rd_T41 l0 x7_1).f0.f0), .int .i64 ((rd_T41 l0 x7_1).f0.f1), .int .i64 ((rd_T41 l0 x7_1).f1.f0), .int .i64 ((rd_T41 l0 x7_1).f1.f1)]] rfl (by (try simp only [List.map_toArray, List.map_cons, List.map_nil]); first | done | rfl | (simp only [List.length_drop, List.length_take]; rfl)) ?_; (with_reducible refine (bitemporalref05_Sound.calls ((rd_T41 l0 x7_1).f0.f0) ((rd_T41 l0 x7_1).f0.f1) ((rd_T41 l0 x7_1).f1.f0) ((rd_T41 l0 x7_1).f1.f1) true _ A6.out).mono ?_); rintro e w18 ⟨rfl, hb⟩; refine ⟨_, rfl, ?_⟩; have n0_ := Aside0.mk (below_step (by repeat (first | (with_reducible first | exact HB.out | apply below_alloc | apply pw_below_drewN | apply below_drew1) | exact HB.out)) hb); clear HB; have HB := n0_; clear n0_; (try clear hb); (try clear hb2); (try clear hk); (try clear hi); have p761 : 0 ≤ (x7_1 : Int) := of_decide_eq_true (by first | (with_reducible assumption) | assumption); have q761 : x7_1 < (l0.length : Int) := of_decide_eq_true (by first | (with_reducible assumption) | assumption); obtain ⟨ad761, e761, hx761_0, hx761_1, hx761_2, hx761_3⟩ := at_T41 HR0.out x7_1 p761 q761; obtain rfl : ad759 = ad761 := (by injection e761); replace hx761_0 := (HB.out.cell (World.block_lt_of_cell? w _ hx761_0)).trans hx761_0; replace hx761_1 := (HB.out.cell (World.block_lt_of_cell? w _ hx761_1)).trans hx761_1; replace hx761_2 := (HB.out.cell (World.block_lt_of_cell? w _ hx761_2)).trans hx761_2; replace hx761_3 := (HB.out.cell (World.block_lt_of_cell? w _ hx761_3)).trans hx761_3; replace p761 := eq_true p761; replace q761 := eq_true q761) | (go_at_call 119; (with_reducible refine (bitemporalref01_Contains.calls ((rd_T41 l0 x7_1).f0.f0) ((rd_T41 l0 x7_1).f0.f1) a1 false _ A8.out).mono ?_); rintro e w19 ⟨rfl, hb⟩; have n0_ := Aside0.mk (below_step (by repeat (first | (with_reducible first | exact HB.out | apply below_alloc | apply pw_below_drewN | apply below_drew1) | exact HB.out)) hb); clear HB; have HB := n0_; clear n0_; (try clear hb); (try clear hb2); (try clear hk); (try clear hi)))
              go_roundg k1
              case measure => have := HK1.out; omega
              case rel => exact ⟨(wrap64 (x7_1 + 1)), (by first | rfl | (simp; done) | (simp [*]; done)), H', ⟨by have := HK1.out; omega⟩, ⟨by repeat (first | (with_reducible first | exact HB.out | apply below_alloc | apply pw_below_drewN | apply below_drew1) | exact HB.out)⟩⟩
          · replace c7 := Bool.eq_false_iff.mpr c7
            subst c7
            have H1 : (bitemporalref05_Contains.l0 k1 l0 a1 a2 (wrap64 (x7_1 + 1))) = some r := by rw [if_neg (show ¬ (false = true) by decide)] at H; exact H
            clear H
            have H := H1
            clear H1
            have H' := Aside0.mk H
            clear H
            have p759 : 0 ≤ (x7_1 : Int) := of_decide_eq_true (by first | (with_reducible assumption) | assumption)
            have q759 : x7_1 < (l0.length : Int) := of_decide_eq_true (by first | (with_reducible assumption) | assumption)
            obtain ⟨ad759, e759, hx759_0, hx759_1, hx759_2, hx759_3⟩ := at_T41 HR0.out x7_1 p759 q759
            cases e759
            replace hx759_0 := (HB.out.cell (World.block_lt_of_cell? w _ hx759_0)).trans hx759_0
            replace hx759_1 := (HB.out.cell (World.block_lt_of_cell? w _ hx759_1)).trans hx759_1
            replace hx759_2 := (HB.out.cell (World.block_lt_of_cell? w _ hx759_2)).trans hx759_2
            replace hx759_3 := (HB.out.cell (World.block_lt_of_cell? w _ hx759_3)).trans hx759_3
            replace p759 := eq_true p759
            replace q759 := eq_true q759
            go_wp2_with (first | ((with_reducible refine gate_callee (f := 76) rfl ?_); refine goesL_ (some 18) rfl rfl Try.func76 (by kernel_rfl) rfl #[.agg #[.int .i64 ((rd_T41 l0 x7_1).f0.f0), .int .i64 ((rd_T41 l0 x7_1).f0.f1), .int .i64 ((rd_T41 l0 x7_1).f1.f0), .int .i64 ((rd_T41 l0 x7_1).f1.f1)]] rfl (by (try simp only [List.map_toArray, List.map_cons, List.map_nil]); first | done | rfl | (simp only [List.length_drop, List.length_take]; rfl)) ?_; (with_reducible refine (bitemporalref05_Sound.calls ((rd_T41 l0 x7_1).f0.f0) ((rd_T41 l0 x7_1).f0.f1) ((rd_T41 l0 x7_1).f1.f0) ((rd_T41 l0 x7_1).f1.f1) false _ A6.out).mono ?_); rintro e w20 ⟨rfl, hb⟩; refine ⟨_, rfl, ?_⟩; have n0_ := Aside0.mk (below_step (by repeat (first | (with_reducible first | exact HB.out | apply below_alloc | apply pw_below_drewN | apply below_drew1) | exact HB.out)) hb); clear HB; have HB := n0_; clear n0_; (try clear hb); (try clear hb2); (try clear hk); (try clear hi)))
            go_roundg k1
            case measure => have := HK1.out; omega
            case rel => exact ⟨(wrap64 (x7_1 + 1)), (by first | rfl | (simp; done) | (simp [*]; done)), H', ⟨by have := HK1.out; omega⟩, ⟨by repeat (first | (with_reducible first | exact HB.out | apply below_alloc | apply pw_below_drewN | apply below_drew1) | exact HB.out)⟩⟩
        · rw [if_neg c5] at H
          exact absurd H (by simp)
      · rw [if_neg c4] at H
        have c4b0 : decide (x7_1 < (l0.length : Int)) = false := decide_eq_false c4
        clear c4
        obtain rfl := Option.some.inj H
        go_wp2
        go_ret
        exact ⟨by first | rfl | (simp [errW_none, errW_some] <;> rfl) | (simp [*, errW_none, errW_some] <;> rfl), by repeat (first | (with_reducible first | exact HB.out | apply below_alloc | apply pw_below_drewN | apply below_drew1) | exact HB.out)⟩
end Go.Proofs.Ytdcelpppgbmlaaa.P
