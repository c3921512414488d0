-- WRITTEN BY wip/gen.py (the kit's print with contracts put in that are proved by hand). Lean checks it.
import Derived.Test.YtdcelpppgbmlaaaKP0
import Derived.Test.YtdcelpppgbmlaaaKEComb
import Derived.Test.YtdcelpppgbmlaaaKPLaw05a
import Derived.Test.YtdcelpppgbmlaaaKPRef05
import Derived.Test.YtdcelpppgbmlaaaKPRef05b
import Derived.Test.YtdcelpppgbmlaaaKPRegiona
namespace Go.Proofs.Ytdcelpppgbmlaaa.P
open Go.RowKit Go.Proofs.YtdcelpppgbmlaaaW.PrintWords Go.Proofs.YtdcelpppgbmlaaaW.PrintLast Go.Proofs.YtdcelpppgbmlaaaW.PrintMore
attribute [local go_sem] max2_int min2_int max_two min_two max_three min_three max_four min_four   -- for this text's walks alone
set_option linter.unusedVariables false
set_option linter.unusedSimpArgs false
mutual
def bitemporallaw05_RegionApart.l0 : Nat → List (S41) → Int → Int → Int → Int → Int → Int → Int → Int → Int → Option (Bool)
  | 0, _, _, _, _, _, _, _, _, _, _ => none
  | k + 1, x7, x8, x1065000, x1065001, x1065002, x1065003, x1066000, x1066001, x1066002, x1066003 => if x8 < (x7.length : Int) then (if 0 ≤ x8 then ((bitemporalref05_Sound.f ((rd_T41 x7 x8).f0.f0) ((rd_T41 x7 x8).f0.f1) ((rd_T41 x7 x8).f1.f0) ((rd_T41 x7 x8).f1.f1)).bind fun t1071 => (if t1071 = true then (bitemporallaw05_RegionApart.l1 k x7 x8 0 x1065000 x1065001 x1065002 x1065003 x1066000 x1066001 x1066002 x1066003) else (none))) else (none)) else ((region_Overlaps.f x1065000 x1065001 x1065002 x1065003 x1066000 x1066001 x1066002 x1066003).bind fun t1075 => ((bitemporalref05_Overlaps.f x1065000 x1065001 x1065002 x1065003 x1066000 x1066001 x1066002 x1066003).bind fun t1076 => (if (t1075 == t1076) = true then ((region_Intersect.f k (([(⟨(⟨x1065000, x1065001⟩ : S33), (⟨x1065002, x1065003⟩ : S33)⟩ : S41)] : List (S41))) (([(⟨(⟨x1066000, x1066001⟩ : S33), (⟨x1066002, x1066003⟩ : S33)⟩ : S41)] : List (S41)))).bind fun t1083 => (if (t1075 == (decide ((t1083.length : Int) > 0))) = true then ((bitemporallaw05_awake.f k).bind fun t1086 => (some t1086)) else (none))) else (none))))
def bitemporallaw05_RegionApart.l1 : Nat → List (S41) → Int → Int → Int → Int → Int → Int → Int → Int → Int → Int → Option (Bool)
  | 0, _, _, _, _, _, _, _, _, _, _, _ => none
  | k + 1, x7, x8, x9, x1065000, x1065001, x1065002, x1065003, x1066000, x1066001, x1066002, x1066003 => if x9 < x8 then (if 0 ≤ x9 then (if x9 < (x7.length : Int) then (if 0 ≤ x8 then (if x8 < (x7.length : Int) then ((bitemporalref05_Overlaps.f ((rd_T41 x7 x9).f0.f0) ((rd_T41 x7 x9).f0.f1) ((rd_T41 x7 x9).f1.f0) ((rd_T41 x7 x9).f1.f1) ((rd_T41 x7 x8).f0.f0) ((rd_T41 x7 x8).f0.f1) ((rd_T41 x7 x8).f1.f0) ((rd_T41 x7 x8).f1.f1)).bind fun t1074 => (if t1074 = true then (none) else (bitemporallaw05_RegionApart.l1 k x7 x8 (wrap64 (x9 + 1)) x1065000 x1065001 x1065002 x1065003 x1066000 x1066001 x1066002 x1066003))) else (none)) else (none)) else (none)) else (none)) else (bitemporallaw05_RegionApart.l0 k x7 (wrap64 (x8 + 1)) x1065000 x1065001 x1065002 x1065003 x1066000 x1066001 x1066002 x1066003)
end
def bitemporallaw05_RegionApart.f (k : Nat) (l0 : List (S41)) (a1_0 : Int) (a1_1 : Int) (a1_2 : Int) (a1_3 : Int) (a2_0 : Int) (a2_1 : Int) (a2_2 : Int) (a2_3 : Int) : Option (Bool) := if (l0.length : Int) > 12 then ((bitemporallaw05_awake.f k).bind fun t1066 => (some t1066)) else ((region_Of.f k l0).bind fun t1067 => (if (t1067.length : Int) > 576 then (none) else (bitemporallaw05_RegionApart.l0 k t1067 0 a1_0 a1_1 a1_2 a1_3 a2_0 a2_1 a2_2 a2_3)))
def bitemporallaw05_RegionApart.T14 : Bool × List (List Nat × List Nat) := (true, [([], []), ([], []), ([0, 1], [0, 1]), ([2], [2]), ([], []), ([], []), ([4, 5], [4, 5]), ([6], [6]), ([3, 7], [3, 7])])
def bitemporallaw05_RegionApart.B14 : List Nat := [0, 0, 3, 7, 0, 0, 48, 112, 255]
theorem bitemporallaw05_RegionApart.tab14 : rtab .any (opsOf Try.f14 14) = bitemporallaw05_RegionApart.T14 := by kernel_rfl
theorem bitemporallaw05_RegionApart.bits14 : waitsOk bitemporallaw05_RegionApart.T14.2 bitemporallaw05_RegionApart.B14 = true := by kernel_rfl
set_option maxHeartbeats 8000000 in
set_option maxRecDepth 100000 in
theorem bitemporallaw05_RegionApart.calls (k : Nat) (A0 : Option Addr) (c0 : Nat) (l0 : List (S41)) (a1_0 : Int) (a1_1 : Int) (a1_2 : Int) (a1_3 : Int) (a2_0 : Int) (a2_1 : Int) (a2_2 : Int) (a2_3 : Int) (r : Bool) (w : World) (hr0 : Kd.C k41 w A0 l0.length l0) (hc0 : l0.length ≤ c0) (h : bitemporallaw05_RegionApart.f k l0 a1_0 a1_1 a1_2 a1_3 a2_0 a2_1 a2_2 a2_3 = some r) :
    Calls Try.prog 14 #[.slice A0 l0.length c0, .agg #[.int .i64 a1_0, .int .i64 a1_1, .int .i64 a1_2, .int .i64 a1_3], .agg #[.int .i64 a2_0, .int .i64 a2_1, .int .i64 a2_2, .int .i64 a2_3]] w fun e w' => e = .returned (.bool r) ∧ Below w.heap.size w w' := by
  have hu41 := Try.underlying41
  have HR0 := Aside0.mk hr0
  have HC0 := Aside0.mk hc0
  clear hr0 hc0
  have HB := Aside0.mk (Below.refl w.heap.size w)
  have H : (if (l0.length : Int) > 12 then ((bitemporallaw05_awake.f k).bind fun t1066 => (some t1066)) else ((region_Of.f k l0).bind fun t1067 => (if (t1067.length : Int) > 576 then (none) else (bitemporallaw05_RegionApart.l0 k t1067 0 a1_0 a1_1 a1_2 a1_3 a2_0 a2_1 a2_2 a2_3)))) = some r := h
  clear h
  by_cases c4 : (l0.length : Int) > 12
  · rw [if_pos c4] at H
    have c4b0 : decide (12 < (l0.length : Int)) = true := decide_eq_true c4
    have c4b1 : decide (12 < l0.length) = true := decide_eq_true (by omega)
    clear c4
    replace H := Option.bind_eq_some_iff.mp H
    obtain ⟨t1066, A50, H⟩ := H
    replace H : (some t1066) = some r := H
    have A5 := Aside0.mk A50
    clear A50
    obtain rfl := Option.some.inj H
    go_enter Try.func14, Try.ntmps14
    go_wp2_with (first | ((with_reducible refine gate_dst (N := 4) rfl ?_); (try (refine gate_guard (by rfl) ?_; dsimp only)); refine box_event ?hg (N := 4) ?hd (cs := #[.int .i64 a1_0, .int .i64 a1_1, .int .i64 a1_2, .int .i64 a1_3]) (t := 41) ?hr ?_; (case hd => rfl); (case hg => rfl); (case hr => first | (go_simp; done) | (go_simp; rfl)); intro gb1064 hg w6 hbox hb; have n0_ := Aside0.mk (below_step (by repeat (first | (with_reducible first | exact HB.out | apply below_alloc | apply pw_below_drewN | apply below_drew1) | exact HB.out)) hb); have n1_ := Aside0.mk (hbox); have n2_ := Aside0.mk ((by rw [hg]; exact (below_size (by repeat (first | (with_reducible first | exact HB.out | apply below_alloc | apply pw_below_drewN | apply below_drew1) | exact HB.out))) : w.heap.size ≤ gb1064)); have n3_ := Aside0.mk ((by rw [hg]; exact (below_size (by repeat (first | (with_reducible first | exact HB.out | apply below_alloc | apply pw_below_drewN | apply below_drew1) | exact HB.out))) : w.heap.size ≤ gb1064)); clear HB; have HB := n0_; have BK1064 := n1_; have GW1064 := n2_; have GE1064 := n3_; clear n0_ n1_ n2_ n3_; clear hb hbox hg) | ((with_reducible refine gate_dst (N := 5) rfl ?_); (try (refine gate_guard (by rfl) ?_; dsimp only)); refine box_event ?hg (N := 5) ?hd (cs := #[.int .i64 a2_0, .int .i64 a2_1, .int .i64 a2_2, .int .i64 a2_3]) (t := 41) ?hr ?_; (case hd => rfl); (case hg => rfl); (case hr => first | (go_simp; done) | (go_simp; rfl)); intro gb1065 hg w7 hbox hb; have n0_ := Aside0.mk (blk_below (g := gb1064) (o := .cells #[.int .i64 a1_0, .int .i64 a1_1, .int .i64 a1_2, .int .i64 a1_3] 41 (0, 0)) (by (with_reducible repeat (first | refine blk_drewN ?_ _ | refine blk_drew ?_ | refine blk_alloc ?_ _)); exact BK1064.out) hb); have n1_ := Aside0.mk (below_step (by repeat (first | (with_reducible first | exact HB.out | apply below_alloc | apply pw_below_drewN | apply below_drew1 | refine below_set ?_ GE1064.out) | exact HB.out)) hb); have n2_ := Aside0.mk (hbox); have n3_ := Aside0.mk ((by rw [hg]; exact (below_size (by repeat (first | (with_reducible first | exact HB.out | apply below_alloc | apply pw_below_drewN | apply below_drew1 | refine below_set ?_ GE1064.out) | exact HB.out))) : w.heap.size ≤ gb1065)); have n4_ := Aside0.mk ((by rw [hg]; exact (below_size (by repeat (first | (with_reducible first | exact HB.out | apply below_alloc | apply pw_below_drewN | apply below_drew1 | refine below_set ?_ GE1064.out) | exact HB.out))) : w.heap.size ≤ gb1065)); have n5_ := Aside0.mk ((by rw [hg]; exact Nat.ne_of_lt (blk_lt (g := gb1064) (o := .cells #[.int .i64 a1_0, .int .i64 a1_1, .int .i64 a1_2, .int .i64 a1_3] 41 (0, 0)) (by (with_reducible repeat (first | refine blk_drewN ?_ _ | refine blk_drew ?_ | refine blk_alloc ?_ _)); exact BK1064.out)) : gb1064 ≠ gb1065)); have n6_ := Aside0.mk ((by rw [hg]; exact Nat.ne_of_gt (blk_lt (g := gb1064) (o := .cells #[.int .i64 a1_0, .int .i64 a1_1, .int .i64 a1_2, .int .i64 a1_3] 41 (0, 0)) (by (with_reducible repeat (first | refine blk_drewN ?_ _ | refine blk_drew ?_ | refine blk_alloc ?_ _)); exact BK1064.out)) : gb1065 ≠ gb1064)); clear BK1064; clear HB; have BK1064 := n0_; have HB := n1_; have BK1065 := n2_; have GW1065 := n3_; have GE1065 := n4_; have NB1064_1065 := n5_; have NB1065_1064 := n6_; clear n0_ n1_ n2_ n3_ n4_ n5_ n6_; clear hb hbox hg) | ((with_reducible refine gate_callee (f := 65) rfl ?_); refine goesL_ (some 14) rfl rfl Try.func65 (by kernel_rfl) rfl #[] rfl (by (try simp only [List.map_toArray, List.map_cons, List.map_nil]); first | done | rfl | (simp only [List.length_drop, List.length_take]; rfl)) ?_; (with_reducible refine (bitemporallaw05_awake.calls k  t1066 _ A5.out).mono ?_); rintro e w8 ⟨rfl, hb⟩; refine ⟨_, rfl, ?_⟩; have n0_ := Aside0.mk (blk_below (g := gb1064) (o := .cells #[.int .i64 a1_0, .int .i64 a1_1, .int .i64 a1_2, .int .i64 a1_3] 41 (0, 0)) (by (with_reducible repeat (first | refine blk_drewN ?_ _ | refine blk_drew ?_ | refine blk_alloc ?_ _)); exact BK1064.out) hb); have n1_ := Aside0.mk (blk_below (g := gb1065) (o := .cells #[.int .i64 a2_0, .int .i64 a2_1, .int .i64 a2_2, .int .i64 a2_3] 41 (0, 0)) (by (with_reducible repeat (first | refine blk_drewN ?_ _ | refine blk_drew ?_ | refine blk_alloc ?_ _)); exact BK1065.out) hb); have n2_ := Aside0.mk (below_step (by repeat (first | (with_reducible first | exact HB.out | apply below_alloc | apply pw_below_drewN | apply below_drew1 | refine below_set ?_ GE1064.out | refine below_set ?_ GE1065.out) | exact HB.out)) hb); clear BK1064; clear BK1065; clear HB; have BK1064 := n0_; have BK1065 := n1_; have HB := n2_; clear n0_ n1_ n2_; (try clear hb); (try clear hb2); (try clear hk); (try clear hi)))
    go_ret
    exact ⟨by first | rfl | (simp [errW_none, errW_some] <;> rfl) | (simp [*, errW_none, errW_some] <;> rfl), by repeat (first | (with_reducible first | exact HB.out | apply below_alloc | apply pw_below_drewN | apply below_drew1 | refine below_set ?_ GE1064.out | refine below_set ?_ GE1065.out) | exact HB.out)⟩
  · rw [if_neg c4] at H
    have c4b0 : decide (12 < (l0.length : Int)) = false := decide_eq_false c4
    have c4b1 : decide (12 < l0.length) = false := decide_eq_false (by omega)
    clear c4
    replace H := Option.bind_eq_some_iff.mp H
    obtain ⟨t1067, A90, H⟩ := H
    replace H : (if (t1067.length : Int) > 576 then (none) else (bitemporallaw05_RegionApart.l0 k t1067 0 a1_0 a1_1 a1_2 a1_3 a2_0 a2_1 a2_2 a2_3)) = some r := H
    have A9 := Aside0.mk A90
    clear A90
    by_cases c10 : (t1067.length : Int) > 576
    · rw [if_pos c10] at H
      exact absurd H (by simp)
    · rw [if_neg c10] at H
      have c10b0 : decide (576 < (t1067.length : Int)) = false := decide_eq_false c10
      have c10b1 : decide (576 < t1067.length) = false := decide_eq_false (by omega)
      clear c10
      have H' := Aside0.mk H
      clear H
      go_enter Try.func14, Try.ntmps14
      go_wp2_with (first | ((with_reducible refine gate_dst (N := 4) rfl ?_); (try (refine gate_guard (by rfl) ?_; dsimp only)); refine box_event ?hg (N := 4) ?hd (cs := #[.int .i64 a1_0, .int .i64 a1_1, .int .i64 a1_2, .int .i64 a1_3]) (t := 41) ?hr ?_; (case hd => rfl); (case hg => rfl); (case hr => first | (go_simp; done) | (go_simp; rfl)); intro gb1064 hg w11 hbox hb; have n0_ := Aside0.mk (below_step (by repeat (first | (with_reducible first | exact HB.out | apply below_alloc | apply pw_below_drewN | apply below_drew1) | exact HB.out)) hb); have n1_ := Aside0.mk (hbox); have n2_ := Aside0.mk ((by rw [hg]; exact (below_size (by repeat (first | (with_reducible first | exact HB.out | apply below_alloc | apply pw_below_drewN | apply below_drew1) | exact HB.out))) : w.heap.size ≤ gb1064)); have n3_ := Aside0.mk ((by rw [hg]; exact (below_size (by repeat (first | (with_reducible first | exact HB.out | apply below_alloc | apply pw_below_drewN | apply below_drew1) | exact HB.out))) : w.heap.size ≤ gb1064)); clear HB; have HB := n0_; have BK1064 := n1_; have GW1064 := n2_; have GE1064 := n3_; clear n0_ n1_ n2_ n3_; clear hb hbox hg) | ((with_reducible refine gate_dst (N := 5) rfl ?_); (try (refine gate_guard (by rfl) ?_; dsimp only)); refine box_event ?hg (N := 5) ?hd (cs := #[.int .i64 a2_0, .int .i64 a2_1, .int .i64 a2_2, .int .i64 a2_3]) (t := 41) ?hr ?_; (case hd => rfl); (case hg => rfl); (case hr => first | (go_simp; done) | (go_simp; rfl)); intro gb1065 hg w12 hbox hb; have n0_ := Aside0.mk (blk_below (g := gb1064) (o := .cells #[.int .i64 a1_0, .int .i64 a1_1, .int .i64 a1_2, .int .i64 a1_3] 41 (0, 0)) (by (with_reducible repeat (first | refine blk_drewN ?_ _ | refine blk_drew ?_ | refine blk_alloc ?_ _)); exact BK1064.out) hb); have n1_ := Aside0.mk (below_step (by repeat (first | (with_reducible first | exact HB.out | apply below_alloc | apply pw_below_drewN | apply below_drew1 | refine below_set ?_ GE1064.out) | exact HB.out)) hb); have n2_ := Aside0.mk (hbox); have n3_ := Aside0.mk ((by rw [hg]; exact (below_size (by repeat (first | (with_reducible first | exact HB.out | apply below_alloc | apply pw_below_drewN | apply below_drew1 | refine below_set ?_ GE1064.out) | exact HB.out))) : w.heap.size ≤ gb1065)); have n4_ := Aside0.mk ((by rw [hg]; exact (below_size (by repeat (first | (with_reducible first | exact HB.out | apply below_alloc | apply pw_below_drewN | apply below_drew1 | refine below_set ?_ GE1064.out) | exact HB.out))) : w.heap.size ≤ gb1065)); have n5_ := Aside0.mk ((by rw [hg]; exact Nat.ne_of_lt (blk_lt (g := gb1064) (o := .cells #[.int .i64 a1_0, .int .i64 a1_1, .int .i64 a1_2, .int .i64 a1_3] 41 (0, 0)) (by (with_reducible repeat (first | refine blk_drewN ?_ _ | refine blk_drew ?_ | refine blk_alloc ?_ _)); exact BK1064.out)) : gb1064 ≠ gb1065)); have n6_ := Aside0.mk ((by rw [hg]; exact Nat.ne_of_gt (blk_lt (g := gb1064) (o := .cells #[.int .i64 a1_0, .int .i64 a1_1, .int .i64 a1_2, .int .i64 a1_3] 41 (0, 0)) (by (with_reducible repeat (first | refine blk_drewN ?_ _ | refine blk_drew ?_ | refine blk_alloc ?_ _)); exact BK1064.out)) : gb1065 ≠ gb1064)); clear BK1064; clear HB; have BK1064 := n0_; have HB := n1_; have BK1065 := n2_; have GW1065 := n3_; have GE1065 := n4_; have NB1064_1065 := n5_; have NB1065_1064 := n6_; clear n0_ n1_ n2_ n3_ n4_ n5_ n6_; clear hb hbox hg) | ((with_reducible refine gate_callee (f := 73) rfl ?_); refine goesL_ (some 16) rfl rfl Try.func73 (by kernel_rfl) rfl #[.slice A0 l0.length c0] rfl (by (try simp only [List.map_toArray, List.map_cons, List.map_nil]); first | done | rfl | (simp only [List.length_drop, List.length_take]; rfl)) ?_; (with_reducible refine (region_Of.calls k _ _ l0 t1067 _ ?side1 ?side2 A9.out).mono ?_); (case side1 => repeat (first | exact (Kd.C_below HR0.out HB.out) | (with_reducible refine Kd.C_alloc ?_ _) | (with_reducible refine Kd.C_drewN ?_ _) | (with_reducible refine Kd.C_drew ?_))); (case side2 => exact HC0.out); rintro e w13 ⟨v1068, rfl, ho0, hb⟩; refine ⟨_, rfl, ?_⟩; have n0_ := Aside0.mk (Kd.R_lower (Kd.R_newB (Kd.R_newB ho0 (g := gb1064) (o := .cells #[.int .i64 a1_0, .int .i64 a1_1, .int .i64 a1_2, .int .i64 a1_3] 41 (0, 0)) (by (with_reducible repeat (first | refine blk_drewN ?_ _ | refine blk_drew ?_ | refine blk_alloc ?_ _)); exact BK1064.out)) (g := gb1065) (o := .cells #[.int .i64 a2_0, .int .i64 a2_1, .int .i64 a2_2, .int .i64 a2_3] 41 (0, 0)) (by (with_reducible repeat (first | refine blk_drewN ?_ _ | refine blk_drew ?_ | refine blk_alloc ?_ _)); exact BK1065.out)) (below_size (by repeat (first | (with_reducible first | exact HB.out | apply below_alloc | apply pw_below_drewN | apply below_drew1 | refine below_set ?_ GE1064.out | refine below_set ?_ GE1065.out) | exact HB.out)))); have n1_ := Aside0.mk (blk_below (g := gb1064) (o := .cells #[.int .i64 a1_0, .int .i64 a1_1, .int .i64 a1_2, .int .i64 a1_3] 41 (0, 0)) (by (with_reducible repeat (first | refine blk_drewN ?_ _ | refine blk_drew ?_ | refine blk_alloc ?_ _)); exact BK1064.out) hb); have n2_ := Aside0.mk (blk_below (g := gb1065) (o := .cells #[.int .i64 a2_0, .int .i64 a2_1, .int .i64 a2_2, .int .i64 a2_3] 41 (0, 0)) (by (with_reducible repeat (first | refine blk_drewN ?_ _ | refine blk_drew ?_ | refine blk_alloc ?_ _)); exact BK1065.out) hb); have n3_ := Aside0.mk (below_step (by repeat (first | (with_reducible first | exact HB.out | apply below_alloc | apply pw_below_drewN | apply below_drew1 | refine below_set ?_ GE1064.out | refine below_set ?_ GE1065.out) | exact HB.out)) hb); clear BK1064; clear BK1065; clear HB; have HO1069 := n0_; have BK1064 := n1_; have BK1065 := n2_; have HB := n3_; clear n0_ n1_ n2_ n3_; (try clear hb); (try clear hb2); (try clear hk); (try clear hi); (try clear ho0); obtain ⟨Ao14, co14, eo14⟩ := Kd.R_slice HO1069.out; subst eo14))
      go_loopg [8] k (fun kq v8 w' => ∃ (x8_1 : Int), v8 = .int .i64 x8_1 ∧ Aside0 (bitemporallaw05_RegionApart.l0 kq t1067 x8_1 a1_0 a1_1 a1_2 a1_3 a2_0 a2_1 a2_2 a2_3 = some r) ∧ Aside0 (kq ≤ k) ∧ Aside0 (Kd.R k41 41 w' w.heap.size (fun k_ => k_ ≠ gb1064 ∧ k_ ≠ gb1065) (.slice Ao14 t1067.length co14) t1067) ∧ Aside0 (w'.heap[gb1064]? = some (.cells #[.int .i64 a1_0, .int .i64 a1_1, .int .i64 a1_2, .int .i64 a1_3] 41 (0, 0))) ∧ Aside0 (w'.heap[gb1065]? = some (.cells #[.int .i64 a2_0, .int .i64 a2_1, .int .i64 a2_2, .int .i64 a2_3] 41 (0, 0))) ∧ Aside0 (Below w.heap.size w w'))
      case atStart => exact ⟨(0), (by first | rfl | (simp; done) | (simp [*]; done)), H', ⟨Nat.le_refl _⟩, ⟨by (with_reducible repeat (first | apply Kd.R_alloc | apply Kd.R_drewN | apply Kd.R_drew)); exact Kd.R_mono HO1069.out (fun _ hk => ⟨hk.1.2, hk.2⟩)⟩, ⟨by (with_reducible repeat (first | refine blk_drewN ?_ _ | refine blk_drew ?_ | refine blk_alloc ?_ _)); exact BK1064.out⟩, ⟨by (with_reducible repeat (first | refine blk_drewN ?_ _ | refine blk_drew ?_ | refine blk_alloc ?_ _)); exact BK1065.out⟩, ⟨by repeat (first | (with_reducible first | exact HB.out | apply below_alloc | apply pw_below_drewN | apply below_drew1 | refine below_set ?_ GE1064.out | refine below_set ?_ GE1065.out) | exact HB.out)⟩⟩
      case round =>
        clear H'
        try clear c1
        try clear p2
        try clear c4
        try clear c4b0
        try clear c4b1
        try clear c6
        try clear c7
        try clear c10
        try clear c10b0
        try clear c10b1
        try clear c14
        obtain ⟨x8_1, rfl, HA, HK1, HO_7, BK1064, BK1065, HB⟩ := hrel
        cases gk with
        | zero => exact absurd HA.out (by simp [bitemporallaw05_RegionApart.l0])
        | succ k1 =>
          have H := HA.out
          clear HA
          simp only [bitemporallaw05_RegionApart.l0] at H
          by_cases c15 : x8_1 < (t1067.length : Int)
          · rw [if_pos c15] at H
            have c15b0 : decide (x8_1 < (t1067.length : Int)) = true := decide_eq_true c15
            clear c15
            by_cases c16 : 0 ≤ x8_1
            · rw [if_pos c16] at H
              have c16b0 : decide (0 ≤ x8_1) = true := decide_eq_true c16
              clear c16
              replace H := Option.bind_eq_some_iff.mp H
              obtain ⟨t1071, A170, H⟩ := H
              replace H : (if t1071 = true then (bitemporallaw05_RegionApart.l1 k1 t1067 x8_1 0 a1_0 a1_1 a1_2 a1_3 a2_0 a2_1 a2_2 a2_3) else (none)) = some r := H
              have A17 := Aside0.mk A170
              clear A170
              by_cases c18 : t1071 = true
              · subst c18
                have H1 : (bitemporallaw05_RegionApart.l1 k1 t1067 x8_1 0 a1_0 a1_1 a1_2 a1_3 a2_0 a2_1 a2_2 a2_3) = some r := by rw [if_pos rfl] at H; exact H
                clear H
                have H := H1
                clear H1
                have H' := Aside0.mk H
                clear H
                have p1070 : 0 ≤ (x8_1 : Int) := of_decide_eq_true (by first | (with_reducible assumption) | assumption)
                have q1070 : x8_1 < (t1067.length : Int) := of_decide_eq_true (by first | (with_reducible assumption) | assumption)
                obtain ⟨ad1070, e1070, hx1070_0, hx1070_1, hx1070_2, hx1070_3⟩ := at_T41 (Kd.R_reads' HO_7.out).2.2 x8_1 p1070 q1070
                cases e1070
                replace p1070 := eq_true p1070
                replace q1070 := eq_true q1070
                go_wp2_with (first | ((with_reducible refine gate_callee (f := 76) rfl ?_); refine goesL_ (some 30) rfl rfl Try.func76 (by kernel_rfl) rfl #[.agg #[.int .i64 ((rd_T41 t1067 x8_1).f0.f0), .int .i64 ((rd_T41 t1067 x8_1).f0.f1), .int .i64 ((rd_T41 t1067 x8_1).f1.f0), .int .i64 ((rd_T41 t1067 x8_1).f1.f1)]] rfl (by (try simp only [List.map_toArray, List.map_cons, List.map_nil]); first | done | rfl | (simp only [List.length_drop, List.length_take]; rfl)) ?_; (with_reducible refine (bitemporalref05_Sound.calls ((rd_T41 t1067 x8_1).f0.f0) ((rd_T41 t1067 x8_1).f0.f1) ((rd_T41 t1067 x8_1).f1.f0) ((rd_T41 t1067 x8_1).f1.f1) true _ A17.out).mono ?_); rintro e w19 ⟨rfl, hb⟩; refine ⟨_, rfl, ?_⟩; have n0_ := Aside0.mk (Kd.R_below (by (with_reducible repeat (first | apply Kd.R_alloc | apply Kd.R_drewN | apply Kd.R_drew)); exact HO_7.out) hb); have n1_ := Aside0.mk (blk_below (g := gb1064) (o := .cells #[.int .i64 a1_0, .int .i64 a1_1, .int .i64 a1_2, .int .i64 a1_3] 41 (0, 0)) (by (with_reducible repeat (first | refine blk_drewN ?_ _ | refine blk_drew ?_ | refine blk_alloc ?_ _)); exact BK1064.out) hb); have n2_ := Aside0.mk (blk_below (g := gb1065) (o := .cells #[.int .i64 a2_0, .int .i64 a2_1, .int .i64 a2_2, .int .i64 a2_3] 41 (0, 0)) (by (with_reducible repeat (first | refine blk_drewN ?_ _ | refine blk_drew ?_ | refine blk_alloc ?_ _)); exact BK1065.out) hb); have n3_ := Aside0.mk (below_step (by repeat (first | (with_reducible first | exact HB.out | apply below_alloc | apply pw_below_drewN | apply below_drew1 | refine below_set ?_ GE1064.out | refine below_set ?_ GE1065.out) | exact HB.out)) hb); clear HO_7; clear BK1064; clear BK1065; clear HB; have HO_7 := n0_; have BK1064 := n1_; have BK1065 := n2_; have HB := n3_; clear n0_ n1_ n2_ n3_; (try clear hb); (try clear hb2); (try clear hk); (try clear hi)))
                go_loopg [9] k1 (fun kq v9 w' => ∃ (x9_2 : Int), v9 = .int .i64 x9_2 ∧ Aside0 (bitemporallaw05_RegionApart.l1 kq t1067 x8_1 x9_2 a1_0 a1_1 a1_2 a1_3 a2_0 a2_1 a2_2 a2_3 = some r) ∧ Aside0 (kq ≤ k1) ∧ Aside0 (Kd.R k41 41 w' w.heap.size (fun k_ => k_ ≠ gb1064 ∧ k_ ≠ gb1065) (.slice (some ad1070) t1067.length co14) t1067) ∧ Aside0 (w'.heap[gb1064]? = some (.cells #[.int .i64 a1_0, .int .i64 a1_1, .int .i64 a1_2, .int .i64 a1_3] 41 (0, 0))) ∧ Aside0 (w'.heap[gb1065]? = some (.cells #[.int .i64 a2_0, .int .i64 a2_1, .int .i64 a2_2, .int .i64 a2_3] 41 (0, 0))) ∧ Aside0 (Below w.heap.size w w'))
                case atStart => exact ⟨(0), (by first | rfl | (simp; done) | (simp [*]; done)), H', ⟨Nat.le_refl _⟩, ⟨by (with_reducible repeat (first | apply Kd.R_alloc | apply Kd.R_drewN | apply Kd.R_drew)); exact HO_7.out⟩, ⟨by (with_reducible repeat (first | refine blk_drewN ?_ _ | refine blk_drew ?_ | refine blk_alloc ?_ _)); exact BK1064.out⟩, ⟨by (with_reducible repeat (first | refine blk_drewN ?_ _ | refine blk_drew ?_ | refine blk_alloc ?_ _)); exact BK1065.out⟩, ⟨by repeat (first | (with_reducible first | exact HB.out | apply below_alloc | apply pw_below_drewN | apply below_drew1 | refine below_set ?_ GE1064.out | refine below_set ?_ GE1065.out) | exact HB.out)⟩⟩
                case round =>
                  clear H'
                  try clear c1
                  try clear p1
                  try clear q1
                  try clear hx1
                  try clear p2
                  try clear c4
                  try clear c4b0
                  try clear c4b1
                  try clear c6
                  try clear c7
                  try clear c10
                  try clear c10b0
                  try clear c10b1
                  try clear p10
                  try clear q10
                  try clear hx10
                  try clear c14
                  try clear c15
                  try clear c15b0
                  try clear c16
                  try clear c16b0
                  try clear c18
                  try clear hx1070_0
                  try clear hx1070_1
                  try clear hx1070_2
                  try clear hx1070_3
                  try clear p1070
                  try clear p2
                  try clear q1070
                  obtain ⟨x9_2, rfl, HA, HK2, HO_7, BK1064, BK1065, HB⟩ := hrel
                  cases gk with
                  | zero => exact absurd HA.out (by simp [bitemporallaw05_RegionApart.l1])
                  | succ k2 =>
                    have H := HA.out
                    clear HA
                    simp only [bitemporallaw05_RegionApart.l1] at H
                    by_cases c20 : x9_2 < x8_1
                    · rw [if_pos c20] at H
                      have c20b0 : decide (x9_2 < x8_1) = true := decide_eq_true c20
                      clear c20
                      by_cases c21 : 0 ≤ x9_2
                      · rw [if_pos c21] at H
                        have c21b0 : decide (0 ≤ x9_2) = true := decide_eq_true c21
                        clear c21
                        by_cases c22 : x9_2 < (t1067.length : Int)
                        · rw [if_pos c22] at H
                          have c22b0 : decide (x9_2 < (t1067.length : Int)) = true := decide_eq_true c22
                          clear c22
                          by_cases c23 : 0 ≤ x8_1
                          · rw [if_pos c23] at H
                            have c23b0 : decide (0 ≤ x8_1) = true := decide_eq_true c23
                            clear c23
                            by_cases c24 : x8_1 < (t1067.length : Int)
                            · rw [if_pos c24] at H
                              have c24b0 : decide (x8_1 < (t1067.length : Int)) = true := decide_eq_true c24
                              clear c24
                              replace H := Option.bind_eq_some_iff.mp H
                              obtain ⟨t1074, A250, H⟩ := H
                              replace H : (if t1074 = true then (none) else (bitemporallaw05_RegionApart.l1 k2 t1067 x8_1 (wrap64 (x9_2 + 1)) a1_0 a1_1 a1_2 a1_3 a2_0 a2_1 a2_2 a2_3)) = some r := H
                              have A25 := Aside0.mk A250
                              clear A250
                              by_cases c26 : t1074 = true
                              · subst c26
                                have H1 : (none) = some r := by rw [if_pos rfl] at H; exact H
                                clear H
                                have H := H1
                                clear H1
                                exact absurd H (by simp)
                              · replace c26 := Bool.eq_false_iff.mpr c26
                                subst c26
                                have H1 : (bitemporallaw05_RegionApart.l1 k2 t1067 x8_1 (wrap64 (x9_2 + 1)) a1_0 a1_1 a1_2 a1_3 a2_0 a2_1 a2_2 a2_3) = some r := by rw [if_neg (show ¬ (false = true) by decide)] at H; exact H
                                clear H
                                have H := H1
                                clear H1
                                have H' := Aside0.mk H
                                clear H
                                try go_wp2
                                have n0_ := Aside0.mk (Kd.R_drew HO_7.out)
                                have n1_ := Aside0.mk (blk_drew BK1064.out)
                                have n2_ := Aside0.mk (blk_drew BK1065.out)
                                have n3_ := Aside0.mk (below_drew1 HB.out)
                                clear HO_7
                                clear BK1064
                                clear BK1065
                                clear HB
                                have HO_7 := n0_
                                have BK1064 := n1_
                                have BK1065 := n2_
                                have HB := n3_
                                clear n0_ n1_ n2_ n3_
                                have p1072 : 0 ≤ (x9_2 : Int) := of_decide_eq_true (by first | (with_reducible assumption) | assumption)
                                have q1072 : x9_2 < (t1067.length : Int) := of_decide_eq_true (by first | (with_reducible assumption) | assumption)
                                obtain ⟨ad1072, e1072, hx1072_0, hx1072_1, hx1072_2, hx1072_3⟩ := at_T41 (Kd.R_reads' HO_7.out).2.2 x9_2 p1072 q1072
                                obtain rfl : ad1070 = ad1072 := (by injection e1072)
                                replace p1072 := eq_true p1072
                                replace q1072 := eq_true q1072
                                have p1073 : 0 ≤ (x8_1 : Int) := of_decide_eq_true (by first | (with_reducible assumption) | assumption)
                                have q1073 : x8_1 < (t1067.length : Int) := of_decide_eq_true (by first | (with_reducible assumption) | assumption)
                                obtain ⟨ad1073, e1073, hx1073_0, hx1073_1, hx1073_2, hx1073_3⟩ := at_T41 (Kd.R_reads' HO_7.out).2.2 x8_1 p1073 q1073
                                obtain rfl : ad1070 = ad1073 := (by injection e1073)
                                replace p1073 := eq_true p1073
                                replace q1073 := eq_true q1073
                                refine start_ (n := 9) (S := fun w' => w'.cell? (ad1070.add ((x9_2).toNat * 4)) = some (.int .i64 ((rd_T41 t1067 x9_2).f0.f0)) ∧ w'.cell? ⟨(ad1070.add ((x9_2).toNat * 4)).block, (ad1070.add ((x9_2).toNat * 4)).off + 1, none⟩ = some (.int .i64 ((rd_T41 t1067 x9_2).f0.f1)) ∧ w'.cell? ⟨(ad1070.add ((x9_2).toNat * 4)).block, (ad1070.add ((x9_2).toNat * 4)).off + 2, none⟩ = some (.int .i64 ((rd_T41 t1067 x9_2).f1.f0)) ∧ w'.cell? ⟨(ad1070.add ((x9_2).toNat * 4)).block, (ad1070.add ((x9_2).toNat * 4)).off + 3, none⟩ = some (.int .i64 ((rd_T41 t1067 x9_2).f1.f1)) ∧ w'.cell? (ad1070.add ((x8_1).toNat * 4)) = some (.int .i64 ((rd_T41 t1067 x8_1).f0.f0)) ∧ w'.cell? ⟨(ad1070.add ((x8_1).toNat * 4)).block, (ad1070.add ((x8_1).toNat * 4)).off + 1, none⟩ = some (.int .i64 ((rd_T41 t1067 x8_1).f0.f1)) ∧ w'.cell? ⟨(ad1070.add ((x8_1).toNat * 4)).block, (ad1070.add ((x8_1).toNat * 4)).off + 2, none⟩ = some (.int .i64 ((rd_T41 t1067 x8_1).f1.f0)) ∧ w'.cell? ⟨(ad1070.add ((x8_1).toNat * 4)).block, (ad1070.add ((x8_1).toNat * 4)).off + 3, none⟩ = some (.int .i64 ((rd_T41 t1067 x8_1).f1.f1))) (ds := []) #[false, false, false, false, false, false, false, false, false] (by kernel_rfl) rfl rfl ⟨hx1072_0, hx1072_1, hx1072_2, hx1072_3, hx1073_0, hx1073_1, hx1073_2, hx1073_3⟩ (fun hHeld => ?_); refine with_tabW bitemporallaw05_RegionApart.tab14 bitemporallaw05_RegionApart.bits14 (fun HT_ HW_ => ?_)
                                generalize wr.drew = w27 at HO_7 BK1064 BK1065 HB hx1072_0 hx1072_1 hx1072_2 hx1072_3 hx1073_0 hx1073_1 hx1073_2 hx1073_3 hHeld ⊢
                                refine pure_ (i := 0) (N := some 37) (v := ?_) (a' := ?_) #[true, false, false, false, false, false, false, false, false] rfl rfl (any_of HT_.out (by kernel_rfl)) (fun _ _ _ h => h) (Or.inl ⟨by rfl, ?_⟩) ?_ ?_
                                rotate_left
                                · intro w'
                                  go_simp
                                  with_reducible rfl
                                rotate_left
                                · simp only [Act.put, List.setIfInBounds_toArray, List.set_cons_zero, List.set_cons_succ, i64_w, i32_w]
                                  rfl
                                refine pure_ (i := 1) (N := some 38) (v := ?_) (a' := ?_) #[true, true, false, false, false, false, false, false, false] rfl rfl (any_of HT_.out (by kernel_rfl)) (fun _ _ _ h => h) (Or.inl ⟨by rfl, ?_⟩) ?_ ?_
                                rotate_left
                                · intro w'
                                  go_simp
                                  with_reducible rfl
                                rotate_left
                                · simp only [Act.put, List.setIfInBounds_toArray, List.set_cons_zero, List.set_cons_succ, i64_w, i32_w]
                                  rfl
                                refine pure_ (i := 2) (N := some 39) (v := ?_) (a' := ?_) #[true, true, true, false, false, false, false, false, false] rfl rfl (any_of HT_.out (by kernel_rfl)) (fun _ _ _ h => h) (Or.inl ⟨by rfl, ?_⟩) ?_ ?_
                                rotate_left
                                · intro w'
                                  go_simp
                                  with_reducible rfl
                                rotate_left
                                · simp only [Act.put, List.setIfInBounds_toArray, List.set_cons_zero, List.set_cons_succ, i64_w, i32_w]
                                  rfl
                                refine pure_ (i := 4) (N := some 41) (v := ?_) (a' := ?_) #[true, true, true, false, true, false, false, false, false] rfl rfl (any_of HT_.out (by kernel_rfl)) (fun _ _ _ h => h) (Or.inl ⟨by rfl, ?_⟩) ?_ ?_
                                rotate_left
                                · intro w'
                                  go_simp
                                  with_reducible rfl
                                rotate_left
                                · simp only [Act.put, List.setIfInBounds_toArray, List.set_cons_zero, List.set_cons_succ, i64_w, i32_w]
                                  rfl
                                refine pure_ (i := 5) (N := some 42) (v := ?_) (a' := ?_) #[true, true, true, false, true, true, false, false, false] rfl rfl (any_of HT_.out (by kernel_rfl)) (fun _ _ _ h => h) (Or.inl ⟨by rfl, ?_⟩) ?_ ?_
                                rotate_left
                                · intro w'
                                  go_simp
                                  with_reducible rfl
                                rotate_left
                                · simp only [Act.put, List.setIfInBounds_toArray, List.set_cons_zero, List.set_cons_succ, i64_w, i32_w]
                                  rfl
                                refine pure_ (i := 6) (N := some 43) (v := ?_) (a' := ?_) #[true, true, true, false, true, true, true, false, false] rfl rfl (any_of HT_.out (by kernel_rfl)) (fun _ _ _ h => h) (Or.inl ⟨by rfl, ?_⟩) ?_ ?_
                                rotate_left
                                · intro w'
                                  go_simp
                                  with_reducible rfl
                                rotate_left
                                · simp only [Act.put, List.setIfInBounds_toArray, List.set_cons_zero, List.set_cons_succ, i64_w, i32_w]
                                  rfl
                                refine take_ (i := 3) (N := some 40) (v := ?_) (a' := ?_) #[true, true, true, true, true, true, true, false, false] rfl rfl (take_ofW HT_.out HW_.out (by kernel_rfl)) (fun _ _ _ h => h) (Or.inl ⟨by rfl, ?_⟩) hHeld ?_ ?_
                                rotate_left
                                · rintro w' ⟨s0, s1, s2, s3, s4, s5, s6, s7⟩
                                  go_simp
                                  with_reducible rfl
                                rotate_left
                                · simp only [Act.put, List.setIfInBounds_toArray, List.set_cons_zero, List.set_cons_succ, i64_w, i32_w]
                                  rfl
                                refine take_ (i := 7) (N := some 44) (v := ?_) (a' := ?_) #[true, true, true, true, true, true, true, true, false] rfl rfl (take_ofW HT_.out HW_.out (by kernel_rfl)) (fun _ _ _ h => h) (Or.inl ⟨by rfl, ?_⟩) hHeld ?_ ?_
                                rotate_left
                                · rintro w' ⟨s0, s1, s2, s3, s4, s5, s6, s7⟩
                                  go_simp
                                  with_reducible rfl
                                rotate_left
                                · simp only [Act.put, List.setIfInBounds_toArray, List.set_cons_zero, List.set_cons_succ, i64_w, i32_w]
                                  rfl
                                refine one_ (i := 8) (N := some 45) #[true, true, true, true, true, true, true, true, true] rfl rfl (one_of HT_.out (by kernel_rfl)) (by decide) (fun K hK => ?_)
                                refine goes_ Try.func60 (by kernel_rfl) rfl #[.agg #[.int .i64 ((rd_T41 t1067 x9_2).f0.f0), .int .i64 ((rd_T41 t1067 x9_2).f0.f1), .int .i64 ((rd_T41 t1067 x9_2).f1.f0), .int .i64 ((rd_T41 t1067 x9_2).f1.f1)], .agg #[.int .i64 ((rd_T41 t1067 x8_1).f0.f0), .int .i64 ((rd_T41 t1067 x8_1).f0.f1), .int .i64 ((rd_T41 t1067 x8_1).f1.f0), .int .i64 ((rd_T41 t1067 x8_1).f1.f1)]] (by rfl) rfl rfl (by (try simp only [List.map_toArray, List.map_cons, List.map_nil]); first | done | rfl | (simp only [List.length_drop, List.length_take]; rfl)) ?_
                                with_reducible refine (bitemporalref05_Overlaps.calls ((rd_T41 t1067 x9_2).f0.f0) ((rd_T41 t1067 x9_2).f0.f1) ((rd_T41 t1067 x9_2).f1.f0) ((rd_T41 t1067 x9_2).f1.f1) ((rd_T41 t1067 x8_1).f0.f0) ((rd_T41 t1067 x8_1).f0.f1) ((rd_T41 t1067 x8_1).f1.f0) ((rd_T41 t1067 x8_1).f1.f1) false _ A25.out).mono ?_
                                rintro e w28 ⟨rfl, hb⟩
                                have HS0_ := (hb.cell (World.block_lt_of_cell? _ _ (hHeld.1))).trans (hHeld.1)
                                have HS1_ := (hb.cell (World.block_lt_of_cell? _ _ (hHeld.2.1))).trans (hHeld.2.1)
                                have HS2_ := (hb.cell (World.block_lt_of_cell? _ _ (hHeld.2.2.1))).trans (hHeld.2.2.1)
                                have HS3_ := (hb.cell (World.block_lt_of_cell? _ _ (hHeld.2.2.2.1))).trans (hHeld.2.2.2.1)
                                have HS4_ := (hb.cell (World.block_lt_of_cell? _ _ (hHeld.2.2.2.2.1))).trans (hHeld.2.2.2.2.1)
                                have HS5_ := (hb.cell (World.block_lt_of_cell? _ _ (hHeld.2.2.2.2.2.1))).trans (hHeld.2.2.2.2.2.1)
                                have HS6_ := (hb.cell (World.block_lt_of_cell? _ _ (hHeld.2.2.2.2.2.2.1))).trans (hHeld.2.2.2.2.2.2.1)
                                have HS7_ := (hb.cell (World.block_lt_of_cell? _ _ (hHeld.2.2.2.2.2.2.2))).trans (hHeld.2.2.2.2.2.2.2)
                                refine ⟨_, rfl, ?_⟩
                                have n0_ := Aside0.mk (Kd.R_below (by (with_reducible repeat (first | apply Kd.R_alloc | apply Kd.R_drewN | apply Kd.R_drew)); exact HO_7.out) hb)
                                have n1_ := Aside0.mk (blk_below (g := gb1064) (o := .cells #[.int .i64 a1_0, .int .i64 a1_1, .int .i64 a1_2, .int .i64 a1_3] 41 (0, 0)) (by (with_reducible repeat (first | refine blk_drewN ?_ _ | refine blk_drew ?_ | refine blk_alloc ?_ _)); exact BK1064.out) hb)
                                have n2_ := Aside0.mk (blk_below (g := gb1065) (o := .cells #[.int .i64 a2_0, .int .i64 a2_1, .int .i64 a2_2, .int .i64 a2_3] 41 (0, 0)) (by (with_reducible repeat (first | refine blk_drewN ?_ _ | refine blk_drew ?_ | refine blk_alloc ?_ _)); exact BK1065.out) hb)
                                have n3_ := Aside0.mk (below_step (by repeat (first | (with_reducible first | exact HB.out | apply below_alloc | apply pw_below_drewN | apply below_drew1 | refine below_set ?_ GE1064.out | refine below_set ?_ GE1065.out) | exact HB.out)) hb)
                                clear HO_7
                                clear BK1064
                                clear BK1065
                                clear HB
                                have HO_7 := n0_
                                have BK1064 := n1_
                                have BK1065 := n2_
                                have HB := n3_
                                clear n0_ n1_ n2_ n3_
                                (try clear hb)
                                (try clear hb2)
                                (try clear hk)
                                (try clear hi)
                                refine hK.out _ _ ⟨HS0_, HS1_, HS2_, HS3_, HS4_, HS5_, HS6_, HS7_⟩ (fun hHeld => ?_)
                                clear hK K
                                refine norm_ (a' := ?_) ?_ ?_
                                rotate_left
                                · show Act.put _ (some 45) _ = _
                                  simp only [Act.put, List.setIfInBounds_toArray, List.set_cons_zero, List.set_cons_succ, i64_w, i32_w]
                                  rfl
                                refine done_ (done_of HT_.out (by kernel_rfl)) ?_
                                try go_wp2
                                go_roundg k2
                                case measure => have := HK1.out; have := HK2.out; omega
                                case rel => exact ⟨(wrap64 (x9_2 + 1)), (by first | rfl | (simp; done) | (simp [*]; done)), H', ⟨by have := HK1.out; have := HK2.out; omega⟩, ⟨by (with_reducible repeat (first | apply Kd.R_alloc | apply Kd.R_drewN | apply Kd.R_drew)); exact HO_7.out⟩, ⟨by (with_reducible repeat (first | refine blk_drewN ?_ _ | refine blk_drew ?_ | refine blk_alloc ?_ _)); exact BK1064.out⟩, ⟨by (with_reducible repeat (first | refine blk_drewN ?_ _ | refine blk_drew ?_ | refine blk_alloc ?_ _)); exact BK1065.out⟩, ⟨by repeat (first | (with_reducible first | exact HB.out | apply below_alloc | apply pw_below_drewN | apply below_drew1 | refine below_set ?_ GE1064.out | refine below_set ?_ GE1065.out) | exact HB.out)⟩⟩
                            · rw [if_neg c24] at H
                              exact absurd H (by simp)
                          · rw [if_neg c23] at H
                            exact absurd H (by simp)
                        · rw [if_neg c22] at H
                          exact absurd H (by simp)
                      · rw [if_neg c21] at H
                        exact absurd H (by simp)
                    · rw [if_neg c20] at H
                      have c20b0 : decide (x9_2 < x8_1) = false := decide_eq_false c20
                      clear c20
                      have H' := Aside0.mk H
                      clear H
                      go_wp2
                      go_roundg k2
                      case measure => have := HK1.out; have := HK2.out; omega
                      case rel => exact ⟨(wrap64 (x8_1 + 1)), (by first | rfl | (simp; done) | (simp [*]; done)), H', ⟨by have := HK1.out; have := HK2.out; omega⟩, ⟨by (with_reducible repeat (first | apply Kd.R_alloc | apply Kd.R_drewN | apply Kd.R_drew)); exact HO_7.out⟩, ⟨by (with_reducible repeat (first | refine blk_drewN ?_ _ | refine blk_drew ?_ | refine blk_alloc ?_ _)); exact BK1064.out⟩, ⟨by (with_reducible repeat (first | refine blk_drewN ?_ _ | refine blk_drew ?_ | refine blk_alloc ?_ _)); exact BK1065.out⟩, ⟨by repeat (first | (with_reducible first | exact HB.out | apply below_alloc | apply pw_below_drewN | apply below_drew1 | refine below_set ?_ GE1064.out | refine below_set ?_ GE1065.out) | exact HB.out)⟩⟩
              · replace c18 := Bool.eq_false_iff.mpr c18
                subst c18
                have H1 : (none) = some r := by rw [if_neg (show ¬ (false = true) by decide)] at H; exact H
                clear H
                have H := H1
                clear H1
                exact absurd H (by simp)
            · rw [if_neg c16] at H
              exact absurd H (by simp)
          · rw [if_neg c15] at H
            have c15b0 : decide (x8_1 < (t1067.length : Int)) = false := decide_eq_false c15
            clear c15
            replace H := Option.bind_eq_some_iff.mp H
            obtain ⟨t1075, A290, H⟩ := H
            replace H : ((bitemporalref05_Overlaps.f a1_0 a1_1 a1_2 a1_3 a2_0 a2_1 a2_2 a2_3).bind fun t1076 => (if (t1075 == t1076) = true then ((region_Intersect.f k1 (([(⟨(⟨a1_0, a1_1⟩ : S33), (⟨a1_2, a1_3⟩ : S33)⟩ : S41)] : List (S41))) (([(⟨(⟨a2_0, a2_1⟩ : S33), (⟨a2_2, a2_3⟩ : S33)⟩ : S41)] : List (S41)))).bind fun t1083 => (if (t1075 == (decide ((t1083.length : Int) > 0))) = true then ((bitemporallaw05_awake.f k1).bind fun t1086 => (some t1086)) else (none))) else (none))) = some r := H
            have A29 := Aside0.mk A290
            clear A290
            replace H := Option.bind_eq_some_iff.mp H
            obtain ⟨t1076, A300, H⟩ := H
            replace H : (if (t1075 == t1076) = true then ((region_Intersect.f k1 (([(⟨(⟨a1_0, a1_1⟩ : S33), (⟨a1_2, a1_3⟩ : S33)⟩ : S41)] : List (S41))) (([(⟨(⟨a2_0, a2_1⟩ : S33), (⟨a2_2, a2_3⟩ : S33)⟩ : S41)] : List (S41)))).bind fun t1083 => (if (t1075 == (decide ((t1083.length : Int) > 0))) = true then ((bitemporallaw05_awake.f k1).bind fun t1086 => (some t1086)) else (none))) else (none)) = some r := H
            have A30 := Aside0.mk A300
            clear A300
            by_cases c31 : (t1075 == t1076) = true
            · rw [if_pos c31] at H
              have c31b0 : (t1075 == t1076) = true := c31
              (try (have c31b0z : t1075 = t1076 := by simpa using c31b0))
              (try (have c31b1 : decide (t1075 = t1076) = true := by simpa using c31))
              (try (have c31b2 : (t1075 == t1076) = true := by simpa using c31))
              clear c31
              obtain ⟨y1077, hy1077⟩ : ∃ y_ : List (S41), y_ = (([(⟨(⟨a1_0, a1_1⟩ : S33), (⟨a1_2, a1_3⟩ : S33)⟩ : S41)] : List (S41))) := ⟨_, rfl⟩
              replace H : ((region_Intersect.f k1 y1077 (([(⟨(⟨a2_0, a2_1⟩ : S33), (⟨a2_2, a2_3⟩ : S33)⟩ : S41)] : List (S41)))).bind fun t1083 => (if (t1075 == (decide ((t1083.length : Int) > 0))) = true then ((bitemporallaw05_awake.f k1).bind fun t1086 => (some t1086)) else (none))) = some r := by first | (rw [hy1077]; with_reducible exact H) | (have H2_ := (Option.bind_some _ _).symm.trans H; rw [hy1077]; with_reducible exact H2_) | (have H2_ := (Option.bind_some _ _).symm.trans H; with_reducible exact H2_) | with_reducible exact H | (rw [hy1077]; exact H) | exact H
              have Ny1077 := Aside0.mk hy1077
              clear hy1077
              obtain ⟨y1080, hy1080⟩ : ∃ y_ : List (S41), y_ = (([(⟨(⟨a2_0, a2_1⟩ : S33), (⟨a2_2, a2_3⟩ : S33)⟩ : S41)] : List (S41))) := ⟨_, rfl⟩
              replace H : ((region_Intersect.f k1 y1077 y1080).bind fun t1083 => (if (t1075 == (decide ((t1083.length : Int) > 0))) = true then ((bitemporallaw05_awake.f k1).bind fun t1086 => (some t1086)) else (none))) = some r := by first | (rw [hy1080]; with_reducible exact H) | (have H2_ := (Option.bind_some _ _).symm.trans H; rw [hy1080]; with_reducible exact H2_) | (have H2_ := (Option.bind_some _ _).symm.trans H; with_reducible exact H2_) | with_reducible exact H | (rw [hy1080]; exact H) | exact H
              have Ny1080 := Aside0.mk hy1080
              clear hy1080
              replace H := Option.bind_eq_some_iff.mp H
              obtain ⟨t1083, A320, H⟩ := H
              replace H : (if (t1075 == (decide ((t1083.length : Int) > 0))) = true then ((bitemporallaw05_awake.f k1).bind fun t1086 => (some t1086)) else (none)) = some r := H
              have A32 := Aside0.mk A320
              clear A320
              by_cases c33 : (t1075 == (decide ((t1083.length : Int) > 0))) = true
              · rw [if_pos c33] at H
                have c33b0 : (t1075 == (decide ((t1083.length : Int) > 0))) = true := c33
                (try (have c33b0z : t1075 = (decide ((t1083.length : Int) > 0)) := by simpa using c33b0))
                (try (have c33b0m0 : t1076 = decide (0 < t1083.length) := by have h_ := c33b0z; rw [c31b0z] at h_; simpa using h_))
                (try (have c33b1 : decide (t1075 = (decide ((t1083.length : Int) > 0))) = true := by simpa using c33))
                (try (have c33b2 : (t1075 == (decide ((t1083.length : Int) > 0))) = true := by simpa using c33))
                clear c33
                replace H := Option.bind_eq_some_iff.mp H
                obtain ⟨t1086, A340, H⟩ := H
                replace H : (some t1086) = some r := H
                have A34 := Aside0.mk A340
                clear A340
                obtain rfl := Option.some.inj H
                have hnb35 := NB1064_1065.out
                have hnc35 := NB1065_1064.out
                have hcz36_0 : wr.cell? ⟨gb1064, 0, none⟩ = some (.int .i64 a1_0) := (blk_cell BK1064.out 0).trans rfl
                have hcz36_1 : wr.cell? ⟨gb1064, 1, none⟩ = some (.int .i64 a1_1) := (blk_cell BK1064.out 1).trans rfl
                have hcz36_2 : wr.cell? ⟨gb1064, 2, none⟩ = some (.int .i64 a1_2) := (blk_cell BK1064.out 2).trans rfl
                have hcz36_3 : wr.cell? ⟨gb1064, 3, none⟩ = some (.int .i64 a1_3) := (blk_cell BK1064.out 3).trans rfl
                have hfz36_0 := blk_frozen BK1064.out 0
                have hfz36_1 := blk_frozen BK1064.out 1
                have hfz36_2 := blk_frozen BK1064.out 2
                have hfz36_3 := blk_frozen BK1064.out 3
                have hcz37_0 : wr.cell? ⟨gb1065, 0, none⟩ = some (.int .i64 a2_0) := (blk_cell BK1065.out 0).trans rfl
                have hcz37_1 : wr.cell? ⟨gb1065, 1, none⟩ = some (.int .i64 a2_1) := (blk_cell BK1065.out 1).trans rfl
                have hcz37_2 : wr.cell? ⟨gb1065, 2, none⟩ = some (.int .i64 a2_2) := (blk_cell BK1065.out 2).trans rfl
                have hcz37_3 : wr.cell? ⟨gb1065, 3, none⟩ = some (.int .i64 a2_3) := (blk_cell BK1065.out 3).trans rfl
                have hfz37_0 := blk_frozen BK1065.out 0
                have hfz37_1 := blk_frozen BK1065.out 1
                have hfz37_2 := blk_frozen BK1065.out 2
                have hfz37_3 := blk_frozen BK1065.out 3
                go_wp2_with (first | ((with_reducible refine gate_callee (f := 77) rfl ?_); refine goesL_ (some 48) rfl rfl Try.func77 (by kernel_rfl) rfl #[.agg #[.int .i64 a1_0, .int .i64 a1_1, .int .i64 a1_2, .int .i64 a1_3], .agg #[.int .i64 a2_0, .int .i64 a2_1, .int .i64 a2_2, .int .i64 a2_3]] rfl (by (try simp only [List.map_toArray, List.map_cons, List.map_nil]); first | done | rfl | (simp only [List.length_drop, List.length_take]; rfl)) ?_; (with_reducible refine (region_Overlaps.calls a1_0 a1_1 a1_2 a1_3 a2_0 a2_1 a2_2 a2_3 t1075 _ A29.out).mono ?_); rintro e w38 ⟨rfl, hb⟩; refine ⟨_, rfl, ?_⟩; have n0_ := Aside0.mk (Kd.R_below (by (with_reducible repeat (first | apply Kd.R_alloc | apply Kd.R_drewN | apply Kd.R_drew)); exact HO_7.out) hb); have n1_ := Aside0.mk (blk_below (g := gb1064) (o := .cells #[.int .i64 a1_0, .int .i64 a1_1, .int .i64 a1_2, .int .i64 a1_3] 41 (0, 0)) (by (with_reducible repeat (first | refine blk_drewN ?_ _ | refine blk_drew ?_ | refine blk_alloc ?_ _)); exact BK1064.out) hb); have n2_ := Aside0.mk (blk_below (g := gb1065) (o := .cells #[.int .i64 a2_0, .int .i64 a2_1, .int .i64 a2_2, .int .i64 a2_3] 41 (0, 0)) (by (with_reducible repeat (first | refine blk_drewN ?_ _ | refine blk_drew ?_ | refine blk_alloc ?_ _)); exact BK1065.out) hb); have n3_ := Aside0.mk (below_step (by repeat (first | (with_reducible first | exact HB.out | apply below_alloc | apply pw_below_drewN | apply below_drew1 | refine below_set ?_ GE1064.out | refine below_set ?_ GE1065.out) | exact HB.out)) hb); clear HO_7; clear BK1064; clear BK1065; clear HB; have HO_7 := n0_; have BK1064 := n1_; have BK1065 := n2_; have HB := n3_; clear n0_ n1_ n2_ n3_; (try clear hb); (try clear hb2); (try clear hk); (try clear hi); have hcz39_0 : w38.cell? ⟨gb1064, 0, none⟩ = some (.int .i64 a1_0) := (blk_cell BK1064.out 0).trans rfl; have hcz39_1 : w38.cell? ⟨gb1064, 1, none⟩ = some (.int .i64 a1_1) := (blk_cell BK1064.out 1).trans rfl; have hcz39_2 : w38.cell? ⟨gb1064, 2, none⟩ = some (.int .i64 a1_2) := (blk_cell BK1064.out 2).trans rfl; have hcz39_3 : w38.cell? ⟨gb1064, 3, none⟩ = some (.int .i64 a1_3) := (blk_cell BK1064.out 3).trans rfl; have hfz39_0 := blk_frozen BK1064.out 0; have hfz39_1 := blk_frozen BK1064.out 1; have hfz39_2 := blk_frozen BK1064.out 2; have hfz39_3 := blk_frozen BK1064.out 3; have hcz40_0 : w38.cell? ⟨gb1065, 0, none⟩ = some (.int .i64 a2_0) := (blk_cell BK1065.out 0).trans rfl; have hcz40_1 : w38.cell? ⟨gb1065, 1, none⟩ = some (.int .i64 a2_1) := (blk_cell BK1065.out 1).trans rfl; have hcz40_2 : w38.cell? ⟨gb1065, 2, none⟩ = some (.int .i64 a2_2) := (blk_cell BK1065.out 2).trans rfl; have hcz40_3 : w38.cell? ⟨gb1065, 3, none⟩ = some (.int .i64 a2_3) := (blk_cell BK1065.out 3).trans rfl; have hfz40_0 := blk_frozen BK1065.out 0; have hfz40_1 := blk_frozen BK1065.out 1; have hfz40_2 := blk_frozen BK1065.out 2; have hfz40_3 := blk_frozen BK1065.out 3) | ((with_reducible refine gate_callee (f := 60) rfl ?_); refine goesL_ (some 52) rfl rfl Try.func60 (by kernel_rfl) rfl #[.agg #[.int .i64 a1_0, .int .i64 a1_1, .int .i64 a1_2, .int .i64 a1_3], .agg #[.int .i64 a2_0, .int .i64 a2_1, .int .i64 a2_2, .int .i64 a2_3]] rfl (by (try simp only [List.map_toArray, List.map_cons, List.map_nil]); first | done | rfl | (simp only [List.length_drop, List.length_take]; rfl)) ?_; (with_reducible refine (bitemporalref05_Overlaps.calls a1_0 a1_1 a1_2 a1_3 a2_0 a2_1 a2_2 a2_3 t1076 _ A30.out).mono ?_); rintro e w41 ⟨rfl, hb⟩; refine ⟨_, rfl, ?_⟩; have n0_ := Aside0.mk (Kd.R_below (by (with_reducible repeat (first | apply Kd.R_alloc | apply Kd.R_drewN | apply Kd.R_drew)); exact HO_7.out) hb); have n1_ := Aside0.mk (blk_below (g := gb1064) (o := .cells #[.int .i64 a1_0, .int .i64 a1_1, .int .i64 a1_2, .int .i64 a1_3] 41 (0, 0)) (by (with_reducible repeat (first | refine blk_drewN ?_ _ | refine blk_drew ?_ | refine blk_alloc ?_ _)); exact BK1064.out) hb); have n2_ := Aside0.mk (blk_below (g := gb1065) (o := .cells #[.int .i64 a2_0, .int .i64 a2_1, .int .i64 a2_2, .int .i64 a2_3] 41 (0, 0)) (by (with_reducible repeat (first | refine blk_drewN ?_ _ | refine blk_drew ?_ | refine blk_alloc ?_ _)); exact BK1065.out) hb); have n3_ := Aside0.mk (below_step (by repeat (first | (with_reducible first | exact HB.out | apply below_alloc | apply pw_below_drewN | apply below_drew1 | refine below_set ?_ GE1064.out | refine below_set ?_ GE1065.out) | exact HB.out)) hb); clear HO_7; clear BK1064; clear BK1065; clear HB; have HO_7 := n0_; have BK1064 := n1_; have BK1065 := n2_; have HB := n3_; clear n0_ n1_ n2_ n3_; (try clear hb); (try clear hb2); (try clear hk); (try clear hi); have hcz42_0 : w41.cell? ⟨gb1064, 0, none⟩ = some (.int .i64 a1_0) := (blk_cell BK1064.out 0).trans rfl; have hcz42_1 : w41.cell? ⟨gb1064, 1, none⟩ = some (.int .i64 a1_1) := (blk_cell BK1064.out 1).trans rfl; have hcz42_2 : w41.cell? ⟨gb1064, 2, none⟩ = some (.int .i64 a1_2) := (blk_cell BK1064.out 2).trans rfl; have hcz42_3 : w41.cell? ⟨gb1064, 3, none⟩ = some (.int .i64 a1_3) := (blk_cell BK1064.out 3).trans rfl; have hfz42_0 := blk_frozen BK1064.out 0; have hfz42_1 := blk_frozen BK1064.out 1; have hfz42_2 := blk_frozen BK1064.out 2; have hfz42_3 := blk_frozen BK1064.out 3) | ((with_reducible refine gate_dst (N := 57) rfl ?_); (try (refine gate_guard (by rfl) ?_; dsimp only)); refine Kd.R_lit k41 _ 41 ?hg (N := 57) ?hd (xs := ([(⟨(⟨a1_0, a1_1⟩ : S33), (⟨a1_2, a1_3⟩ : S33)⟩ : S41)] : List (S41))) (inner := [.int .i64 a1_0, .int .i64 a1_1, .int .i64 a1_2, .int .i64 a1_3]) (ok := fun _ => True) (okp := fun _ => True) ?hr ?hp (fun _ hk => hk) trivial (Below.refl _ _) (Nat.le_refl _) (by simp) ?_; (case hd => rfl); (case hg => rfl); (case hr => first | (go_simp; done) | (go_simp; rfl)); (case hp => exact (Reps.c4 (show Kd.M k41 _ _ _ (⟨(⟨a1_0, a1_1⟩ : S33), (⟨a1_2, a1_3⟩ : S33)⟩ : S41) [.int .i64 a1_0, .int .i64 a1_1, .int .i64 a1_2, .int .i64 a1_3] from (k41_mkM _ _ _ (⟨(⟨a1_0, a1_1⟩ : S33), (⟨a1_2, a1_3⟩ : S33)⟩ : S41) )) (Reps.none _ _))); intro v1078 w43 ho44 hb hg_ hnew_; clear hg_ hnew_; (first | rw [← Ny1077.out] at ho44 | (simp only [Int.reduceToNat] at ho44; rw [← Ny1077.out] at ho44)); have n0_ := Aside0.mk (Kd.R_elder' (by (with_reducible repeat (first | apply Kd.R_alloc | apply Kd.R_drewN | apply Kd.R_drew)); exact HO_7.out) (Kd.R_base ho44) hb); have n1_ := Aside0.mk (Kd.R_lower (Kd.R_newB (Kd.R_newB (Kd.R_new' ho44 (Kd.R_lt (by (with_reducible repeat (first | apply Kd.R_alloc | apply Kd.R_drewN | apply Kd.R_drew)); exact HO_7.out))) (g := gb1064) (o := .cells #[.int .i64 a1_0, .int .i64 a1_1, .int .i64 a1_2, .int .i64 a1_3] 41 (0, 0)) (by (with_reducible repeat (first | refine blk_drewN ?_ _ | refine blk_drew ?_ | refine blk_alloc ?_ _)); exact BK1064.out)) (g := gb1065) (o := .cells #[.int .i64 a2_0, .int .i64 a2_1, .int .i64 a2_2, .int .i64 a2_3] 41 (0, 0)) (by (with_reducible repeat (first | refine blk_drewN ?_ _ | refine blk_drew ?_ | refine blk_alloc ?_ _)); exact BK1065.out)) (below_size (by repeat (first | (with_reducible first | exact HB.out | apply below_alloc | apply pw_below_drewN | apply below_drew1 | refine below_set ?_ GE1064.out | refine below_set ?_ GE1065.out) | exact HB.out)))); have n2_ := Aside0.mk (blk_below (g := gb1064) (o := .cells #[.int .i64 a1_0, .int .i64 a1_1, .int .i64 a1_2, .int .i64 a1_3] 41 (0, 0)) (by (with_reducible repeat (first | refine blk_drewN ?_ _ | refine blk_drew ?_ | refine blk_alloc ?_ _)); exact BK1064.out) hb); have n3_ := Aside0.mk (blk_below (g := gb1065) (o := .cells #[.int .i64 a2_0, .int .i64 a2_1, .int .i64 a2_2, .int .i64 a2_3] 41 (0, 0)) (by (with_reducible repeat (first | refine blk_drewN ?_ _ | refine blk_drew ?_ | refine blk_alloc ?_ _)); exact BK1065.out) hb); have n4_ := Aside0.mk (below_step (by repeat (first | (with_reducible first | exact HB.out | apply below_alloc | apply pw_below_drewN | apply below_drew1 | refine below_set ?_ GE1064.out | refine below_set ?_ GE1065.out) | exact HB.out)) hb); clear HO_7; clear BK1064; clear BK1065; clear HB; have HO_7 := n0_; have HO1079 := n1_; have BK1064 := n2_; have BK1065 := n3_; have HB := n4_; clear n0_ n1_ n2_ n3_ n4_; clear hb ho44; have hcz45_0 : w43.cell? ⟨gb1065, 0, none⟩ = some (.int .i64 a2_0) := (blk_cell BK1065.out 0).trans rfl; have hcz45_1 : w43.cell? ⟨gb1065, 1, none⟩ = some (.int .i64 a2_1) := (blk_cell BK1065.out 1).trans rfl; have hcz45_2 : w43.cell? ⟨gb1065, 2, none⟩ = some (.int .i64 a2_2) := (blk_cell BK1065.out 2).trans rfl; have hcz45_3 : w43.cell? ⟨gb1065, 3, none⟩ = some (.int .i64 a2_3) := (blk_cell BK1065.out 3).trans rfl; have hfz45_0 := blk_frozen BK1065.out 0; have hfz45_1 := blk_frozen BK1065.out 1; have hfz45_2 := blk_frozen BK1065.out 2; have hfz45_3 := blk_frozen BK1065.out 3) | ((with_reducible refine gate_dst (N := 59) rfl ?_); (try (refine gate_guard (by rfl) ?_; dsimp only)); refine Kd.R_lit k41 _ 41 ?hg (N := 59) ?hd (xs := ([(⟨(⟨a2_0, a2_1⟩ : S33), (⟨a2_2, a2_3⟩ : S33)⟩ : S41)] : List (S41))) (inner := [.int .i64 a2_0, .int .i64 a2_1, .int .i64 a2_2, .int .i64 a2_3]) (ok := fun _ => True) (okp := fun _ => True) ?hr ?hp (fun _ hk => hk) trivial (Below.refl _ _) (Nat.le_refl _) (by simp) ?_; (case hd => rfl); (case hg => rfl); (case hr => first | (go_simp; done) | (go_simp; rfl)); (case hp => exact (Reps.c4 (show Kd.M k41 _ _ _ (⟨(⟨a2_0, a2_1⟩ : S33), (⟨a2_2, a2_3⟩ : S33)⟩ : S41) [.int .i64 a2_0, .int .i64 a2_1, .int .i64 a2_2, .int .i64 a2_3] from (k41_mkM _ _ _ (⟨(⟨a2_0, a2_1⟩ : S33), (⟨a2_2, a2_3⟩ : S33)⟩ : S41) )) (Reps.none _ _))); intro v1081 w46 ho47 hb hg_ hnew_; clear hg_ hnew_; (first | rw [← Ny1080.out] at ho47 | (simp only [Int.reduceToNat] at ho47; rw [← Ny1080.out] at ho47)); have n0_ := Aside0.mk (Kd.R_elder' (by (with_reducible repeat (first | apply Kd.R_alloc | apply Kd.R_drewN | apply Kd.R_drew)); exact HO_7.out) (Kd.R_base ho47) hb); have n1_ := Aside0.mk (Kd.R_elder' (by (with_reducible repeat (first | apply Kd.R_alloc | apply Kd.R_drewN | apply Kd.R_drew)); exact HO1079.out) (Kd.R_base ho47) hb); have n2_ := Aside0.mk (Kd.R_lower (Kd.R_newB (Kd.R_newB (Kd.R_new' (Kd.R_new' ho47 (Kd.R_lt (by (with_reducible repeat (first | apply Kd.R_alloc | apply Kd.R_drewN | apply Kd.R_drew)); exact HO_7.out))) (Kd.R_lt (by (with_reducible repeat (first | apply Kd.R_alloc | apply Kd.R_drewN | apply Kd.R_drew)); exact HO1079.out))) (g := gb1064) (o := .cells #[.int .i64 a1_0, .int .i64 a1_1, .int .i64 a1_2, .int .i64 a1_3] 41 (0, 0)) (by (with_reducible repeat (first | refine blk_drewN ?_ _ | refine blk_drew ?_ | refine blk_alloc ?_ _)); exact BK1064.out)) (g := gb1065) (o := .cells #[.int .i64 a2_0, .int .i64 a2_1, .int .i64 a2_2, .int .i64 a2_3] 41 (0, 0)) (by (with_reducible repeat (first | refine blk_drewN ?_ _ | refine blk_drew ?_ | refine blk_alloc ?_ _)); exact BK1065.out)) (below_size (by repeat (first | (with_reducible first | exact HB.out | apply below_alloc | apply pw_below_drewN | apply below_drew1 | refine below_set ?_ GE1064.out | refine below_set ?_ GE1065.out) | exact HB.out)))); have n3_ := Aside0.mk (blk_below (g := gb1064) (o := .cells #[.int .i64 a1_0, .int .i64 a1_1, .int .i64 a1_2, .int .i64 a1_3] 41 (0, 0)) (by (with_reducible repeat (first | refine blk_drewN ?_ _ | refine blk_drew ?_ | refine blk_alloc ?_ _)); exact BK1064.out) hb); have n4_ := Aside0.mk (blk_below (g := gb1065) (o := .cells #[.int .i64 a2_0, .int .i64 a2_1, .int .i64 a2_2, .int .i64 a2_3] 41 (0, 0)) (by (with_reducible repeat (first | refine blk_drewN ?_ _ | refine blk_drew ?_ | refine blk_alloc ?_ _)); exact BK1065.out) hb); have n5_ := Aside0.mk (below_step (by repeat (first | (with_reducible first | exact HB.out | apply below_alloc | apply pw_below_drewN | apply below_drew1 | refine below_set ?_ GE1064.out | refine below_set ?_ GE1065.out) | exact HB.out)) hb); clear HO_7; clear HO1079; clear BK1064; clear BK1065; clear HB; have HO_7 := n0_; have HO1079 := n1_; have HO1082 := n2_; have BK1064 := n3_; have BK1065 := n4_; have HB := n5_; clear n0_ n1_ n2_ n3_ n4_ n5_; clear hb ho47; obtain ⟨Ao48, co48, eo48⟩ := Kd.R_slice HO1079.out; subst eo48; obtain ⟨Ao49, co49, eo49⟩ := Kd.R_slice HO1082.out; subst eo49) | (go_at_call 69; (with_reducible refine (region_Intersect.calls k1 _ _ y1077 _ _ y1080 t1083 _ ?side1 ?side2 ?side3 ?side4 A32.out).mono ?_); (case side1 => repeat (first | exact (Kd.R_reads' HO1079.out).2.2 | (with_reducible refine Kd.C_alloc ?_ _) | (with_reducible refine Kd.C_drewN ?_ _) | (with_reducible refine Kd.C_drew ?_))); (case side2 => exact (Kd.R_reads' HO1079.out).2.1); (case side3 => repeat (first | exact (Kd.R_reads' HO1082.out).2.2 | (with_reducible refine Kd.C_alloc ?_ _) | (with_reducible refine Kd.C_drewN ?_ _) | (with_reducible refine Kd.C_drew ?_))); (case side4 => exact (Kd.R_reads' HO1082.out).2.1); rintro e w50 ⟨v1084, rfl, ho0, hb⟩; have n0_ := Aside0.mk (Kd.R_elder' (by (with_reducible repeat (first | apply Kd.R_alloc | apply Kd.R_drewN | apply Kd.R_drew)); exact HO_7.out) (Kd.R_base ho0) hb); have n1_ := Aside0.mk (Kd.R_elder' (by (with_reducible repeat (first | apply Kd.R_alloc | apply Kd.R_drewN | apply Kd.R_drew)); exact HO1079.out) (Kd.R_base ho0) hb); have n2_ := Aside0.mk (Kd.R_elder' (by (with_reducible repeat (first | apply Kd.R_alloc | apply Kd.R_drewN | apply Kd.R_drew)); exact HO1082.out) (Kd.R_base ho0) hb); have n3_ := Aside0.mk (Kd.R_lower (Kd.R_newB (Kd.R_newB (Kd.R_new' (Kd.R_new' (Kd.R_new' ho0 (Kd.R_lt (by (with_reducible repeat (first | apply Kd.R_alloc | apply Kd.R_drewN | apply Kd.R_drew)); exact HO_7.out))) (Kd.R_lt (by (with_reducible repeat (first | apply Kd.R_alloc | apply Kd.R_drewN | apply Kd.R_drew)); exact HO1079.out))) (Kd.R_lt (by (with_reducible repeat (first | apply Kd.R_alloc | apply Kd.R_drewN | apply Kd.R_drew)); exact HO1082.out))) (g := gb1064) (o := .cells #[.int .i64 a1_0, .int .i64 a1_1, .int .i64 a1_2, .int .i64 a1_3] 41 (0, 0)) (by (with_reducible repeat (first | refine blk_drewN ?_ _ | refine blk_drew ?_ | refine blk_alloc ?_ _)); exact BK1064.out)) (g := gb1065) (o := .cells #[.int .i64 a2_0, .int .i64 a2_1, .int .i64 a2_2, .int .i64 a2_3] 41 (0, 0)) (by (with_reducible repeat (first | refine blk_drewN ?_ _ | refine blk_drew ?_ | refine blk_alloc ?_ _)); exact BK1065.out)) (below_size (by repeat (first | (with_reducible first | exact HB.out | apply below_alloc | apply pw_below_drewN | apply below_drew1 | refine below_set ?_ GE1064.out | refine below_set ?_ GE1065.out) | exact HB.out)))); have n4_ := Aside0.mk (blk_below (g := gb1064) (o := .cells #[.int .i64 a1_0, .int .i64 a1_1, .int .i64 a1_2, .int .i64 a1_3] 41 (0, 0)) (by (with_reducible repeat (first | refine blk_drewN ?_ _ | refine blk_drew ?_ | refine blk_alloc ?_ _)); exact BK1064.out) hb); have n5_ := Aside0.mk (blk_below (g := gb1065) (o := .cells #[.int .i64 a2_0, .int .i64 a2_1, .int .i64 a2_2, .int .i64 a2_3] 41 (0, 0)) (by (with_reducible repeat (first | refine blk_drewN ?_ _ | refine blk_drew ?_ | refine blk_alloc ?_ _)); exact BK1065.out) hb); have n6_ := Aside0.mk (below_step (by repeat (first | (with_reducible first | exact HB.out | apply below_alloc | apply pw_below_drewN | apply below_drew1 | refine below_set ?_ GE1064.out | refine below_set ?_ GE1065.out) | exact HB.out)) hb); clear HO_7; clear HO1079; clear HO1082; clear BK1064; clear BK1065; clear HB; have HO_7 := n0_; have HO1079 := n1_; have HO1082 := n2_; have HO1085 := n3_; have BK1064 := n4_; have BK1065 := n5_; have HB := n6_; clear n0_ n1_ n2_ n3_ n4_ n5_ n6_; (try clear hb); (try clear hb2); (try clear hk); (try clear hi); (try clear ho0); obtain ⟨Ao51, co51, eo51⟩ := Kd.R_slice HO1085.out; subst eo51) | (go_at_call 65; (with_reducible refine (bitemporallaw05_awake.calls k1  t1086 _ A34.out).mono ?_); rintro e w52 ⟨rfl, hb⟩; have n0_ := Aside0.mk (Kd.R_below (by (with_reducible repeat (first | apply Kd.R_alloc | apply Kd.R_drewN | apply Kd.R_drew)); exact HO_7.out) hb); have n1_ := Aside0.mk (Kd.R_below (by (with_reducible repeat (first | apply Kd.R_alloc | apply Kd.R_drewN | apply Kd.R_drew)); exact HO1079.out) hb); have n2_ := Aside0.mk (Kd.R_below (by (with_reducible repeat (first | apply Kd.R_alloc | apply Kd.R_drewN | apply Kd.R_drew)); exact HO1082.out) hb); have n3_ := Aside0.mk (Kd.R_below (by (with_reducible repeat (first | apply Kd.R_alloc | apply Kd.R_drewN | apply Kd.R_drew)); exact HO1085.out) hb); have n4_ := Aside0.mk (blk_below (g := gb1064) (o := .cells #[.int .i64 a1_0, .int .i64 a1_1, .int .i64 a1_2, .int .i64 a1_3] 41 (0, 0)) (by (with_reducible repeat (first | refine blk_drewN ?_ _ | refine blk_drew ?_ | refine blk_alloc ?_ _)); exact BK1064.out) hb); have n5_ := Aside0.mk (blk_below (g := gb1065) (o := .cells #[.int .i64 a2_0, .int .i64 a2_1, .int .i64 a2_2, .int .i64 a2_3] 41 (0, 0)) (by (with_reducible repeat (first | refine blk_drewN ?_ _ | refine blk_drew ?_ | refine blk_alloc ?_ _)); exact BK1065.out) hb); have n6_ := Aside0.mk (below_step (by repeat (first | (with_reducible first | exact HB.out | apply below_alloc | apply pw_below_drewN | apply below_drew1 | refine below_set ?_ GE1064.out | refine below_set ?_ GE1065.out) | exact HB.out)) hb); clear HO_7; clear HO1079; clear HO1082; clear HO1085; clear BK1064; clear BK1065; clear HB; have HO_7 := n0_; have HO1079 := n1_; have HO1082 := n2_; have HO1085 := n3_; have BK1064 := n4_; have BK1065 := n5_; have HB := n6_; clear n0_ n1_ n2_ n3_ n4_ n5_ n6_; (try clear hb); (try clear hb2); (try clear hk); (try clear hi)))
                go_ret
                exact ⟨by first | rfl | (simp [errW_none, errW_some] <;> rfl) | (simp [*, errW_none, errW_some] <;> rfl), by repeat (first | (with_reducible first | exact HB.out | apply below_alloc | apply pw_below_drewN | apply below_drew1 | refine below_set ?_ GE1064.out | refine below_set ?_ GE1065.out) | exact HB.out)⟩
              · rw [if_neg c33] at H
                exact absurd H (by simp)
            · rw [if_neg c31] at H
              exact absurd H (by simp)
end Go.Proofs.Ytdcelpppgbmlaaa.P
