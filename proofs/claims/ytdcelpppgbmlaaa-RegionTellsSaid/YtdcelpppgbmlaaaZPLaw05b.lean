-- WRITTEN BY wip/gen.py (the kit's print with contracts put in that are proved by hand). Lean checks it.
import Derived.Test.YtdcelpppgbmlaaaZP0
import Derived.Test.YtdcelpppgbmlaaaZEComb
import Derived.Test.YtdcelpppgbmlaaaZEValid
import Derived.Test.YtdcelpppgbmlaaaZPLaw05a
import Derived.Test.YtdcelpppgbmlaaaZPRef01
import Derived.Test.YtdcelpppgbmlaaaZPRef05
import Derived.Test.YtdcelpppgbmlaaaZPRef05a
import Derived.Test.YtdcelpppgbmlaaaZPRegion
namespace Go.Proofs.Ytdcelpppgbmlaaa.P
open Go.RowKit Go.Proofs.YtdcelpppgbmlaaaW.PrintWords Go.Proofs.YtdcelpppgbmlaaaW.PrintLast Go.Proofs.YtdcelpppgbmlaaaW.PrintMore
attribute [local go_sem] max2_int min2_int max_two min_two max_three min_three max_four min_four   -- for this text's walks alone
set_option linter.unusedVariables false
set_option linter.unusedSimpArgs false
def L05_RegionTells.f (k : Nat) (l0 : List (S41)) (a1 : Int) (a2 : Int) : Option (Bool) := if (l0.length : Int) > 12 then ((L05_awake.f k).bind fun t846 => (some t846)) else ((region_Valid.f k l0).bind fun t847 => ((R05_Valid.f k l0).bind fun t848 => (if (t847 == t848) = true then ((region_Contains.f k l0 a1 a2).bind fun t849 => ((R05_Contains.f k l0 a1 a2).bind fun t850 => (if (t849 == t850) = true then ((region_Slice.f k l0 a2).bind fun t851 => ((R05_Slice.f k l0 a2).bind fun t854 => ((R01_Same.f k t851 t854).bind fun t857 => (if t857 = true then ((region_Section.f k l0 a1).bind fun t858 => ((R05_Section.f k l0 a1).bind fun t861 => ((R01_Same.f k t858 t861).bind fun t864 => (if t864 = true then ((L05_awake.f k).bind fun t865 => (some t865)) else (none))))) else (none))))) else (none)))) else (none))))
set_option maxHeartbeats 8000000 in
set_option maxRecDepth 100000 in
theorem L05_RegionTells.calls (k : Nat) (A0 : Option Addr) (c0 : Nat) (l0 : List (S41)) (a1 : Int) (a2 : Int) (r : Bool) (w : World) (hr0 : Kd.C k41 w A0 l0.length l0) (hc0 : l0.length ≤ c0) (h : L05_RegionTells.f k l0 a1 a2 = some r) :
    Calls Try.prog 17 #[.slice A0 l0.length c0, .int .i64 a1, .int .i64 a2] w fun e w' => e = .returned (.bool r) ∧ Below w.heap.size w w' := by
  have HR0 := Aside0.mk hr0
  have HC0 := Aside0.mk hc0
  clear hr0 hc0
  have HB := Aside0.mk (Below.refl w.heap.size w)
  have H : (if (l0.length : Int) > 12 then ((L05_awake.f k).bind fun t846 => (some t846)) else ((region_Valid.f k l0).bind fun t847 => ((R05_Valid.f k l0).bind fun t848 => (if (t847 == t848) = true then ((region_Contains.f k l0 a1 a2).bind fun t849 => ((R05_Contains.f k l0 a1 a2).bind fun t850 => (if (t849 == t850) = true then ((region_Slice.f k l0 a2).bind fun t851 => ((R05_Slice.f k l0 a2).bind fun t854 => ((R01_Same.f k t851 t854).bind fun t857 => (if t857 = true then ((region_Section.f k l0 a1).bind fun t858 => ((R05_Section.f k l0 a1).bind fun t861 => ((R01_Same.f k t858 t861).bind fun t864 => (if t864 = true then ((L05_awake.f k).bind fun t865 => (some t865)) else (none))))) else (none))))) else (none)))) else (none))))) = some r := h
  clear h
  by_cases c4 : (l0.length : Int) > 12
  · rw [if_pos c4] at H
    have c4b0 : decide (12 < (l0.length : Int)) = true := decide_eq_true c4
    have c4b1 : decide (12 < l0.length) = true := decide_eq_true (by omega)
    clear c4
    replace H := Option.bind_eq_some_iff.mp H
    obtain ⟨t846, A50, H⟩ := H
    replace H : (some t846) = some r := H
    have A5 := Aside0.mk A50
    clear A50
    obtain rfl := Option.some.inj H
    go_enter Try.func17, Try.ntmps17
    go_wp2_with (first | ((with_reducible refine gate_callee (f := 65) rfl ?_); refine goesL_ (some 10) rfl rfl Try.func65 (by kernel_rfl) rfl #[] rfl (by (try simp only [List.map_toArray, List.map_cons, List.map_nil]); first | done | rfl | (simp only [List.length_drop, List.length_take]; rfl)) ?_; (with_reducible refine (L05_awake.calls k  t846 _ A5.out).mono ?_); rintro e w6 ⟨rfl, hb⟩; refine ⟨_, rfl, ?_⟩; have n0_ := Aside0.mk (below_step (by repeat (first | (with_reducible first | exact HB.out | apply below_alloc | apply pw_below_drewN | apply below_drew1) | exact HB.out)) hb); clear HB; have HB := n0_; clear n0_; (try clear hb); (try clear hb2); (try clear hk); (try clear hi)))
    go_ret
    exact ⟨by first | rfl | (simp [errW_none, errW_some] <;> rfl) | (simp [*, errW_none, errW_some] <;> rfl), by repeat (first | (with_reducible first | exact HB.out | apply below_alloc | apply pw_below_drewN | apply below_drew1) | exact HB.out)⟩
  · rw [if_neg c4] at H
    have c4b0 : decide (12 < (l0.length : Int)) = false := decide_eq_false c4
    have c4b1 : decide (12 < l0.length) = false := decide_eq_false (by omega)
    clear c4
    replace H := Option.bind_eq_some_iff.mp H
    obtain ⟨t847, A70, H⟩ := H
    replace H : ((R05_Valid.f k l0).bind fun t848 => (if (t847 == t848) = true then ((region_Contains.f k l0 a1 a2).bind fun t849 => ((R05_Contains.f k l0 a1 a2).bind fun t850 => (if (t849 == t850) = true then ((region_Slice.f k l0 a2).bind fun t851 => ((R05_Slice.f k l0 a2).bind fun t854 => ((R01_Same.f k t851 t854).bind fun t857 => (if t857 = true then ((region_Section.f k l0 a1).bind fun t858 => ((R05_Section.f k l0 a1).bind fun t861 => ((R01_Same.f k t858 t861).bind fun t864 => (if t864 = true then ((L05_awake.f k).bind fun t865 => (some t865)) else (none))))) else (none))))) else (none)))) else (none))) = some r := H
    have A7 := Aside0.mk A70
    clear A70
    replace H := Option.bind_eq_some_iff.mp H
    obtain ⟨t848, A80, H⟩ := H
    replace H : (if (t847 == t848) = true then ((region_Contains.f k l0 a1 a2).bind fun t849 => ((R05_Contains.f k l0 a1 a2).bind fun t850 => (if (t849 == t850) = true then ((region_Slice.f k l0 a2).bind fun t851 => ((R05_Slice.f k l0 a2).bind fun t854 => ((R01_Same.f k t851 t854).bind fun t857 => (if t857 = true then ((region_Section.f k l0 a1).bind fun t858 => ((R05_Section.f k l0 a1).bind fun t861 => ((R01_Same.f k t858 t861).bind fun t864 => (if t864 = true then ((L05_awake.f k).bind fun t865 => (some t865)) else (none))))) else (none))))) else (none)))) else (none)) = some r := H
    have A8 := Aside0.mk A80
    clear A80
    by_cases c9 : (t847 == t848) = true
    · rw [if_pos c9] at H
      have c9b0 : (t847 == t848) = true := c9
      (try (have c9b0z : t847 = t848 := by simpa using c9b0))
      (try (have c9b1 : decide (t847 = t848) = true := by simpa using c9))
      (try (have c9b2 : (t847 == t848) = true := by simpa using c9))
      clear c9
      replace H := Option.bind_eq_some_iff.mp H
      obtain ⟨t849, A100, H⟩ := H
      replace H : ((R05_Contains.f k l0 a1 a2).bind fun t850 => (if (t849 == t850) = true then ((region_Slice.f k l0 a2).bind fun t851 => ((R05_Slice.f k l0 a2).bind fun t854 => ((R01_Same.f k t851 t854).bind fun t857 => (if t857 = true then ((region_Section.f k l0 a1).bind fun t858 => ((R05_Section.f k l0 a1).bind fun t861 => ((R01_Same.f k t858 t861).bind fun t864 => (if t864 = true then ((L05_awake.f k).bind fun t865 => (some t865)) else (none))))) else (none))))) else (none))) = some r := H
      have A10 := Aside0.mk A100
      clear A100
      replace H := Option.bind_eq_some_iff.mp H
      obtain ⟨t850, A110, H⟩ := H
      replace H : (if (t849 == t850) = true then ((region_Slice.f k l0 a2).bind fun t851 => ((R05_Slice.f k l0 a2).bind fun t854 => ((R01_Same.f k t851 t854).bind fun t857 => (if t857 = true then ((region_Section.f k l0 a1).bind fun t858 => ((R05_Section.f k l0 a1).bind fun t861 => ((R01_Same.f k t858 t861).bind fun t864 => (if t864 = true then ((L05_awake.f k).bind fun t865 => (some t865)) else (none))))) else (none))))) else (none)) = some r := H
      have A11 := Aside0.mk A110
      clear A110
      by_cases c12 : (t849 == t850) = true
      · rw [if_pos c12] at H
        have c12b0 : (t849 == t850) = true := c12
        (try (have c12b0z : t849 = t850 := by simpa using c12b0))
        (try (have c12b1 : decide (t849 = t850) = true := by simpa using c12))
        (try (have c12b2 : (t849 == t850) = true := by simpa using c12))
        clear c12
        replace H := Option.bind_eq_some_iff.mp H
        obtain ⟨t851, A130, H⟩ := H
        replace H : ((R05_Slice.f k l0 a2).bind fun t854 => ((R01_Same.f k t851 t854).bind fun t857 => (if t857 = true then ((region_Section.f k l0 a1).bind fun t858 => ((R05_Section.f k l0 a1).bind fun t861 => ((R01_Same.f k t858 t861).bind fun t864 => (if t864 = true then ((L05_awake.f k).bind fun t865 => (some t865)) else (none))))) else (none)))) = some r := H
        have A13 := Aside0.mk A130
        clear A130
        replace H := Option.bind_eq_some_iff.mp H
        obtain ⟨t854, A140, H⟩ := H
        replace H : ((R01_Same.f k t851 t854).bind fun t857 => (if t857 = true then ((region_Section.f k l0 a1).bind fun t858 => ((R05_Section.f k l0 a1).bind fun t861 => ((R01_Same.f k t858 t861).bind fun t864 => (if t864 = true then ((L05_awake.f k).bind fun t865 => (some t865)) else (none))))) else (none))) = some r := H
        have A14 := Aside0.mk A140
        clear A140
        replace H := Option.bind_eq_some_iff.mp H
        obtain ⟨t857, A150, H⟩ := H
        replace H : (if t857 = true then ((region_Section.f k l0 a1).bind fun t858 => ((R05_Section.f k l0 a1).bind fun t861 => ((R01_Same.f k t858 t861).bind fun t864 => (if t864 = true then ((L05_awake.f k).bind fun t865 => (some t865)) else (none))))) else (none)) = some r := H
        have A15 := Aside0.mk A150
        clear A150
        by_cases c16 : t857 = true
        · subst c16
          have H1 : ((region_Section.f k l0 a1).bind fun t858 => ((R05_Section.f k l0 a1).bind fun t861 => ((R01_Same.f k t858 t861).bind fun t864 => (if t864 = true then ((L05_awake.f k).bind fun t865 => (some t865)) else (none))))) = some r := by rw [if_pos rfl] at H; exact H
          clear H
          have H := H1
          clear H1
          replace H := Option.bind_eq_some_iff.mp H
          obtain ⟨t858, A170, H⟩ := H
          replace H : ((R05_Section.f k l0 a1).bind fun t861 => ((R01_Same.f k t858 t861).bind fun t864 => (if t864 = true then ((L05_awake.f k).bind fun t865 => (some t865)) else (none)))) = some r := H
          have A17 := Aside0.mk A170
          clear A170
          replace H := Option.bind_eq_some_iff.mp H
          obtain ⟨t861, A180, H⟩ := H
          replace H : ((R01_Same.f k t858 t861).bind fun t864 => (if t864 = true then ((L05_awake.f k).bind fun t865 => (some t865)) else (none))) = some r := H
          have A18 := Aside0.mk A180
          clear A180
          replace H := Option.bind_eq_some_iff.mp H
          obtain ⟨t864, A190, H⟩ := H
          replace H : (if t864 = true then ((L05_awake.f k).bind fun t865 => (some t865)) else (none)) = some r := H
          have A19 := Aside0.mk A190
          clear A190
          by_cases c20 : t864 = true
          · subst c20
            have H1 : ((L05_awake.f k).bind fun t865 => (some t865)) = some r := by rw [if_pos rfl] at H; exact H
            clear H
            have H := H1
            clear H1
            replace H := Option.bind_eq_some_iff.mp H
            obtain ⟨t865, A210, H⟩ := H
            replace H : (some t865) = some r := H
            have A21 := Aside0.mk A210
            clear A210
            obtain rfl := Option.some.inj H
            go_enter Try.func17, Try.ntmps17
            go_wp2_with (first | ((with_reducible refine gate_callee (f := 79) rfl ?_); refine goesL_ (some 12) rfl rfl Try.func79 (by kernel_rfl) rfl #[.slice A0 l0.length c0] rfl (by (try simp only [List.map_toArray, List.map_cons, List.map_nil]); first | done | rfl | (simp only [List.length_drop, List.length_take]; rfl)) ?_; (with_reducible refine (region_Valid.calls k _ _ l0 t847 _ ?side1 ?side2 A7.out).mono ?_); (case side1 => repeat (first | exact HR0.out | (with_reducible refine Kd.C_alloc ?_ _) | (with_reducible refine Kd.C_drewN ?_ _) | (with_reducible refine Kd.C_drew ?_))); (case side2 => exact HC0.out); rintro e w22 ⟨rfl, hb⟩; refine ⟨_, rfl, ?_⟩; have n0_ := Aside0.mk (below_step (by repeat (first | (with_reducible first | exact HB.out | apply below_alloc | apply pw_below_drewN | apply below_drew1) | exact HB.out)) hb); clear HB; have HB := n0_; clear n0_; (try clear hb); (try clear hb2); (try clear hk); (try clear hi)) | ((with_reducible refine gate_callee (f := 82) rfl ?_); refine goesL_ (some 14) rfl rfl Try.func82 (by kernel_rfl) rfl #[.slice A0 l0.length c0] rfl (by (try simp only [List.map_toArray, List.map_cons, List.map_nil]); first | done | rfl | (simp only [List.length_drop, List.length_take]; rfl)) ?_; (with_reducible refine (R05_Valid.calls k _ _ l0 t848 _ ?side1 ?side2 A8.out).mono ?_); (case side1 => repeat (first | exact (Kd.C_below HR0.out HB.out) | (with_reducible refine Kd.C_alloc ?_ _) | (with_reducible refine Kd.C_drewN ?_ _) | (with_reducible refine Kd.C_drew ?_))); (case side2 => exact HC0.out); rintro e w23 ⟨rfl, hb⟩; refine ⟨_, rfl, ?_⟩; have n0_ := Aside0.mk (below_step (by repeat (first | (with_reducible first | exact HB.out | apply below_alloc | apply pw_below_drewN | apply below_drew1) | exact HB.out)) hb); clear HB; have HB := n0_; clear n0_; (try clear hb); (try clear hb2); (try clear hk); (try clear hi)) | (go_at_call 81; (with_reducible refine (region_Contains.calls k _ _ l0 a1 a2 t849 _ ?side1 ?side2 A10.out).mono ?_); (case side1 => repeat (first | exact (Kd.C_below HR0.out HB.out) | (with_reducible refine Kd.C_alloc ?_ _) | (with_reducible refine Kd.C_drewN ?_ _) | (with_reducible refine Kd.C_drew ?_))); (case side2 => exact HC0.out); rintro e w24 ⟨rfl, hb⟩; have n0_ := Aside0.mk (below_step (by repeat (first | (with_reducible first | exact HB.out | apply below_alloc | apply pw_below_drewN | apply below_drew1) | exact HB.out)) hb); clear HB; have HB := n0_; clear n0_; (try clear hb); (try clear hb2); (try clear hk); (try clear hi)) | (go_at_call 80; (with_reducible refine (R05_Contains.calls k _ _ l0 a1 a2 t850 _ ?side1 ?side2 A11.out).mono ?_); (case side1 => repeat (first | exact (Kd.C_below HR0.out HB.out) | (with_reducible refine Kd.C_alloc ?_ _) | (with_reducible refine Kd.C_drewN ?_ _) | (with_reducible refine Kd.C_drew ?_))); (case side2 => exact HC0.out); rintro e w25 ⟨rfl, hb⟩; have n0_ := Aside0.mk (below_step (by repeat (first | (with_reducible first | exact HB.out | apply below_alloc | apply pw_below_drewN | apply below_drew1) | exact HB.out)) hb); clear HB; have HB := n0_; clear n0_; (try clear hb); (try clear hb2); (try clear hk); (try clear hi)) | (go_at_call 74; (with_reducible refine (region_Slice.calls k _ _ l0 a2 t851 _ ?side1 ?side2 A13.out).mono ?_); (case side1 => repeat (first | exact (Kd.C_below HR0.out HB.out) | (with_reducible refine Kd.C_alloc ?_ _) | (with_reducible refine Kd.C_drewN ?_ _) | (with_reducible refine Kd.C_drew ?_))); (case side2 => exact HC0.out); rintro e w26 ⟨v852, rfl, ho0, hb⟩; have n0_ := Aside0.mk (Kd.R_lower ho0 (below_size (by repeat (first | (with_reducible first | exact HB.out | apply below_alloc | apply pw_below_drewN | apply below_drew1) | exact HB.out)))); have n1_ := Aside0.mk (below_step (by repeat (first | (with_reducible first | exact HB.out | apply below_alloc | apply pw_below_drewN | apply below_drew1) | exact HB.out)) hb); clear HB; have HO853 := n0_; have HB := n1_; clear n0_ n1_; (try clear hb); (try clear hb2); (try clear hk); (try clear hi); (try clear ho0)) | (go_at_call 83; (with_reducible refine (R05_Slice.calls k _ _ l0 a2 t854 _ ?side1 ?side2 A14.out).mono ?_); (case side1 => repeat (first | exact (Kd.C_below HR0.out HB.out) | (with_reducible refine Kd.C_alloc ?_ _) | (with_reducible refine Kd.C_drewN ?_ _) | (with_reducible refine Kd.C_drew ?_))); (case side2 => exact HC0.out); rintro e w27 ⟨v855, rfl, ho0, hb⟩; have n0_ := Aside0.mk (Kd.R_elder' (by (with_reducible repeat (first | apply Kd.R_alloc | apply Kd.R_drewN | apply Kd.R_drew)); exact HO853.out) (Kd.R_base ho0) hb); have n1_ := Aside0.mk (Kd.R_lower (Kd.R_new' ho0 (Kd.R_lt (by (with_reducible repeat (first | apply Kd.R_alloc | apply Kd.R_drewN | apply Kd.R_drew)); exact HO853.out))) (below_size (by repeat (first | (with_reducible first | exact HB.out | apply below_alloc | apply pw_below_drewN | apply below_drew1) | exact HB.out)))); have n2_ := Aside0.mk (below_step (by repeat (first | (with_reducible first | exact HB.out | apply below_alloc | apply pw_below_drewN | apply below_drew1) | exact HB.out)) hb); clear HO853; clear HB; have HO853 := n0_; have HO856 := n1_; have HB := n2_; clear n0_ n1_ n2_; (try clear hb); (try clear hb2); (try clear hk); (try clear hi); (try clear ho0); obtain ⟨Ao28, co28, eo28⟩ := Kd.R_slice HO853.out; subst eo28; obtain ⟨Ao29, co29, eo29⟩ := Kd.R_slice HO856.out; subst eo29) | (go_at_call 27; (with_reducible refine (R01_Same.calls k _ _ t851 _ _ t854 true _ ?side1 ?side2 ?side3 ?side4 A15.out).mono ?_); (case side1 => repeat (first | exact (Kd.R_reads' HO853.out).2.2 | (with_reducible refine Kd.C_alloc ?_ _) | (with_reducible refine Kd.C_drewN ?_ _) | (with_reducible refine Kd.C_drew ?_))); (case side2 => exact (Kd.R_reads' HO853.out).2.1); (case side3 => repeat (first | exact (Kd.R_reads' HO856.out).2.2 | (with_reducible refine Kd.C_alloc ?_ _) | (with_reducible refine Kd.C_drewN ?_ _) | (with_reducible refine Kd.C_drew ?_))); (case side4 => exact (Kd.R_reads' HO856.out).2.1); rintro e w' ⟨rfl, ⟨nd, rfl⟩⟩) | (go_at_call 75; (with_reducible refine (region_Section.calls k _ _ l0 a1 t858 _ ?side1 ?side2 A17.out).mono ?_); (case side1 => repeat (first | exact (Kd.C_below HR0.out (by repeat (first | (with_reducible first | exact HB.out | apply below_alloc | apply pw_below_drewN | apply below_drew1) | exact HB.out))) | (with_reducible refine Kd.C_alloc ?_ _) | (with_reducible refine Kd.C_drewN ?_ _) | (with_reducible refine Kd.C_drew ?_))); (case side2 => exact HC0.out); rintro e w30 ⟨v859, rfl, ho0, hb⟩; have n0_ := Aside0.mk (Kd.R_elder' (by (with_reducible repeat (first | apply Kd.R_alloc | apply Kd.R_drewN | apply Kd.R_drew)); exact HO853.out) (Kd.R_base ho0) hb); have n1_ := Aside0.mk (Kd.R_elder' (by (with_reducible repeat (first | apply Kd.R_alloc | apply Kd.R_drewN | apply Kd.R_drew)); exact HO856.out) (Kd.R_base ho0) hb); have n2_ := Aside0.mk (Kd.R_lower (Kd.R_new' (Kd.R_new' ho0 (Kd.R_lt (by (with_reducible repeat (first | apply Kd.R_alloc | apply Kd.R_drewN | apply Kd.R_drew)); exact HO853.out))) (Kd.R_lt (by (with_reducible repeat (first | apply Kd.R_alloc | apply Kd.R_drewN | apply Kd.R_drew)); exact HO856.out))) (below_size (by repeat (first | (with_reducible first | exact HB.out | apply below_alloc | apply pw_below_drewN | apply below_drew1) | exact HB.out)))); have n3_ := Aside0.mk (below_step (by repeat (first | (with_reducible first | exact HB.out | apply below_alloc | apply pw_below_drewN | apply below_drew1) | exact HB.out)) hb); clear HO853; clear HO856; clear HB; have HO853 := n0_; have HO856 := n1_; have HO860 := n2_; have HB := n3_; clear n0_ n1_ n2_ n3_; (try clear hb); (try clear hb2); (try clear hk); (try clear hi); (try clear ho0)) | (go_at_call 84; (with_reducible refine (R05_Section.calls k _ _ l0 a1 t861 _ ?side1 ?side2 A18.out).mono ?_); (case side1 => repeat (first | exact (Kd.C_below HR0.out HB.out) | (with_reducible refine Kd.C_alloc ?_ _) | (with_reducible refine Kd.C_drewN ?_ _) | (with_reducible refine Kd.C_drew ?_))); (case side2 => exact HC0.out); rintro e w31 ⟨v862, rfl, ho0, hb⟩; have n0_ := Aside0.mk (Kd.R_elder' (by (with_reducible repeat (first | apply Kd.R_alloc | apply Kd.R_drewN | apply Kd.R_drew)); exact HO853.out) (Kd.R_base ho0) hb); have n1_ := Aside0.mk (Kd.R_elder' (by (with_reducible repeat (first | apply Kd.R_alloc | apply Kd.R_drewN | apply Kd.R_drew)); exact HO856.out) (Kd.R_base ho0) hb); have n2_ := Aside0.mk (Kd.R_elder' (by (with_reducible repeat (first | apply Kd.R_alloc | apply Kd.R_drewN | apply Kd.R_drew)); exact HO860.out) (Kd.R_base ho0) hb); have n3_ := Aside0.mk (Kd.R_lower (Kd.R_new' (Kd.R_new' (Kd.R_new' ho0 (Kd.R_lt (by (with_reducible repeat (first | apply Kd.R_alloc | apply Kd.R_drewN | apply Kd.R_drew)); exact HO853.out))) (Kd.R_lt (by (with_reducible repeat (first | apply Kd.R_alloc | apply Kd.R_drewN | apply Kd.R_drew)); exact HO856.out))) (Kd.R_lt (by (with_reducible repeat (first | apply Kd.R_alloc | apply Kd.R_drewN | apply Kd.R_drew)); exact HO860.out))) (below_size (by repeat (first | (with_reducible first | exact HB.out | apply below_alloc | apply pw_below_drewN | apply below_drew1) | exact HB.out)))); have n4_ := Aside0.mk (below_step (by repeat (first | (with_reducible first | exact HB.out | apply below_alloc | apply pw_below_drewN | apply below_drew1) | exact HB.out)) hb); clear HO853; clear HO856; clear HO860; clear HB; have HO853 := n0_; have HO856 := n1_; have HO860 := n2_; have HO863 := n3_; have HB := n4_; clear n0_ n1_ n2_ n3_ n4_; (try clear hb); (try clear hb2); (try clear hk); (try clear hi); (try clear ho0); obtain ⟨Ao32, co32, eo32⟩ := Kd.R_slice HO860.out; subst eo32; obtain ⟨Ao33, co33, eo33⟩ := Kd.R_slice HO863.out; subst eo33) | (go_at_call 27; (with_reducible refine (R01_Same.calls k _ _ t858 _ _ t861 true _ ?side1 ?side2 ?side3 ?side4 A19.out).mono ?_); (case side1 => repeat (first | exact (Kd.R_reads' HO860.out).2.2 | (with_reducible refine Kd.C_alloc ?_ _) | (with_reducible refine Kd.C_drewN ?_ _) | (with_reducible refine Kd.C_drew ?_))); (case side2 => exact (Kd.R_reads' HO860.out).2.1); (case side3 => repeat (first | exact (Kd.R_reads' HO863.out).2.2 | (with_reducible refine Kd.C_alloc ?_ _) | (with_reducible refine Kd.C_drewN ?_ _) | (with_reducible refine Kd.C_drew ?_))); (case side4 => exact (Kd.R_reads' HO863.out).2.1); rintro e w' ⟨rfl, ⟨nd, rfl⟩⟩) | (go_at_call 65; (with_reducible refine (L05_awake.calls k  t865 _ A21.out).mono ?_); rintro e w34 ⟨rfl, hb⟩; have n0_ := Aside0.mk (Kd.R_below (by (with_reducible repeat (first | apply Kd.R_alloc | apply Kd.R_drewN | apply Kd.R_drew)); exact HO853.out) hb); have n1_ := Aside0.mk (Kd.R_below (by (with_reducible repeat (first | apply Kd.R_alloc | apply Kd.R_drewN | apply Kd.R_drew)); exact HO856.out) hb); have n2_ := Aside0.mk (Kd.R_below (by (with_reducible repeat (first | apply Kd.R_alloc | apply Kd.R_drewN | apply Kd.R_drew)); exact HO860.out) hb); have n3_ := Aside0.mk (Kd.R_below (by (with_reducible repeat (first | apply Kd.R_alloc | apply Kd.R_drewN | apply Kd.R_drew)); exact HO863.out) hb); have n4_ := Aside0.mk (below_step (by repeat (first | (with_reducible first | exact HB.out | apply below_alloc | apply pw_below_drewN | apply below_drew1) | exact HB.out)) hb); clear HO853; clear HO856; clear HO860; clear HO863; clear HB; have HO853 := n0_; have HO856 := n1_; have HO860 := n2_; have HO863 := n3_; have HB := n4_; clear n0_ n1_ n2_ n3_ n4_; (try clear hb); (try clear hb2); (try clear hk); (try clear hi)))
            go_ret
            exact ⟨by first | rfl | (simp [errW_none, errW_some] <;> rfl) | (simp [*, errW_none, errW_some] <;> rfl), by repeat (first | (with_reducible first | exact HB.out | apply below_alloc | apply pw_below_drewN | apply below_drew1) | exact HB.out)⟩
          · replace c20 := Bool.eq_false_iff.mpr c20
            subst c20
            have H1 : (none) = some r := by rw [if_neg (show ¬ (false = true) by decide)] at H; exact H
            clear H
            have H := H1
            clear H1
            exact absurd H (by simp)
        · replace c16 := Bool.eq_false_iff.mpr c16
          subst c16
          have H1 : (none) = some r := by rw [if_neg (show ¬ (false = true) by decide)] at H; exact H
          clear H
          have H := H1
          clear H1
          exact absurd H (by simp)
      · rw [if_neg c12] at H
        exact absurd H (by simp)
    · rw [if_neg c9] at H
      exact absurd H (by simp)
end Go.Proofs.Ytdcelpppgbmlaaa.P
