-- WRITTEN BY wip/gen.py (the kit's print with contracts put in that are proved by hand). Lean checks it.
import Derived.Test.YtdcelpppgbmlaaaTP0
import Derived.Test.YtdcelpppgbmlaaaTPLaw03a
import Derived.Test.YtdcelpppgbmlaaaTPRef03
import Derived.Test.YtdcelpppgbmlaaaTPRef03c
import Derived.Test.YtdcelpppgbmlaaaTPSpanc
import Derived.Test.YtdcelpppgbmlaaaTPSpand
namespace Go.Proofs.Ytdcelpppgbmlaaa.P
open Go.RowKit Go.Proofs.YtdcelpppgbmlaaaW.PrintWords Go.Proofs.YtdcelpppgbmlaaaW.PrintLast Go.Proofs.YtdcelpppgbmlaaaW.PrintMore
attribute [local go_sem] max2_int min2_int max_two min_two max_three min_three max_four min_four   -- for this text's walks alone
set_option linter.unusedVariables false
set_option linter.unusedSimpArgs false
def bitemporallaw03_SpanTells.f (k : Nat) (l0 : List (S33)) (a1 : Int) : Option (Bool) := if (l0.length : Int) > 30 then ((bitemporallaw03_awake.f k).bind fun t623 => (some t623)) else ((span_Next.f k l0 a1).bind fun bt624 => ((bitemporalref03_Next.f k l0 a1).bind fun bt626 => ((span_Valid.f k l0).bind fun t628 => ((bitemporalref03_Valid.f k l0).bind fun t629 => (if (t628 == t629) = true then ((span_Contains.f k l0 a1).bind fun t630 => ((bitemporalref03_Contains.f k l0 a1).bind fun t631 => (if (t630 == t631) = true then (if bt624.1 = bt626.1 then (if (bt624.2 == bt626.2) = true then ((bitemporallaw03_awake.f k).bind fun t632 => (some t632)) else (none)) else (none)) else (none)))) else (none))))))
set_option maxHeartbeats 8000000 in
set_option maxRecDepth 100000 in
theorem bitemporallaw03_SpanTells.calls (k : Nat) (A0 : Option Addr) (c0 : Nat) (l0 : List (S33)) (a1 : Int) (r : Bool) (w : World) (hr0 : Kd.C k33 w A0 l0.length l0) (hc0 : l0.length ≤ c0) (h : bitemporallaw03_SpanTells.f k l0 a1 = some r) :
    Calls Try.prog 10 #[.slice A0 l0.length c0, .int .i64 a1] w fun e w' => e = .returned (.bool r) ∧ Below w.heap.size w w' := by
  have HR0 := Aside0.mk hr0
  have HC0 := Aside0.mk hc0
  clear hr0 hc0
  have HB := Aside0.mk (Below.refl w.heap.size w)
  have H : (if (l0.length : Int) > 30 then ((bitemporallaw03_awake.f k).bind fun t623 => (some t623)) else ((span_Next.f k l0 a1).bind fun bt624 => ((bitemporalref03_Next.f k l0 a1).bind fun bt626 => ((span_Valid.f k l0).bind fun t628 => ((bitemporalref03_Valid.f k l0).bind fun t629 => (if (t628 == t629) = true then ((span_Contains.f k l0 a1).bind fun t630 => ((bitemporalref03_Contains.f k l0 a1).bind fun t631 => (if (t630 == t631) = true then (if bt624.1 = bt626.1 then (if (bt624.2 == bt626.2) = true then ((bitemporallaw03_awake.f k).bind fun t632 => (some t632)) else (none)) else (none)) else (none)))) else (none))))))) = some r := h
  clear h
  by_cases c3 : (l0.length : Int) > 30
  · rw [if_pos c3] at H
    have c3b0 : decide (30 < (l0.length : Int)) = true := decide_eq_true c3
    have c3b1 : decide (30 < l0.length) = true := decide_eq_true (by omega)
    clear c3
    replace H := Option.bind_eq_some_iff.mp H
    obtain ⟨t623, A40, H⟩ := H
    replace H : (some t623) = some r := H
    have A4 := Aside0.mk A40
    clear A40
    obtain rfl := Option.some.inj H
    go_enter Try.func10, Try.ntmps10
    go_wp2_with (first | ((with_reducible refine gate_callee (f := 26) rfl ?_); refine goesL_ (some 12) rfl rfl Try.func26 (by kernel_rfl) rfl #[] rfl (by (try simp only [List.map_toArray, List.map_cons, List.map_nil]); first | done | rfl | (simp only [List.length_drop, List.length_take]; rfl)) ?_; (with_reducible refine (bitemporallaw03_awake.calls k  t623 _ A4.out).mono ?_); rintro e w5 ⟨rfl, hb⟩; refine ⟨_, rfl, ?_⟩; have n0_ := Aside0.mk (below_step (by repeat (first | (with_reducible first | exact HB.out | apply below_alloc | apply pw_below_drewN | apply below_drew1) | exact HB.out)) hb); clear HB; have HB := n0_; clear n0_; (try clear hb); (try clear hb2); (try clear hk); (try clear hi)))
    go_ret
    exact ⟨by first | rfl | (simp [errW_none, errW_some] <;> rfl) | (simp [*, errW_none, errW_some] <;> rfl), by repeat (first | (with_reducible first | exact HB.out | apply below_alloc | apply pw_below_drewN | apply below_drew1) | exact HB.out)⟩
  · rw [if_neg c3] at H
    have c3b0 : decide (30 < (l0.length : Int)) = false := decide_eq_false c3
    have c3b1 : decide (30 < l0.length) = false := decide_eq_false (by omega)
    clear c3
    replace H := Option.bind_eq_some_iff.mp H
    obtain ⟨⟨t624, t625⟩, A60, H⟩ := H
    replace H : ((bitemporalref03_Next.f k l0 a1).bind fun bt626 => ((span_Valid.f k l0).bind fun t628 => ((bitemporalref03_Valid.f k l0).bind fun t629 => (if (t628 == t629) = true then ((span_Contains.f k l0 a1).bind fun t630 => ((bitemporalref03_Contains.f k l0 a1).bind fun t631 => (if (t630 == t631) = true then (if t624 = bt626.1 then (if (t625 == bt626.2) = true then ((bitemporallaw03_awake.f k).bind fun t632 => (some t632)) else (none)) else (none)) else (none)))) else (none))))) = some r := H
    have A6 := Aside0.mk A60
    clear A60
    replace H := Option.bind_eq_some_iff.mp H
    obtain ⟨⟨t626, t627⟩, A70, H⟩ := H
    replace H : ((span_Valid.f k l0).bind fun t628 => ((bitemporalref03_Valid.f k l0).bind fun t629 => (if (t628 == t629) = true then ((span_Contains.f k l0 a1).bind fun t630 => ((bitemporalref03_Contains.f k l0 a1).bind fun t631 => (if (t630 == t631) = true then (if t624 = t626 then (if (t625 == t627) = true then ((bitemporallaw03_awake.f k).bind fun t632 => (some t632)) else (none)) else (none)) else (none)))) else (none)))) = some r := H
    have A7 := Aside0.mk A70
    clear A70
    replace H := Option.bind_eq_some_iff.mp H
    obtain ⟨t628, A80, H⟩ := H
    replace H : ((bitemporalref03_Valid.f k l0).bind fun t629 => (if (t628 == t629) = true then ((span_Contains.f k l0 a1).bind fun t630 => ((bitemporalref03_Contains.f k l0 a1).bind fun t631 => (if (t630 == t631) = true then (if t624 = t626 then (if (t625 == t627) = true then ((bitemporallaw03_awake.f k).bind fun t632 => (some t632)) else (none)) else (none)) else (none)))) else (none))) = some r := H
    have A8 := Aside0.mk A80
    clear A80
    replace H := Option.bind_eq_some_iff.mp H
    obtain ⟨t629, A90, H⟩ := H
    replace H : (if (t628 == t629) = true then ((span_Contains.f k l0 a1).bind fun t630 => ((bitemporalref03_Contains.f k l0 a1).bind fun t631 => (if (t630 == t631) = true then (if t624 = t626 then (if (t625 == t627) = true then ((bitemporallaw03_awake.f k).bind fun t632 => (some t632)) else (none)) else (none)) else (none)))) else (none)) = some r := H
    have A9 := Aside0.mk A90
    clear A90
    by_cases c10 : (t628 == t629) = true
    · rw [if_pos c10] at H
      have c10b0 : (t628 == t629) = true := c10
      (try (have c10b0z : t628 = t629 := by simpa using c10b0))
      (try (have c10b1 : decide (t628 = t629) = true := by simpa using c10))
      (try (have c10b2 : (t628 == t629) = true := by simpa using c10))
      clear c10
      replace H := Option.bind_eq_some_iff.mp H
      obtain ⟨t630, A110, H⟩ := H
      replace H : ((bitemporalref03_Contains.f k l0 a1).bind fun t631 => (if (t630 == t631) = true then (if t624 = t626 then (if (t625 == t627) = true then ((bitemporallaw03_awake.f k).bind fun t632 => (some t632)) else (none)) else (none)) else (none))) = some r := H
      have A11 := Aside0.mk A110
      clear A110
      replace H := Option.bind_eq_some_iff.mp H
      obtain ⟨t631, A120, H⟩ := H
      replace H : (if (t630 == t631) = true then (if t624 = t626 then (if (t625 == t627) = true then ((bitemporallaw03_awake.f k).bind fun t632 => (some t632)) else (none)) else (none)) else (none)) = some r := H
      have A12 := Aside0.mk A120
      clear A120
      by_cases c13 : (t630 == t631) = true
      · rw [if_pos c13] at H
        have c13b0 : (t630 == t631) = true := c13
        (try (have c13b0z : t630 = t631 := by simpa using c13b0))
        (try (have c13b1 : decide (t630 = t631) = true := by simpa using c13))
        (try (have c13b2 : (t630 == t631) = true := by simpa using c13))
        clear c13
        by_cases c14 : t624 = t626
        · rw [if_pos c14] at H
          have c14b0 : (t624 == t626) = true := beq_iff_eq.mpr c14
          (try (have c14b0z : t624 = t626 := by simpa using c14b0))
          have c14b1 : (t624 != t626) = false := bne_eq_false_iff_eq.mpr c14
          clear c14
          by_cases c15 : (t625 == t627) = true
          · rw [if_pos c15] at H
            have c15b0 : (t625 == t627) = true := c15
            (try (have c15b0z : t625 = t627 := by simpa using c15b0))
            (try (have c15b1 : decide (t625 = t627) = true := by simpa using c15))
            (try (have c15b2 : (t625 == t627) = true := by simpa using c15))
            clear c15
            replace H := Option.bind_eq_some_iff.mp H
            obtain ⟨t632, A160, H⟩ := H
            replace H : (some t632) = some r := H
            have A16 := Aside0.mk A160
            clear A160
            obtain rfl := Option.some.inj H
            go_enter Try.func10, Try.ntmps10
            go_wp2_with (first | ((with_reducible refine gate_callee (f := 62) rfl ?_); refine goesL_ (some 16) rfl rfl Try.func62 (by kernel_rfl) rfl #[.slice A0 l0.length c0, .int .i64 a1] rfl (by (try simp only [List.map_toArray, List.map_cons, List.map_nil]); first | done | rfl | (simp only [List.length_drop, List.length_take]; rfl)) ?_; (with_reducible refine (span_Next.calls k _ _ l0 a1 t624 t625 _ ?side1 ?side2 A6.out).mono ?_); (case side1 => repeat (first | exact HR0.out | (with_reducible refine Kd.C_alloc ?_ _) | (with_reducible refine Kd.C_drewN ?_ _) | (with_reducible refine Kd.C_drew ?_))); (case side2 => exact HC0.out); rintro e w17 ⟨rfl, hb⟩; refine ⟨_, rfl, ?_⟩; have n0_ := Aside0.mk (below_step (by repeat (first | (with_reducible first | exact HB.out | apply below_alloc | apply pw_below_drewN | apply below_drew1) | exact HB.out)) hb); clear HB; have HB := n0_; clear n0_; (try clear hb); (try clear hb2); (try clear hk); (try clear hi)) | ((with_reducible refine gate_callee (f := 63) rfl ?_); refine goesL_ (some 22) rfl rfl Try.func63 (by kernel_rfl) rfl #[.slice A0 l0.length c0, .int .i64 a1] rfl (by (try simp only [List.map_toArray, List.map_cons, List.map_nil]); first | done | rfl | (simp only [List.length_drop, List.length_take]; rfl)) ?_; (with_reducible refine (bitemporalref03_Next.calls k _ _ l0 a1 t626 t627 _ ?side1 ?side2 A7.out).mono ?_); (case side1 => repeat (first | exact (Kd.C_below HR0.out HB.out) | (with_reducible refine Kd.C_alloc ?_ _) | (with_reducible refine Kd.C_drewN ?_ _) | (with_reducible refine Kd.C_drew ?_))); (case side2 => exact HC0.out); rintro e w18 ⟨rfl, hb⟩; refine ⟨_, rfl, ?_⟩; have n0_ := Aside0.mk (below_step (by repeat (first | (with_reducible first | exact HB.out | apply below_alloc | apply pw_below_drewN | apply below_drew1) | exact HB.out)) hb); clear HB; have HB := n0_; clear n0_; (try clear hb); (try clear hb2); (try clear hk); (try clear hi)) | ((with_reducible refine gate_callee (f := 64) rfl ?_); refine goesL_ (some 26) rfl rfl Try.func64 (by kernel_rfl) rfl #[.slice A0 l0.length c0] rfl (by (try simp only [List.map_toArray, List.map_cons, List.map_nil]); first | done | rfl | (simp only [List.length_drop, List.length_take]; rfl)) ?_; (with_reducible refine (span_Valid.calls k _ _ l0 t628 _ ?side1 ?side2 A8.out).mono ?_); (case side1 => repeat (first | exact (Kd.C_below HR0.out HB.out) | (with_reducible refine Kd.C_alloc ?_ _) | (with_reducible refine Kd.C_drewN ?_ _) | (with_reducible refine Kd.C_drew ?_))); (case side2 => exact HC0.out); rintro e w19 ⟨rfl, hb⟩; refine ⟨_, rfl, ?_⟩; have n0_ := Aside0.mk (below_step (by repeat (first | (with_reducible first | exact HB.out | apply below_alloc | apply pw_below_drewN | apply below_drew1) | exact HB.out)) hb); clear HB; have HB := n0_; clear n0_; (try clear hb); (try clear hb2); (try clear hk); (try clear hi)) | ((with_reducible refine gate_callee (f := 51) rfl ?_); refine goesL_ (some 28) rfl rfl Try.func51 (by kernel_rfl) rfl #[.slice A0 l0.length c0] rfl (by (try simp only [List.map_toArray, List.map_cons, List.map_nil]); first | done | rfl | (simp only [List.length_drop, List.length_take]; rfl)) ?_; (with_reducible refine (bitemporalref03_Valid.calls k _ _ l0 t629 _ ?side1 ?side2 A9.out).mono ?_); (case side1 => repeat (first | exact (Kd.C_below HR0.out HB.out) | (with_reducible refine Kd.C_alloc ?_ _) | (with_reducible refine Kd.C_drewN ?_ _) | (with_reducible refine Kd.C_drew ?_))); (case side2 => exact HC0.out); rintro e w20 ⟨rfl, hb⟩; refine ⟨_, rfl, ?_⟩; have n0_ := Aside0.mk (below_step (by repeat (first | (with_reducible first | exact HB.out | apply below_alloc | apply pw_below_drewN | apply below_drew1) | exact HB.out)) hb); clear HB; have HB := n0_; clear n0_; (try clear hb); (try clear hb2); (try clear hk); (try clear hi)) | (go_at_call 52; (with_reducible refine (span_Contains.calls k _ _ l0 a1 t630 _ ?side1 ?side2 A11.out).mono ?_); (case side1 => repeat (first | exact (Kd.C_below HR0.out HB.out) | (with_reducible refine Kd.C_alloc ?_ _) | (with_reducible refine Kd.C_drewN ?_ _) | (with_reducible refine Kd.C_drew ?_))); (case side2 => exact HC0.out); rintro e w21 ⟨rfl, hb⟩; have n0_ := Aside0.mk (below_step (by repeat (first | (with_reducible first | exact HB.out | apply below_alloc | apply pw_below_drewN | apply below_drew1) | exact HB.out)) hb); clear HB; have HB := n0_; clear n0_; (try clear hb); (try clear hb2); (try clear hk); (try clear hi)) | (go_at_call 50; (with_reducible refine (bitemporalref03_Contains.calls k _ _ l0 a1 t631 _ ?side1 ?side2 A12.out).mono ?_); (case side1 => repeat (first | exact (Kd.C_below HR0.out HB.out) | (with_reducible refine Kd.C_alloc ?_ _) | (with_reducible refine Kd.C_drewN ?_ _) | (with_reducible refine Kd.C_drew ?_))); (case side2 => exact HC0.out); rintro e w22 ⟨rfl, hb⟩; have n0_ := Aside0.mk (below_step (by repeat (first | (with_reducible first | exact HB.out | apply below_alloc | apply pw_below_drewN | apply below_drew1) | exact HB.out)) hb); clear HB; have HB := n0_; clear n0_; (try clear hb); (try clear hb2); (try clear hk); (try clear hi)) | (go_at_call 26; (with_reducible refine (bitemporallaw03_awake.calls k  t632 _ A16.out).mono ?_); rintro e w23 ⟨rfl, hb⟩; have n0_ := Aside0.mk (below_step (by repeat (first | (with_reducible first | exact HB.out | apply below_alloc | apply pw_below_drewN | apply below_drew1) | exact HB.out)) hb); clear HB; have HB := n0_; clear n0_; (try clear hb); (try clear hb2); (try clear hk); (try clear hi)))
            go_ret
            exact ⟨by first | rfl | (simp [errW_none, errW_some] <;> rfl) | (simp [*, errW_none, errW_some] <;> rfl), by repeat (first | (with_reducible first | exact HB.out | apply below_alloc | apply pw_below_drewN | apply below_drew1) | exact HB.out)⟩
          · rw [if_neg c15] at H
            exact absurd H (by simp)
        · rw [if_neg c14] at H
          exact absurd H (by simp)
      · rw [if_neg c13] at H
        exact absurd H (by simp)
    · rw [if_neg c10] at H
      exact absurd H (by simp)
end Go.Proofs.Ytdcelpppgbmlaaa.P
