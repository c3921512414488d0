/- region.Valid. -/
import Derived.Test.YtdcelpppgbmlaaaZEComb
import Derived.Test.YtdcelpppgbmlaaaZPEq1
namespace Go.Proofs.Ytdcelpppgbmlaaa.P
set_option linter.unusedSimpArgs false
set_option linter.unusedVariables false
open Go.RowKit Go.Sort Go.Shelf Go.Proofs.YtdcelpppgbmlaaaW.PrintWords Go.Proofs.YtdcelpppgbmlaaaW.PrintLast Go.Proofs.YtdcelpppgbmlaaaW.PrintMore
attribute [local go_sem high] eqA41
instance decS33 : DecidableEq S33 := fun a b => decidable_of_iff (a.f0 = b.f0 ∧ a.f1 = b.f1) (by cases a; cases b; simp)
instance decS41 : DecidableEq S41 := fun a b => decidable_of_iff (a.f0 = b.f0 ∧ a.f1 = b.f1) (by cases a; cases b; simp)
def region_Valid.f (k : Nat) (l0 : List S41) : Option Bool := (region_Of.f k l0).bind fun x => if l0.length < 9223372036854775807 then some (decide (x = l0)) else none
theorem rd41' (l : List S41) (i : Nat) (h : i < l.length) : rd_T41 l (i : Int) = l[i] := by simp [rd_T41, List.getD_eq_getElem?_getD, List.getElem?_eq_getElem h]
set_option maxHeartbeats 8000000 in
set_option maxRecDepth 100000 in
theorem region_Valid.calls (k : Nat) (A0 : Option Addr) (c0 : Nat) (l0 : List (S41)) (r : Bool) (w : World) (hr0 : Kd.C k41 w A0 l0.length l0) (hc0 : l0.length ≤ c0) (h : region_Valid.f k l0 = some r) :
    Calls Try.prog 79 #[.slice A0 l0.length c0] w fun e w' => e = .returned (.bool r) ∧ Below w.heap.size w w' := by
  have hu58 := Try.underlying58
  obtain ⟨x, hx, h⟩ := Option.bind_eq_some_iff.mp h
  split at h
  · rename_i hlen
    injection h with h
    go_enter Try.func79, Try.ntmps79
    go_wp2_with (first | (go_at_call 73; refine (region_Of.calls k _ _ l0 x _ hr0 hc0 hx).mono ?_; rintro e w1 ⟨v, rfl, HR, HB⟩; obtain ⟨A3, c3, rfl, hc3, hC3⟩ := Kd.R_reads HR))
    · have hne : x ≠ l0 := fun e => by simp_all
      go_ret
      rw [decide_eq_false hne] at h
      subst h
      exact ⟨rfl, HB⟩
    · have hC0 := Kd.C_below hr0 HB
      have hxl : x.length = l0.length := by
        have h1 : ((x.length : Int) != (l0.length : Int)) = false := by assumption
        have := bne_eq_false_iff_eq.mp h1
        omega
      go_loopw [15] (fun i wr => ∃ j : Nat, j ≤ l0.length ∧ i = .int .i64 j ∧ (∀ m (h1 : m < l0.length), m < j → x[m]'(by omega) = l0[m]) ∧ Below w1.heap.size w1 wr) (fun i _ => l0.length - (intOf i).toNat)
      case atStart => exact ⟨0, Nat.zero_le _, rfl, fun m _ hm => absurd hm (by omega), Below.refl _ _⟩
      case round =>
        obtain ⟨j, hj, rfl, hall, hB1⟩ := hrel
        rcases Nat.lt_or_ge j l0.length with hlt | hge
        · obtain ⟨ad0, e, hx0, hx1, hx2, hx3⟩ := at_T41 hC0 (j : Int) (by omega) (by omega)
          cases e
          obtain ⟨ad3, e, hy0, hy1, hy2, hy3⟩ := at_T41 hC3 (j : Int) (by omega) (by omega)
          cases e
          rw [rd41' l0 j hlt, Int.toNat_natCast] at hx0 hx1 hx2 hx3
          rw [rd41' x j (by omega), Int.toNat_natCast] at hy0 hy1 hy2 hy3
          replace hx0 := (hB1.cell (World.block_lt_of_cell? w1 _ hx0)).trans hx0
          replace hx1 := (hB1.cell (World.block_lt_of_cell? w1 _ hx1)).trans hx1
          replace hx2 := (hB1.cell (World.block_lt_of_cell? w1 _ hx2)).trans hx2
          replace hx3 := (hB1.cell (World.block_lt_of_cell? w1 _ hx3)).trans hx3
          replace hy0 := (hB1.cell (World.block_lt_of_cell? w1 _ hy0)).trans hy0
          replace hy1 := (hB1.cell (World.block_lt_of_cell? w1 _ hy1)).trans hy1
          replace hy2 := (hB1.cell (World.block_lt_of_cell? w1 _ hy2)).trans hy2
          replace hy3 := (hB1.cell (World.block_lt_of_cell? w1 _ hy3)).trans hy3
          have hxj : j < x.length := by omega
          have hstep : x[j]'hxj = l0[j] → ∀ m (h1 : m < l0.length), m < j + 1 → x[m]'(by omega) = l0[m] := fun he m h1 h2 => by
            rcases Nat.lt_or_ge m j with c | c
            · exact hall m h1 c
            · have : m = j := by omega
              subst this; exact he
          have hdiff : x[j]'hxj ≠ l0[j] → x ≠ l0 := fun hne he => hne (by subst he; rfl)
          generalize l0[j] = q at hx0 hx1 hx2 hx3 hstep hdiff
          generalize x[j]'hxj = y at hy0 hy1 hy2 hy3 hstep hdiff
          have hbx : Below wr.heap.size wr (wr.alloc (.cells #[.int .i64 q.f0.f0, .int .i64 q.f0.f1, .int .i64 q.f1.f0, .int .i64 q.f1.f1] 41)) := below_alloc (Below.refl _ _) _
          have hnew : (wr.alloc (.cells #[.int .i64 q.f0.f0, .int .i64 q.f0.f1, .int .i64 q.f1.f0, .int .i64 q.f1.f1] 41)).heap[wr.heap.size]? = some (.cells #[.int .i64 q.f0.f0, .int .i64 q.f0.f1, .int .i64 q.f1.f0, .int .i64 q.f1.f1] 41 (0, 0)) := by simpa using heap_alloc_new wr _
          go_wp2_with (fail)
          have hB2 := below_step hB1 hbx
          generalize (wr.alloc (.cells #[.int .i64 q.f0.f0, .int .i64 q.f0.f1, .int .i64 q.f1.f0, .int .i64 q.f1.f1] 41)) = W2 at hbx hnew hB2 ⊢
          have g0 : W2.drew.cell? ⟨wr.heap.size, 0, none⟩ = some (.int .i64 q.f0.f0) := (blk_cell hnew 0).trans rfl
          have g1 : W2.drew.cell? ⟨wr.heap.size, 1, none⟩ = some (.int .i64 q.f0.f1) := (blk_cell hnew 1).trans rfl
          have g2 : W2.drew.cell? ⟨wr.heap.size, 2, none⟩ = some (.int .i64 q.f1.f0) := (blk_cell hnew 2).trans rfl
          have g3 : W2.drew.cell? ⟨wr.heap.size, 3, none⟩ = some (.int .i64 q.f1.f1) := (blk_cell hnew 3).trans rfl
          have g4 := (hbx.cell (World.block_lt_of_cell? wr _ hy0)).trans hy0
          have g5 := (hbx.cell (World.block_lt_of_cell? wr _ hy1)).trans hy1
          have g6 := (hbx.cell (World.block_lt_of_cell? wr _ hy2)).trans hy2
          have g7 := (hbx.cell (World.block_lt_of_cell? wr _ hy3)).trans hy3
          refine start_ (n := 6) (S := fun w' => w'.cell? ⟨wr.heap.size, 0, none⟩ = some (.int .i64 q.f0.f0) ∧ w'.cell? ⟨wr.heap.size, 1, none⟩ = some (.int .i64 q.f0.f1) ∧ w'.cell? ⟨wr.heap.size, 2, none⟩ = some (.int .i64 q.f1.f0) ∧ w'.cell? ⟨wr.heap.size, 3, none⟩ = some (.int .i64 q.f1.f1) ∧ w'.cell? (ad3.add (j * 4)) = some (.int .i64 y.f0.f0) ∧ w'.cell? ⟨(ad3.add (j * 4)).block, (ad3.add (j * 4)).off + 1, none⟩ = some (.int .i64 y.f0.f1) ∧ w'.cell? ⟨(ad3.add (j * 4)).block, (ad3.add (j * 4)).off + 2, none⟩ = some (.int .i64 y.f1.f0) ∧ w'.cell? ⟨(ad3.add (j * 4)).block, (ad3.add (j * 4)).off + 3, none⟩ = some (.int .i64 y.f1.f1)) (ds := []) #[false, false, false, false, false, false] (by kernel_rfl) rfl rfl ⟨g0, g1, g2, g3, g4, g5, g6, g7⟩ (fun hHeld => ?_)
          refine pure_ (i := 1) (N := some 21) (v := ?_) (a' := ?_) #[false, true, false, false, false, false] rfl rfl (by kernel_rfl) (fun _ _ _ h => h) (Or.inl ⟨by rfl, ?_⟩) ?_ ?_
          rotate_left
          · intro w'
            go_simp
            with_reducible rfl
          rotate_left
          · simp only [Act.put, List.setIfInBounds_toArray, List.set_cons_zero, List.set_cons_succ, i64_w, i32_w]
            rfl
          refine pure_ (i := 2) (N := some 22) (v := ?_) (a' := ?_) #[false, true, true, false, false, false] rfl rfl (by kernel_rfl) (fun _ _ _ h => h) (Or.inl ⟨by rfl, ?_⟩) ?_ ?_
          rotate_left
          · intro w'
            go_simp
            with_reducible rfl
          rotate_left
          · simp only [Act.put, List.setIfInBounds_toArray, List.set_cons_zero, List.set_cons_succ, i64_w, i32_w]
            rfl
          refine pure_ (i := 3) (N := some 23) (v := ?_) (a' := ?_) #[false, true, true, true, false, false] rfl rfl (by kernel_rfl) (fun _ _ _ h => h) (Or.inl ⟨by rfl, ?_⟩) ?_ ?_
          rotate_left
          · intro w'
            go_simp
            with_reducible rfl
          rotate_left
          · simp only [Act.put, List.setIfInBounds_toArray, List.set_cons_zero, List.set_cons_succ, i64_w, i32_w]
            rfl
          refine take_ (i := 0) (N := some 20) (v := ?_) (a' := ?_) #[true, true, true, true, false, false] rfl rfl (by kernel_rfl) (fun _ _ _ h => h) (Or.inl ⟨by rfl, ?_⟩) hHeld ?_ ?_
          rotate_left
          · rintro w' ⟨s0, s1, s2, s3, s4, s5, s6, s7⟩
            go_simp
            with_reducible rfl
          rotate_left
          · simp only [Act.put, List.setIfInBounds_toArray, List.set_cons_zero, List.set_cons_succ, i64_w, i32_w]
            rfl
          refine take_ (i := 4) (N := some 24) (v := ?_) (a' := ?_) #[true, true, true, true, true, false] rfl rfl (by kernel_rfl) (fun _ _ _ h => h) (Or.inl ⟨by rfl, ?_⟩) hHeld ?_ ?_
          rotate_left
          · rintro w' ⟨s0, s1, s2, s3, s4, s5, s6, s7⟩
            go_simp
            with_reducible rfl
          rotate_left
          · simp only [Act.put, List.setIfInBounds_toArray, List.set_cons_zero, List.set_cons_succ, i64_w, i32_w]
            rfl
          refine pure_ (i := 5) (N := some 25) (v := ?_) (a' := ?_) #[true, true, true, true, true, true] rfl rfl (by kernel_rfl) (fun _ _ _ h => h) (Or.inl ⟨by rfl, ?_⟩) ?_ ?_
          rotate_left
          · intro w'
            go_simp
            with_reducible rfl
          rotate_left
          · simp only [Act.put, List.setIfInBounds_toArray, List.set_cons_zero, List.set_cons_succ, i64_w, i32_w]
            rfl
          refine done_ (by kernel_rfl) ?_
          have hB3 : Below w1.heap.size w1 W2.drew := below_drew1 hB2
          by_cases hqy : y = q
          · subst hqy
            go_wp2_with (fail)
            · exfalso
              rename_i hb
              simp at hb
            · refine ⟨⟨j + 1, hlt, rfl, fun m h1 h2 => hstep rfl m h1 h2, hB3⟩, ?_⟩
              simp [intOf]; omega
          · have hqe : q.f0.f0 = y.f0.f0 → q.f0.f1 = y.f0.f1 → q.f1.f0 = y.f1.f0 → q.f1.f1 = y.f1.f1 → y = q := fun a b c d => by
              cases y with | mk y0 y1 => cases q with | mk q0 q1 => cases y0; cases y1; cases q0; cases q1; simp_all
            go_wp2_with (fail)
            · go_ret
              rw [decide_eq_false (hdiff hqy)] at h
              subst h
              exact ⟨rfl, below_step HB hB3⟩
            · exfalso
              rename_i hb
              simp only [Bool.not_eq_false', Bool.or_eq_false_iff, beq_iff_eq] at hb
              exact hqy (hqe hb.1.1 hb.1.2 hb.2.1 hb.2.2)
        · have hjl : j = l0.length := by omega
          subst hjl
          have hxx : x = l0 := List.ext_getElem hxl fun m h1 h2 => hall m h2 h2
          go_wp2_with (fail)
          go_ret
          rw [decide_eq_true hxx] at h
          subst h
          exact ⟨rfl, below_step HB hB1⟩
  · cases h
end Go.Proofs.Ytdcelpppgbmlaaa.P
