/- region.each: the visits, one for each period between neighboring bounds. -/
import Derived.Test.YtdcelpppgbmlaaaXEGrow
import Derived.Test.YtdcelpppgbmlaaaXPRegion
import Derived.Test.YtdcelpppgbmlaaaXPSpanb
namespace Go.Proofs.Ytdcelpppgbmlaaa.P
open Go.RowKit Go.Sort Go.Shelf Go.Proofs.YtdcelpppgbmlaaaW.PrintWords Go.Proofs.YtdcelpppgbmlaaaW.PrintLast Go.Proofs.YtdcelpppgbmlaaaW.PrintMore
def sysB (r : S41) : Bool := decide ((0 ≤ r.f0.f0 ∧ r.f0.f0 < r.f0.f1 ∧ r.f0.f1 ≤ 1099511627776) ∧ (0 ≤ r.f1.f0 ∧ r.f1.f0 < r.f1.f1 ∧ r.f1.f1 ≤ 1099511627776))
def sysOf (l : List S41) : List S33 := (l.filter sysB).map (·.f1)
theorem period_valid_of (a b : Int) : period_Valid.f a b = some (decide (0 ≤ a ∧ a < b ∧ b ≤ 1099511627776)) := by
  unfold period_Valid.f
  by_cases h0 : a ≥ 0
  · by_cases h1 : a < b
    · rw [if_pos h0, if_pos h1]
      congr 1
      simp [h0, h1]
    · rw [if_pos h0, if_neg h1]
      simp [h1]
  · rw [if_neg h0]
    have : ¬ 0 ≤ a := h0
    simp [this]
theorem region_valid_of (r : S41) : region_valid.f r.f0.f0 r.f0.f1 r.f1.f0 r.f1.f1 = some (sysB r) := by
  unfold region_valid.f sysB
  rw [period_valid_of, period_valid_of, Option.bind_some, Option.bind_some]
  by_cases a : (0 ≤ r.f0.f0 ∧ r.f0.f0 < r.f0.f1 ∧ r.f0.f1 ≤ 1099511627776)
  · simp [a]
  · simp only [a, decide_false, false_and, Bool.false_eq_true, if_false]
theorem sysOf_take (l : List S41) (i : Nat) (h : i < l.length) : sysOf (l.take (i + 1)) = sysOf (l.take i) ++ (if sysB l[i] then [l[i].f1] else []) := by
  unfold sysOf
  rw [List.take_succ_eq_append_getElem h, List.filter_append, List.map_append]
  congr 1
  by_cases c : sysB l[i] <;> simp [c]
theorem sysOf_length (l : List S41) : (sysOf l).length ≤ l.length := by
  unfold sysOf
  rw [List.length_map]
  exact List.length_filter_le _ _
theorem rd33' (l : List S33) (i : Nat) (h : i < l.length) : rd_T33 l (i : Int) = l[i] := by simp [rd_T33, List.getD_eq_getElem?_getD, List.getElem?_eq_getElem h]
set_option maxHeartbeats 8000000 in
set_option maxRecDepth 100000 in
theorem each_calls (k : Nat) (w : World) (A0 A1 : Option Addr) (c0 c1 : Nat) (la lb : List S41) (hr0 : Kd.C k41 w A0 la.length la) (hr1 : Kd.C k41 w A1 lb.length lb) (hsz : la.length + lb.length < 1000000000)
    (ps : List S33) (hps : span_Slices.f k (sysOf (la ++ lb)) = some ps) (gV : Nat) (caps : Array Value) (n1 : Nat) (hn1 : n1 ≤ w.heap.size)
    (I : Nat → World → (Nat → Prop) → Prop) (F0 : Nat → Prop) (hI0 : I 0 w F0) (hF0 : ∀ b, F0 b → b < w.heap.size)
    (hIm : ∀ i W W' F, I i W F → Below W.heap.size W W' → I i W' F)
    (hpl : ps.length < 9223372036854775807) (hgo : ∀ (as_ : Array Value) (W_ : World), (callFunc gV as_).run Try.prog W_ = .ok (.enter gV as_) W_)
    (hIv : ∀ i (h : i < ps.length) W F, I i W F → (∀ b, F b → b < W.heap.size) → Calls Try.prog gV (#[.agg #[.int .i64 ps[i].f0, .int .i64 ps[i].f1]] ++ caps) W fun e W' => e = .returned (.tuple #[]) ∧
      ∃ F', I (i + 1) W' F' ∧ (∀ b, F' b → (F b ∨ W.heap.size ≤ b) ∧ b < W'.heap.size) ∧ (∀ b, b < W.heap.size → ¬ F b → W'.heap[b]? = W.heap[b]?) ∧ Below n1 W W') :
    Calls Try.prog 170 #[.slice A0 la.length c0, .slice A1 lb.length c1, .func (.func gV) #[] caps] w fun e w' => e = .returned (.tuple #[]) ∧ ∃ F', I ps.length w' F' ∧ Below n1 w w' := by
  have hu58 := Try.underlying58
  have hu22 := Try.underlying22
  have ha : (w.alloc (.cells #[.slice A0 la.length c0, .slice A1 lb.length c1] 58)).heap[w.heap.size]? = some (.cells #[.slice A0 la.length c0, .slice A1 lb.length c1] 58 (0, 0)) := by simpa using heap_alloc_new w _
  have hb0 : Below w.heap.size w (w.alloc (.cells #[.slice A0 la.length c0, .slice A1 lb.length c1] 58)) := below_alloc (Below.refl _ _) _
  have hr0' := Kd.C_below hr0 hb0
  have hr1' := Kd.C_below hr1 hb0
  go_enter Try.func170, Try.ntmps170
  go_wp2_with (first | (go_at_call 215; refine (concat2 _ w.heap.size A0 A1 c0 c1 la lb ha hr0' hr1' (by omega)).mono ?_; rintro e w1 ⟨v, rfl, HR, HB1⟩; obtain ⟨A14, c14, rfl, hc14, hC14⟩ := Kd.R_reads HR))
  have hBw : Below w.heap.size w w1 := below_step hb0 HB1
  clear HR HB1 ha hr0' hr1'
  go_loopw [6, 16] (fun v i wr => ∃ j : Nat, j ≤ (la ++ lb).length ∧ i = .int .i64 j ∧ Kd.R k33 33 wr w1.heap.size (fun _ => True) v (sysOf ((la ++ lb).take j)) ∧ Below w1.heap.size w1 wr)
    (fun _ i _ => (la ++ lb).length - (intOf i).toNat)
  case atStart => exact ⟨0, Nat.zero_le _, rfl, Kd.R_nil _ _ _ _ _, Below.refl _ _⟩
  case round =>
    obtain ⟨j, hj, rfl, HR6, hB1⟩ := hrel
    rcases Nat.lt_or_ge j (la ++ lb).length with hlt | hge
    · obtain ⟨ad, e, hx0, hx1, hx2, hx3⟩ := at_T41 hC14 (j : Int) (by omega) (by omega)
      cases e
      replace hx0 := (hB1.cell (World.block_lt_of_cell? w1 _ hx0)).trans hx0
      replace hx1 := (hB1.cell (World.block_lt_of_cell? w1 _ hx1)).trans hx1
      replace hx2 := (hB1.cell (World.block_lt_of_cell? w1 _ hx2)).trans hx2
      replace hx3 := (hB1.cell (World.block_lt_of_cell? w1 _ hx3)).trans hx3
      have hrd : rd_T41 (la ++ lb) (j : Int) = (la ++ lb)[j] := by simp [rd_T41, List.getD_eq_getElem?_getD, List.getElem?_eq_getElem hlt]
      rw [hrd] at hx0 hx1 hx2 hx3
      rw [Int.toNat_natCast] at hx0 hx1 hx2 hx3
      generalize hq : (la ++ lb)[j] = q at hx0 hx1 hx2 hx3
      have hbx : Below wr.heap.size wr (wr.alloc (.cells #[.int .i64 q.f0.f0, .int .i64 q.f0.f1, .int .i64 q.f1.f0, .int .i64 q.f1.f1] 41)) := below_alloc (Below.refl _ _) _
      have hnew : (wr.alloc (.cells #[.int .i64 q.f0.f0, .int .i64 q.f0.f1, .int .i64 q.f1.f0, .int .i64 q.f1.f1] 41)).heap[wr.heap.size]? = some (.cells #[.int .i64 q.f0.f0, .int .i64 q.f0.f1, .int .i64 q.f1.f0, .int .i64 q.f1.f1] 41 (0, 0)) := by simpa using heap_alloc_new wr _
      have hlen := sysOf_length ((la ++ lb).take j)
      rw [List.length_take] at hlen
      simp only [List.length_append] at hlen hlt
      have hst := sysOf_take (la ++ lb) j (by simpa using hlt)
      rw [hq] at hst
      cases hsb : sysB q with
      | true =>
        rw [hsb] at hst
        simp only [if_true] at hst
        go_wp2_with (first
          | (go_at_call 134; refine (region_valid.calls q.f0.f0 q.f0.f1 q.f1.f0 q.f1.f1 true _ (by rw [region_valid_of, hsb])).mono ?_; rintro e w2 ⟨rfl, hb2⟩
             have hb3 := below_step hbx hb2
             have HR7 := Kd.R_below HR6 hb3
             have hB2 := below_step hB1 hb3
             have hw2 := (hb2.block wr.heap.size (by simp)).trans hnew
             have hy2 : w2.cell? ⟨wr.heap.size, 2, none⟩ = some (.int .i64 q.f1.f0) := (blk_cell hw2 2).trans rfl
             have hy3 : w2.cell? ⟨wr.heap.size, 3, none⟩ = some (.int .i64 q.f1.f1) := (blk_cell hw2 3).trans rfl
             clear hb2 hb3)
          | (at_builtin; refine Kd.R_append k33 (w0 := w1) w1.heap.size rfl (.tmp 22) (.tmp 25) 22 33 (.agg #[.int .i64 0, .int .i64 0]) 16 rfl hu22 info33 rfl (by decide) (by omega) _ _ q.f1 [.int .i64 q.f1.f0, .int .i64 q.f1.f1] (fun _ => True) (fun _ => False) rfl rfl (k33_mkM _ _ _ q.f1) (fun _ hk => hk.elim) (fun _ _ => trivial) HR7 hB2 hB2.size (by omega) ?_; intro v1 w3 HR8 hB3 hg3 hat3))
        refine ⟨⟨j + 1, by simp; omega, rfl, ?_, hB3⟩, ?_⟩
        · rw [hst]; exact HR8
        · simp [intOf]; omega
      | false =>
        rw [hsb] at hst
        simp only [Bool.false_eq_true, if_false, List.append_nil] at hst
        go_wp2_with (first
          | (go_at_call 134; refine (region_valid.calls q.f0.f0 q.f0.f1 q.f1.f0 q.f1.f1 false _ (by rw [region_valid_of, hsb])).mono ?_; rintro e w2 ⟨rfl, hb2⟩
             have hb3 := below_step hbx hb2
             have HR7 := Kd.R_below HR6 hb3
             have hB2 := below_step hB1 hb3
             clear hb2 hb3))
        refine ⟨⟨j + 1, by simp; omega, rfl, ?_, hB2⟩, ?_⟩
        · rw [hst]; exact HR7
        · simp [intOf]; omega
    · simp only [List.length_append] at hj hge
      have hjn : j = la.length + lb.length := by omega
      subst hjn
      rw [List.take_of_length_le (by simp)] at HR6
      obtain ⟨A6, c6, rfl, hc6, hC6⟩ := Kd.R_reads HR6
      go_wp2_with (first
        | (go_at_call 35; refine (span_Slices.calls k _ _ (sysOf (la ++ lb)) ps _ hC6 hc6 hps).mono ?_; rintro e w2 ⟨v29, rfl, HR9, hb2⟩; obtain ⟨A29, c29, e29, hc29, hC29⟩ := Kd.R_reads HR9; subst e29))
      have hBv : Below w.heap.size w w2 := below_step (below_step hBw hB1) hb2
      have hB0 : Below n1 w w2 := hBv.mono hn1
      have hI2 := hIm 0 w w2 F0 hI0 hBv
      have hF2 : ∀ b, F0 b → b < w2.heap.size := fun b hb => Nat.lt_of_lt_of_le (hF0 b hb) hBv.size
      have hwr : w.heap.size ≤ wr.heap.size := Nat.le_trans hBw.size hB1.size
      have HR10 : Kd.R k33 33 w2 wr.heap.size (fun b => ¬ F0 b) (.slice A29 ps.length c29) ps := Kd.R_mono (Kd.R_bound HR9) (fun b hb hF => by have := hF0 b hF; omega)
      clear HR9 hC29 HR6 hB1 hb2 hBv
      generalize wr.heap.size = nb at HR10 hwr
      go_loopw [31] (fun i W => ∃ m : Nat, m ≤ ps.length ∧ i = .int .i64 m ∧ ∃ F, I m W F ∧ (∀ b, F b → b < W.heap.size) ∧ Kd.R k33 33 W nb (fun b => ¬ F b) (.slice A29 ps.length c29) ps ∧ Below n1 w W)
        (fun i _ => ps.length - (intOf i).toNat)
      case atStart => exact ⟨0, Nat.zero_le _, rfl, F0, hI2, hF2, HR10, hB0⟩
      case round =>
        obtain ⟨m, hm, rfl, F, hI, hF, HR, hBn⟩ := hrel
        rcases Nat.lt_or_ge m ps.length with hlt | hge
        · obtain ⟨A', c', e', _, hC'⟩ := Kd.R_reads HR
          injection e' with e1 e2 e3
          subst e1; subst e3
          obtain ⟨ad, e, hx0, hx1⟩ := at_T33 hC' (m : Int) (by omega) (by omega)
          cases e
          rw [rd33' ps m hlt, Int.toNat_natCast] at hx0 hx1
          have hv := hIv m hlt
          generalize ps[m] = p at hx0 hx1 hv
          go_wp2_with (first | (go_at_fn gV; refine (hv _ F (hIm _ _ _ _ hI (below_alloc (Below.refl _ _) _)) (fun b hb => Nat.lt_of_lt_of_le (hF b hb) (by simp))).mono ?_; rintro e w3 ⟨rfl, F', hI', hF', hK', hB'⟩))
          have hb1 : Below wr.heap.size wr (wr.alloc (.cells #[.int .i64 p.f0, .int .i64 p.f1] 33)) := below_alloc (Below.refl _ _) _
          have HR1 := Kd.R_bound (Kd.R_below HR hb1)
          have HR2 := Kd.R_mono (Kd.R_move HR1 (w1 := w3) (fun b hb => hK' b hb.2.2.1 hb.1)) (ok' := fun b => ¬ F' b) (fun b hb hFb => by
            rcases (hF' b hFb).1 with h | h
            · exact hb.1 h
            · have := hb.2.2.1; omega)
          refine ⟨⟨m + 1, hlt, rfl, F', hI', fun b hb => (hF' b hb).2, HR2, ?_⟩, ?_⟩
          · exact hBn.trans ((hb1.mono (Nat.le_trans hn1 hBn.size)).trans hB')
          · simp [intOf]; omega
        · have hmn : m = ps.length := by omega
          subst hmn
          go_wp2_with (fail)
          go_end0
          exact ⟨rfl, F, hI, hBn⟩
end Go.Proofs.Ytdcelpppgbmlaaa.P
