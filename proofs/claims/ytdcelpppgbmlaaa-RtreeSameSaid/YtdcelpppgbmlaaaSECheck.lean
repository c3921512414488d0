/- rtree.check: a set of numbers in a map of bools. No condition. -/
import Derived.Maps.OwnOps
import Derived.Maps.Views
import Derived.Test.YtdcelpppgbmlaaaSMSweep
import Derived.Test.YtdcelpppgbmlaaaSMAll
import Derived.Test.YtdcelpppgbmlaaaSPRtree
import Derived.Test.YtdcelpppgbmlaaaSEPack
namespace Go
open Go.Maps (Keyed)
theorem plainElem_bool_inv' {H : Type} {P : Program} {e : TypeId} (he : P.underlying e = some .bool) {v : Value} {z : DataW H × List MemPlace} (h : plainElem P e v = some z) : ∃ x, v = .bool x ∧ z = (.lit (.bool x), []) := by
  unfold plainElem at h
  rw [he] at h
  cases v <;> simp at h
  exact ⟨_, rfl, h.symm⟩
theorem wpList_lookup_own_bool {H : Type} {P : Program} (w : World) {ops : Array Oper} {rest : List Oper} {o : Oper} {a : Act} {Q : Exit → Act → World → Prop}
    (hg : o.guard = none) (m x : Operand) (t : TypeId) (hop : o.op = Op.lookup t m x false)
    (k e : TypeId) (K : Keyed P k) (ht : P.underlying t = some (.map k e)) (he : P.underlying e = some .bool) (hz : (zeroValue e).run P w = .ok (.bool false) w) (b n : Nat) (D : DataW H)
    (hm : a.eval m = .map (some b)) (hown : w.ownsMap P k (plainElem P e) b n D) (key : Value) (kl : Lit) (hx : a.eval x = key) (hkey : keyOf P k key = some kl)
    (hK : ∀ c : Bool, D.atKey kl (.lit (.bool false)) = .lit (.bool c) → wpList P ops Q rest (a.put o.dst (.bool c)) w) :
    wpList P ops Q (o :: rest) a w := by
  refine wpList_plain hg fun K' hK' => ?_
  obtain ⟨v, ps, hrun, hv⟩ := hown.lookup K ht hz (plainElem_bool he false) hkey
  obtain ⟨c, rfl, hc⟩ := plainElem_bool_inv' he hv
  simp only [Prod.mk.injEq] at hc
  unfold Oper.wp
  simp [execOp, hop, hm, hx, hrun, Result.andThen]
  exact hK' _ _ (hK c hc.1)
end Go
namespace Go.Proofs.Ytdcelpppgbmlaaa.P
open Go.RowKit Go.Shelf Go.Proofs.YtdcelpppgbmlaaaW.PrintWords
open Go.Maps (Keyed)
set_option linter.unusedSimpArgs false
set_option linter.unusedVariables false
theorem ownsMap_at {H : Type} {P : Program} {k : TypeId} {R : Value → Option (DataW H × List MemPlace)} {w w' : World} {b n : Nat} {D : DataW H} (h : w.ownsMap P k R b n D) (he : w'.heap[b]? = w.heap[b]?) : w'.ownsMap P k R b n D := by
  obtain ⟨es, clock, hb, r⟩ := h
  exact ⟨es, clock, he.trans hb, r⟩
def seenD (l : List Int) : DataW Unit := l.foldl (fun D k => D.put (.int .i64 k) (.lit (.bool true))) (.map [])
theorem seenD_snoc (l : List Int) (x : Int) : seenD (l ++ [x]) = (seenD l).put (.int .i64 x) (.lit (.bool true)) := by unfold seenD; rw [List.foldl_append]; rfl
theorem seenD_map (l : List Int) : ∃ es, seenD l = .map es := by
  have : ∀ (l : List Int) (D : DataW Unit), (∃ es, D = .map es) → ∃ es, l.foldl (fun D k => D.put (.int .i64 k) (.lit (.bool true))) D = .map es := by
    intro l
    induction l with
    | nil => intro D h; exact h
    | cons x l ih => rintro D ⟨es, rfl⟩; exact ih _ ⟨_, rfl⟩
  exact this l _ ⟨[], rfl⟩
theorem seenD_rev (m : List Int) : ∀ (k : Int), (seenD m.reverse).atKey (.int .i64 k) (.lit (.bool false)) = .lit (.bool (decide (k ∈ m))) := by
  induction m with
  | nil => intro k; rfl
  | cons x m ih =>
    intro k
    rw [List.reverse_cons, seenD_snoc]
    by_cases h : k = x
    · subst h
      rw [Go.Maps.atKey_put_same (seenD_map _) (by trivial)]
      simp
    · rw [Go.Maps.atKey_put_other (by intro e; injection e with _ e; exact h e), ih]
      simp [h]
theorem seenD_at (l : List Int) (k : Int) : (seenD l).atKey (.int .i64 k) (.lit (.bool false)) = .lit (.bool (decide (k ∈ l))) := by
  have := seenD_rev l.reverse k
  rw [List.reverse_reverse] at this
  rw [this]
  simp
instance (r : S41) : Decidable (SndR r) := by unfold SndR; infer_instance
def checkP : List Int → List S51 → Int
  | _, [] => 0
  | seen, x :: l => if SndR x.f0 then (if x.f1 ∈ seen then 10 else checkP (seen ++ [x.f1]) l) else 8
theorem rvalid_eq (r : S41) : rtree_valid.f r.f0.f0 r.f0.f1 r.f1.f0 r.f1.f1 = some (decide (SndR r)) := by
  unfold rtree_valid.f SndR
  rw [pvalid_eq, pvalid_eq]
  by_cases h : Vld r.f0 <;> simp [h]
theorem law3' : Keyed Try.prog 3 := Go.Maps.int_keyed Try.underlying3
theorem zero4' (w : World) : (zeroValue 4).run Try.prog w = .ok (.bool false) w := by kernel_rfl
set_option maxRecDepth 100000 in
set_option maxHeartbeats 2000000 in
theorem rtree_check.calls (P0 : Nat → Prop) (A0 : Option Addr) (c0 : Nat) (l : List S51) (hl : l.length < 1000000) (hwf : ∀ b ∈ l, (Lit.int .i64 b.f1).wf = true) (w : World) (hr0 : Kd.F k51 w P0 A0 l.length l) (hc0 : l.length ≤ c0) :
    Calls Try.prog 122 #[.slice A0 l.length c0] w fun e w' => e = .returned (.int .i64 (checkP [] l)) ∧ Below w.heap.size w w' := by
  have hmm := @run_makeMap Try.prog
  replace hr0 := Aside0.mk hr0
  replace hwf := Aside0.mk hwf
  go_enter Try.func122, Try.ntmps122
  go_wp2_with (fail)
  go_loopw [9] (fun i wr => ∃ n : Nat, n ≤ l.length ∧ i = .int .i64 n ∧ Aside0 (wr.ownsMap Try.prog 3 (plainElem Try.prog 4) w.heap.size n (seenD ((l.take n).map (·.f1)))) ∧ Aside0 (checkP ((l.take n).map (·.f1)) (l.drop n) = checkP [] l) ∧ Aside0 (Below w.heap.size w wr)) (fun i _ => l.length - (intOf i).toNat)
  case atStart => exact ⟨0, Nat.zero_le _, rfl, ⟨World.ownsMap_made _ _ _ _⟩, ⟨rfl⟩, ⟨(Below.refl _ _).alloc (Nat.le_refl _) _⟩⟩
  case round =>
    obtain ⟨n, hn, rfl, hM, hC, hB⟩ := hrel
    by_cases hlt : n < l.length
    · have hlt' : (n : Int) < (l.length : Int) := by omega
      obtain ⟨ad, rfl, x0, x1, x2, x3, x4⟩ := at_T51 (Kd.F_now (Kd.F_below hr0.out hB.out)) (n : Int) (by omega) hlt'
      rw [rd51r l n hlt] at x0 x1 x2 x3 x4
      have HQ := Aside0.mk (show (Lit.int .i64 (l[n]).f1).wf = true from hwf.out _ (List.getElem_mem hlt))
      have HD := Aside0.mk (show l.drop n = l[n] :: l.drop (n + 1) from List.drop_eq_getElem_cons hlt)
      have HT := Aside0.mk (show (l.take (n + 1)).map (·.f1) = (l.take n).map (·.f1) ++ [(l[n]).f1] by rw [List.take_succ_eq_append_getElem hlt, List.map_append]; rfl)
      generalize l[n] = q at x0 x1 x2 x3 x4 HQ HD HT
      simp only [Int.toNat_natCast] at x0 x1 x2 x3 x4
      have HR := Aside0.mk (rvalid_eq q.f0)
      have hnm : n < maxLen := by unfold maxLen; omega
      have HM := hM
      rw [HD.out, checkP] at hC
      have hAt := seenD_at ((l.take n).map (·.f1)) q.f1
      have HAT := Aside0.mk hAt
      clear hAt hM
      by_cases hs : SndR q.f0
      · have hrv : rtree_valid.f q.f0.f0.f0 q.f0.f0.f1 q.f0.f1.f0 q.f0.f1.f1 = some true := by rw [HR.out]; simp [hs]
        have HRV := Aside0.mk hrv
        have HS := Aside0.mk hs
        clear hrv hs
        rw [if_pos HS.out] at hC
        go_wp2_with (first
          | (go_at_call 160; refine (rtree_valid.calls _ _ _ _ _ _ HRV.out).mono ?_; rintro e w3 ⟨rfl, hB3⟩; have hX : w3.heap[wr.heap.size]? = some (.cells #[.int .i64 q.f0.f0.f0, .int .i64 q.f0.f0.f1, .int .i64 q.f0.f1.f0, .int .i64 q.f0.f1.f1, .int .i64 q.f1] 51 (0, 0)) := blk_below (blk_new wr _) hB3; have x9 : w3.cell? ⟨wr.heap.size, 4, none⟩ = some (.int .i64 q.f1) := (blk_cell hX 4).trans rfl; have HB3 := Aside0.mk hB3; have HM3 := Aside0.mk (ownsMap_at (HM.out.alloc (.cells #[.int .i64 q.f0.f0.f0, .int .i64 q.f0.f0.f1, .int .i64 q.f0.f1.f0, .int .i64 q.f0.f1.f1, .int .i64 q.f1] 51)) (hB3.block _ (by have := HM.out.lt; simp; omega))); clear hX hB3)
          | (at_lookup; refine wpList_lookup_own_bool _ rfl _ _ 173 rfl 3 4 law3' Try.underlying173 Try.underlying4 (zero4' _) w.heap.size n _ rfl HM3.out _ _ rfl (Go.Maps.keyOf_int_mk Try.underlying3 HQ.out) ?_; intro c hat; have HA := Aside0.mk hat; clear hat)
          | (at_mapUpdate; refine wpList_mapUpdate_own _ rfl _ _ _ 173 rfl 3 4 law3' Try.underlying173 _ w.heap.size n _ rfl HM3.out hnm _ _ _ rfl rfl (Go.Maps.keyOf_int_mk Try.underlying3 HQ.out) _ [] (plainElem_bool Try.underlying4 _) ?_; intro w1 hown1 hgrow1; have HO1 := Aside0.mk hown1; have HG1 := Aside0.mk hgrow1; clear hown1 hgrow1)
          | fail)
        · have hc : true = decide (q.f1 ∈ (l.take n).map (·.f1)) := by
            have h := HA.out.symm.trans HAT.out
            injection h with h
            injection h with h
            exact (by assumption : _ = true).symm.trans h
          go_ret
          have hm := of_decide_eq_true hc.symm
          rw [if_pos hm] at hC
          exact ⟨by rw [← hC.out]; rfl, hB.out.trans (((Below.refl _ _).alloc (Nat.le_refl _) _ |>.mono hB.out.size).trans (HB3.out.mono (by have := hB.out.size; simp; omega)))⟩
        · have hc : false = decide (q.f1 ∈ (l.take n).map (·.f1)) := by
            have h := HA.out.symm.trans HAT.out
            injection h with h
            injection h with h
            exact (show c = false by first | assumption | exact Bool.eq_false_iff.2 (by assumption)).symm.trans h
          have hm := of_decide_eq_false hc.symm
          rw [if_neg hm] at hC
          have hBw : Below w.heap.size w w3 := hB.out.trans (((Below.refl _ _).alloc (Nat.le_refl _) _ |>.mono hB.out.size).trans (HB3.out.mono (by have := hB.out.size; simp; omega)))
          refine ⟨⟨n + 1, by omega, by rw [Int.natCast_add]; rfl, ⟨?_⟩, ⟨?_⟩, ⟨hBw.grown HG1.out hBw.size (fun j hj => by cases hj; exact Nat.le_refl _)⟩⟩, by simp only [intOf]; omega⟩
          · rw [HT.out, seenD_snoc]
            exact HO1.out
          · rw [HT.out]
            exact hC.out
      · have hrv : rtree_valid.f q.f0.f0.f0 q.f0.f0.f1 q.f0.f1.f0 q.f0.f1.f1 = some false := by rw [HR.out]; simp [hs]
        have HRV := Aside0.mk hrv
        have HS := Aside0.mk hs
        clear hrv hs
        rw [if_neg HS.out] at hC
        go_wp2_with (go_at_call 160; refine (rtree_valid.calls _ _ _ _ _ _ HRV.out).mono ?_; rintro e w3 ⟨rfl, hB3⟩; have HB3 := Aside0.mk hB3; clear hB3)
        go_ret
        exact ⟨by rw [← hC.out]; rfl, hB.out.trans (((Below.refl _ _).alloc (Nat.le_refl _) _ |>.mono hB.out.size).trans (HB3.out.mono (by have := hB.out.size; simp; omega)))⟩
    · have hlt' : ¬ (n : Int) < (l.length : Int) := by omega
      go_wp2_with (fail)
      go_ret
      have := hC.out
      rw [List.drop_of_length_le (by omega)] at this
      exact ⟨by rw [← this]; rfl, hB.out⟩
end Go.Proofs.Ytdcelpppgbmlaaa.P
