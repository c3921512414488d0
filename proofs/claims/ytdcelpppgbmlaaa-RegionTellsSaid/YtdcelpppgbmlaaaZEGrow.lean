/- slices.Grow and slices.Concat at []Rect, as region.each calls them. -/
import Derived.Test.YtdcelpppgbmlaaaZP0
import Derived.Test.YtdcelpppgbmlaaaZERows
namespace Go.Proofs.Ytdcelpppgbmlaaa.P
open Go.RowKit Go.Sort Go.Shelf Go.Proofs.YtdcelpppgbmlaaaW.PrintWords Go.Proofs.YtdcelpppgbmlaaaW.PrintLast Go.Proofs.YtdcelpppgbmlaaaW.PrintMore
theorem R_cut0 {α : Type} {d : Kd α} {e base : Nat} {ok : Nat → Prop} {w : World} {A : Option Addr} {n c : Nat} {xs : List α} (h : d.R e w base ok (.slice A n c) xs) : d.R e w base ok (.slice A 0 c) [] := by
  obtain ⟨h0, inner, ho, hr⟩ := h
  refine ⟨fun k hk => h0 k (by cases A with
    | none => simp [Value.ownBlock] at hk
    | some a => simpa [Value.ownBlock] using hk), [], ?_, ?_⟩
  · rcases ho.2 with ⟨hv, _⟩ | ⟨g, cap, cur, hv, r1, r2, r3, r4, r5, r6⟩
    · injection hv with e1 e2 e3
      subst e1; subst e2; subst e3
      exact own_nil _ _ _ _
    · injection hv with e1 e2 e3
      subst e1; subst e3
      exact ⟨by simp, .inr ⟨g, c, cur, rfl, r1, r2, Nat.zero_le _, r4, r5, by simp⟩⟩
  · exact Reps.none _ _
set_option maxHeartbeats 8000000 in
set_option maxRecDepth 100000 in
theorem grow_nil (n : Int) (h0 : 0 ≤ n) (hb : n < 4398046511104) (w : World) :
    Calls Try.prog 233 #[.slice none 0 0, .int .i64 n] w fun e w' => ∃ v, e = .returned v ∧ Kd.R k41 41 w' w.heap.size (fun _ => True) v [] ∧ Below w.heap.size w w' := by
  have hu58 := Try.underlying58
  have hu3 := Try.underlying3
  have hz : k41.M w w.heap.size (fun _ => False) (⟨⟨0, 0⟩, ⟨0, 0⟩⟩ : S41) [.int .i64 0, .int .i64 0, .int .i64 0, .int .i64 0] := k41_mkM _ _ _ _
  go_enter Try.func233, Try.ntmps233
  go_wp2_with (first | (at_builtin; refine Kd.R_append_zeros k41 w.heap.size rfl _ _ 58 3 41 (.agg #[.int .i64 0, .int .i64 0, .int .i64 0, .int .i64 0]) 32 rfl hu58 hu3 info41 rfl (by decide) (by decide) _ [] (⟨⟨0, 0⟩, ⟨0, 0⟩⟩ : S41) n (fun _ => True) rfl rfl hz (fun _ _ => trivial) (Kd.R_nil _ _ _ _ _) h0 (Below.refl _ _) (Nat.le_refl _) ?hl ?_; (case hl => simp; omega); intro v1 w1 HR HB1 hg hat; obtain ⟨A1, c1, e1⟩ := Kd.R_slice HR; subst e1))
  · go_ret
    exact ⟨_, rfl, R_cut0 HR, HB1⟩
  · go_ret
    exact ⟨_, rfl, Kd.R_nil _ _ _ _ _, Below.refl _ _⟩
set_option maxHeartbeats 8000000 in
set_option maxRecDepth 100000 in
theorem concat2 (w : World) (g : Nat) (A0 A1 : Option Addr) (c0 c1 : Nat) (l0 l1 : List S41) (hg : w.heap[g]? = some (.cells #[.slice A0 l0.length c0, .slice A1 l1.length c1] 58 (0, 0)))
    (hr0 : Kd.C k41 w A0 l0.length l0) (hr1 : Kd.C k41 w A1 l1.length l1) (hb : l0.length + l1.length < 4398046511104) :
    Calls Try.prog 215 #[.slice (some ⟨g, 0, none⟩) 2 2] w fun e w' => ∃ v, e = .returned v ∧ Kd.R k41 41 w' w.heap.size (fun _ => True) v (l0 ++ l1) ∧ Below w.heap.size w w' := by
  have hu58 := Try.underlying58
  have hglt : g < w.heap.size := (Array.getElem?_eq_some_iff.1 hg).1
  go_enter Try.func215, Try.ntmps215
  go_wp2_with (fail)
  go_loopw [3, 11] (fun s i wr => Below w.heap.size w wr ∧ ((i = .int .i64 0 ∧ s = .int .i64 0) ∨ (i = .int .i64 1 ∧ s = .int .i64 (l0.length : Int)) ∨ (i = .int .i64 2 ∧ s = .int .i64 ((l0.length : Int) + (l1.length : Int)))))
    (fun _ i _ => 2 - (intOf i).toNat)
  case atStart => exact ⟨Below.refl _ _, .inl ⟨rfl, rfl⟩⟩
  case round =>
    obtain ⟨hB, hrel⟩ := hrel
    have hgr := (hB.block g hglt).trans hg
    have hc0 : wr.cell? ⟨g, 0, none⟩ = some (.slice A0 l0.length c0) := (blk_cell hgr 0).trans rfl
    have hc1 : wr.cell? ⟨g, 1, none⟩ = some (.slice A1 l1.length c1) := (blk_cell hgr 1).trans rfl
    rcases hrel with ⟨rfl, rfl⟩ | ⟨rfl, rfl⟩ | ⟨rfl, rfl⟩
    · go_wp2_with (fail)
      exact ⟨⟨hB, .inr (.inl ⟨rfl, rfl⟩)⟩, by simp [intOf]⟩
    · go_wp2_with (fail)
      exact ⟨⟨hB, .inr (.inr ⟨rfl, rfl⟩)⟩, by simp [intOf]⟩
    · go_wp2_with (first | (go_at_call 233; refine (grow_nil _ (by omega) (by omega) _).mono ?_; rintro e w1 ⟨v, rfl, HR, HB1⟩))
      have HR' := Kd.R_lower HR hB.size
      have HB' : Below w.heap.size w w1 := below_step hB HB1
      clear HR HB1 hc0 hc1 hgr
      go_loopw [6, 27] (fun v i wr => Below w.heap.size w wr ∧ ((i = .int .i64 0 ∧ Kd.R k41 41 wr w.heap.size (fun _ => True) v []) ∨ (i = .int .i64 1 ∧ Kd.R k41 41 wr w.heap.size (fun _ => True) v l0) ∨ (i = .int .i64 2 ∧ Kd.R k41 41 wr w.heap.size (fun _ => True) v (l0 ++ l1))))
        (fun _ i _ => 2 - (intOf i).toNat)
      case atStart => exact ⟨HB', .inl ⟨rfl, HR'⟩⟩
      case round =>
        obtain ⟨hB2, hrel⟩ := hrel
        have hgr := (hB2.block g hglt).trans hg
        have hc0 : wr.cell? ⟨g, 0, none⟩ = some (.slice A0 l0.length c0) := (blk_cell hgr 0).trans rfl
        have hc1 : wr.cell? ⟨g, 1, none⟩ = some (.slice A1 l1.length c1) := (blk_cell hgr 1).trans rfl
        have hKM : ∀ (x : S41) (cs : List Value), k41.K wr x cs → k41.M wr w.heap.size (fun _ => False) x cs := fun x cs h => by rw [k41_open h]; exact k41_mkM _ _ _ _
        have hr0' := Kd.C_below hr0 hB2
        have hr1' := Kd.C_below hr1 hB2
        rcases hrel with ⟨rfl, HR2⟩ | ⟨rfl, HR2⟩ | ⟨rfl, HR2⟩
        · go_wp2_with (first | (at_builtin; refine Kd.R_append_rows k41 (w0 := w) w.heap.size rfl (.tmp 31) (.tmp 32) 58 41 (.agg #[.int .i64 0, .int .i64 0, .int .i64 0, .int .i64 0]) 32 rfl hu58 info41 rfl (by decide) (by omega) _ [] l0 _ _ _ (fun _ => True) (fun _ => False) rfl rfl HR2 hr0' hKM (fun _ h => h.elim) (fun _ _ => trivial) hB2 hB2.size (by simp; omega) ?_; intro v1 w2 HR3 HB3 hg3 hat3))
          exact ⟨⟨HB3, .inr (.inl ⟨rfl, HR3⟩)⟩, by simp [intOf]⟩
        · go_wp2_with (first | (at_builtin; refine Kd.R_append_rows k41 (w0 := w) w.heap.size rfl (.tmp 31) (.tmp 32) 58 41 (.agg #[.int .i64 0, .int .i64 0, .int .i64 0, .int .i64 0]) 32 rfl hu58 info41 rfl (by decide) (by omega) _ l0 l1 _ _ _ (fun _ => True) (fun _ => False) rfl rfl HR2 hr1' hKM (fun _ h => h.elim) (fun _ _ => trivial) hB2 hB2.size (by omega) ?_; intro v1 w2 HR3 HB3 hg3 hat3))
          exact ⟨⟨HB3, .inr (.inr ⟨rfl, HR3⟩)⟩, by simp [intOf]⟩
        · go_wp2_with (fail)
          go_ret
          exact ⟨_, rfl, HR2, hB2⟩
end Go.Proofs.Ytdcelpppgbmlaaa.P
