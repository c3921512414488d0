/- slices.Clone at boxes: a copy of the row. No condition. -/
import Derived.Test.YtdcelpppgbmlaaaSP0
import Derived.Test.YtdcelpppgbmlaaaSMAll
import Derived.Laws.Cover3
namespace Go.Proofs.Ytdcelpppgbmlaaa.P
open Go.RowKit Go.Proofs.YtdcelpppgbmlaaaW.PrintWords Go.Proofs.YtdcelpppgbmlaaaW.PrintLast Go.Proofs.YtdcelpppgbmlaaaW.PrintMore
set_option linter.unusedSimpArgs false
set_option linter.unusedVariables false
theorem row0 {α : Type} (d : Kd α) (e : Nat) (w : World) (b0 : Nat) (hb : b0 ≤ w.heap.size) : d.R e (w.alloc (.cells #[] e)) b0 (fun _ => True) (.slice (some ⟨w.heap.size, 0, none⟩) 0 0) [] :=
  ⟨fun _ _ => trivial, [], ⟨by simp, .inr ⟨w.heap.size, 0, #[], rfl, hb, blk_new w _, Nat.le_refl _, Nat.zero_le _, by simp, by simp⟩⟩, Reps.none _ _⟩
set_option maxHeartbeats 2000000 in
set_option maxRecDepth 100000 in
theorem cloneBox (P0 : Nat → Prop) (ad : Addr) (c0 : Nat) (l : List S51) (hl : l.length < 1000000) (hne : l ≠ []) (w : World) (hr0 : Kd.C k51 w (some ad) l.length l) :
    Calls Try.prog 123 #[.slice (some ad) l.length c0] w fun e w' => ∃ v, e = .returned v ∧ Kd.R k51 51 w' w.heap.size (fun _ => True) v l ∧ Below w.heap.size w w' := by
  have hu39 := Try.underlying39
  have heq : ∀ w, Sem.run Try.prog (binOp .eql 39 (.slice (some ad) l.length c0) (.slice none 0 0)) w = .ok (.bool false) w := fun w => by
    have := run_equal_slice_nil (P := Try.prog) w 39 51 (some ad) l.length c0 hu39
    simp [go_sem, binOp, this]
  have hr1 := Aside0.mk (Kd.C_below hr0 (below_alloc (Below.refl _ _) (.cells #[] 51)))
  have hKM : ∀ (x : S51) (cs : List Value), k51.K (w.alloc (.cells #[] 51)) x cs → k51.M (w.alloc (.cells #[] 51)) w.heap.size (fun _ => False) x cs := fun x cs h => by rw [k51_open h]; exact k51_mkM _ _ _ _
  have HKM := Aside0.mk hKM
  have HR := Aside0.mk (row0 k51 51 w w.heap.size (Nat.le_refl _))
  have HB := Aside0.mk (below_alloc (Below.refl w.heap.size w) (.cells #[] 51))
  have HL := Aside0.mk (show (([] : List S51).length + l.length) * 40 ≤ 140737488355328 by simp; omega)
  clear hr0 hKM
  go_enter Try.func123, Try.ntmps123
  go_wp2_with (at_builtin; refine Kd.R_append_rows k51 (w0 := w) w.heap.size rfl (.tmp 5) (.tmp 6) 39 51 (.agg #[.int .i64 0, .int .i64 0, .int .i64 0, .int .i64 0, .int .i64 0]) 40 rfl hu39 info51 rfl (by decide) (by decide) _ [] l _ _ _ (fun _ => True) (fun _ => False) rfl rfl HR.out hr1.out HKM.out (fun _ h => h.elim) (fun _ _ => trivial) HB.out HB.out.size HL.out ?_; intro v1 w2 HR3 HB3 hg3 hat3; obtain ⟨A1, c1, e1⟩ := Kd.R_slice HR3; subst e1)
  go_ret
  exact ⟨_, rfl, HR3, HB3⟩
end Go.Proofs.Ytdcelpppgbmlaaa.P
