/- The example that the laws of package bitemporallaw31 end with answers true. No condition. -/
import Derived.Test.YtdcelpppgbmlaaaSERBuild
import Derived.Test.YtdcelpppgbmlaaaSETree
import Derived.Test.YtdcelpppgbmlaaaSMEv31
import Derived.Test.YtdcelpppgbmlaaaSEExam
import Derived.Test.YtdcelpppgbmlaaaSPEq1
namespace Go.Proofs.Ytdcelpppgbmlaaa.P
open Go.RowKit Go.Shelf Go.Proofs.YtdcelpppgbmlaaaW.PrintWords Go.Proofs.YtdcelpppgbmlaaaW.PrintLast Go.Proofs.YtdcelpppgbmlaaaW.PrintMore
set_option linter.unusedSimpArgs false
set_option linter.unusedVariables false
theorem lit_C {α : Type} (d : Kd α) (e : Nat) (W : World) (xs : List α) (inner : List Value) (hm : xs.length ≤ 9223372036854775807) (hr : Reps (d.M W W.heap.size (fun _ => False)) d.sz xs inner) :
    Kd.C d (W.alloc (.cells inner.toArray e)) (some ⟨W.heap.size, 0, none⟩) xs.length xs := by
  have hR : Kd.R d e (W.alloc (.cells inner.toArray e)) W.heap.size (fun _ => True) (.slice (some ⟨W.heap.size, 0, none⟩) xs.length xs.length) xs := by
    refine ⟨fun _ _ => trivial, OwnRow.lit W W.heap.size (hr.imp_ fun x c h => ?_) (Nat.le_refl _) hm⟩
    exact d.M_mono (fun k hk => hk.1.elim) (d.M_move (fun k hk => hk.1.elim) (d.M_bound h))
  exact (Kd.R_reads' hR).2.2
theorem ints_calls (A0 : Option Addr) (c0 : Nat) (l0 : List Int) (A1 : Option Addr) (c1 : Nat) (l1 : List Int) (w : World) (hl : l0.length < 1000000000000) (hr0 : Kd.C (Kd.int .i64) w A0 l0.length l0) (hc0 : l0.length ≤ c0) (hr1 : Kd.C (Kd.int .i64) w A1 l1.length l1) (hc1 : l1.length ≤ c1) :
    Calls Try.prog 91 #[.slice A0 l0.length c0, .slice A1 l1.length c1] w fun e w' => e = .returned (.bool (decide (l0 = l1))) ∧ Below w.heap.size w w' := by
  obtain ⟨k, hk⟩ := (ints_ev l0 l1 hl).rounds
  refine (L31_ints.calls k A0 c0 l0 A1 c1 l1 _ w hr0 hc0 hr1 hc1 hk).mono ?_
  rintro e w' ⟨rfl, hd⟩
  exact ⟨rfl, hd.below⟩
theorem Fine.good {l : List S51} {T : RT} (h : Fine l T) : GoodT l.length T := fun d x e => by
  by_cases hn : l = []
  · rw [(h.nil hn).1] at e; cases e
  · obtain ⟨d', x', e', _, e2, e3, _⟩ := h.root hn
    rw [e] at e'
    cases e'
    exact ⟨e2, boxmax_of e2 (by rw [e3, (orderedP_law l).2.length_eq]; exact Nat.le_refl _)⟩
theorem Fine.visits {l : List S51} {T : RT} (h : Fine l T) (r : S41) : rtVisits T r ≤ (l.length + 1) * l.length := by
  unfold rtVisits
  cases e : rtRoot T with
  | none => exact Nat.zero_le _
  | some x =>
    show (if SndR r then visitsOf r x.1 x.2 else 0) ≤ _
    split
    · exact h.visits_le (d := x.1) (x := x.2) e r
    · exact Nat.zero_le _
def Ok31 (T : RT) : Prop := T = none ∨ ∃ l : List S51, l.length ≤ 200 ∧ Fine l T
theorem Ok31.good {T : RT} (h : Ok31 T) : GoodT 200 T := by
  rcases h with rfl | ⟨l, hl, hf⟩
  · intro d x e; cases e
  · intro d x e
    have := hf.good d x e
    refine ⟨this.1, ?_⟩
    have h2 : ∀ (d : Nat) (x : S74), BoxMax l.length d x → BoxMax 200 d x := by
      intro d
      induction d with
      | zero => exact fun x h => Nat.le_trans h hl
      | succ d ih => exact fun x h => ⟨Nat.le_trans h.1 hl, Nat.le_trans h.2.1 hl, fun k hk => ih k (h.2.2 k hk)⟩
    exact h2 d x this.2
theorem Ok31.visits {T : RT} (h : Ok31 T) (r : S41) : rtVisits T r ≤ 40200 := by
  rcases h with rfl | ⟨l, hl, hf⟩
  · exact Nat.zero_le _
  · exact Nat.le_trans (hf.visits r) (Nat.le_trans (Nat.mul_le_mul (Nat.succ_le_succ hl) hl) (by decide))
theorem search_calls (v : Value) (T : RT) (h : Ok31 T) (r : S41) (w : World) (hT : rtK w v T) :
    Calls Try.prog 59 #[v, .agg #[.int .i64 r.f0.f0, .int .i64 r.f0.f1, .int .i64 r.f1.f0, .int .i64 r.f1.f1]] w fun e w' => (∃ A c, e = .returned (.slice A (rtSearch T r).length c) ∧ (rtSearch T r).length ≤ c ∧ Kd.C (Kd.int .i64) w' A (rtSearch T r).length (rtSearch T r)) ∧ Below w.heap.size w w' :=
  (rtree_Search.calls v T r 200 (by decide) h.good (Nat.le_trans (h.visits r) (by decide)) w hT).mono fun e w' ⟨v0, e0, hR, hB⟩ => by
    obtain ⟨A, c, rfl, hc, hC⟩ := Kd.R_reads hR
    exact ⟨⟨A, c, e0, hc, hC⟩, hB⟩
theorem stab_calls (v : Value) (T : RT) (h : Ok31 T) (a b : Int) (w : World) (hT : rtK w v T) :
    Calls Try.prog 95 #[v, .int .i64 a, .int .i64 b] w fun e w' => (∃ A c, e = .returned (.slice A (rtStab T a b).length c) ∧ (rtStab T a b).length ≤ c ∧ Kd.C (Kd.int .i64) w' A (rtStab T a b).length (rtStab T a b)) ∧ Below w.heap.size w w' :=
  (rtree_Stab.calls v T a b 200 (by decide) h.good (fun r => Nat.le_trans (h.visits r) (by decide)) w hT).mono fun e w' ⟨v0, e0, hR, hB⟩ => by
    obtain ⟨A, c, rfl, hc, hC⟩ := Kd.R_reads hR
    exact ⟨⟨A, c, e0, hc, hC⟩, hB⟩
theorem visits_calls (v : Value) (T : RT) (h : Ok31 T) (r : S41) (w : World) (hT : rtK w v T) :
    Calls Try.prog 93 #[v, .agg #[.int .i64 r.f0.f0, .int .i64 r.f0.f1, .int .i64 r.f1.f0, .int .i64 r.f1.f1]] w fun e w' => e = .returned (.int .i64 (rtVisits T r : Nat)) ∧ Below w.heap.size w w' :=
  rtree_Visits.calls v T r 200 (by decide) h.good (Nat.le_trans (h.visits r) (by decide)) w hT
def boxes4 : List S51 := [⟨⟨⟨6, 8⟩, ⟨0, 5⟩⟩, 4⟩, ⟨⟨⟨0, 2⟩, ⟨0, 5⟩⟩, 1⟩, ⟨⟨⟨2, 4⟩, ⟨0, 5⟩⟩, 2⟩, ⟨⟨⟨4, 6⟩, ⟨0, 5⟩⟩, 3⟩]
def T4 : RT := rtOf boxes4 2
theorem err4 : errP boxes4 2 = 0 := by kernel_rfl
theorem fine4 : Fine boxes4 T4 := rtOf_fine err4
theorem ok4 : Ok31 T4 := .inr ⟨boxes4, by decide, fine4⟩
theorem shape4 : T4 = some (some (1, (treeP 2 boxes4).1), 4, 2) := by kernel_rfl
theorem bounds4 : rtBounds T4 = some ⟨⟨0, 8⟩, ⟨0, 5⟩⟩ := by kernel_rfl
theorem len4 : rtLen T4 = 4 := by kernel_rfl
theorem depth4 : rtDepth T4 = 2 := by kernel_rfl
theorem sea4 : rtSearch T4 ⟨⟨1, 3⟩, ⟨4, 9⟩⟩ = [1, 2] := by rw [fine4.search]; kernel_rfl
theorem vis4a : rtVisits T4 ⟨⟨1, 3⟩, ⟨4, 9⟩⟩ = 2 := by kernel_rfl
theorem vis4b : rtVisits T4 ⟨⟨9, 10⟩, ⟨0, 5⟩⟩ = 1 := by kernel_rfl
theorem stab4 : rtStab T4 5 4 = [3] := by unfold rtStab; rw [if_neg (by decide), fine4.search]; kernel_rfl
theorem boxes4_C (W : World) : Kd.C k51 (W.alloc (.cells #[.int .i64 6, .int .i64 8, .int .i64 0, .int .i64 5, .int .i64 4, .int .i64 0, .int .i64 2, .int .i64 0, .int .i64 5, .int .i64 1, .int .i64 2, .int .i64 4, .int .i64 0, .int .i64 5, .int .i64 2, .int .i64 4, .int .i64 6, .int .i64 0, .int .i64 5, .int .i64 3] 51)) (some ⟨W.heap.size, 0, none⟩) 4 boxes4 :=
  lit_C k51 51 W boxes4 [.int .i64 6, .int .i64 8, .int .i64 0, .int .i64 5, .int .i64 4, .int .i64 0, .int .i64 2, .int .i64 0, .int .i64 5, .int .i64 1, .int .i64 2, .int .i64 4, .int .i64 0, .int .i64 5, .int .i64 2, .int .i64 4, .int .i64 6, .int .i64 0, .int .i64 5, .int .i64 3] (by decide) (((((Reps.none _ _).snoc (k51_mkM W W.heap.size (fun _ => False) ⟨⟨⟨6, 8⟩, ⟨0, 5⟩⟩, 4⟩) rfl).snoc (k51_mkM W W.heap.size (fun _ => False) ⟨⟨⟨0, 2⟩, ⟨0, 5⟩⟩, 1⟩) rfl).snoc (k51_mkM W W.heap.size (fun _ => False) ⟨⟨⟨2, 4⟩, ⟨0, 5⟩⟩, 2⟩) rfl).snoc (k51_mkM W W.heap.size (fun _ => False) ⟨⟨⟨4, 6⟩, ⟨0, 5⟩⟩, 3⟩) rfl)
theorem wf4 : ∀ b ∈ boxes4, (Lit.int .i64 b.f1).wf = true := by
  intro b hb
  simp only [boxes4, List.mem_cons, List.not_mem_nil, or_false] at hb
  rcases hb with rfl | rfl | rfl | rfl <;> kernel_rfl
theorem build4 (W : World) : Calls Try.prog 56 #[.slice (some ⟨W.heap.size, 0, none⟩) 4 4, .int .i64 2] (W.alloc (.cells #[.int .i64 6, .int .i64 8, .int .i64 0, .int .i64 5, .int .i64 4, .int .i64 0, .int .i64 2, .int .i64 0, .int .i64 5, .int .i64 1, .int .i64 2, .int .i64 4, .int .i64 0, .int .i64 5, .int .i64 2, .int .i64 4, .int .i64 6, .int .i64 0, .int .i64 5, .int .i64 3] 51)) fun e w' => ∃ tb : Nat, e = .returned (.tuple #[.pointer (some ⟨tb, 0, none⟩), .int .i64 0]) ∧ rtK w' (.pointer (some ⟨tb, 0, none⟩)) T4 ∧ Below (W.alloc (.cells #[.int .i64 6, .int .i64 8, .int .i64 0, .int .i64 5, .int .i64 4, .int .i64 0, .int .i64 2, .int .i64 0, .int .i64 5, .int .i64 1, .int .i64 2, .int .i64 4, .int .i64 0, .int .i64 5, .int .i64 2, .int .i64 4, .int .i64 6, .int .i64 0, .int .i64 5, .int .i64 3] 51)).heap.size (W.alloc (.cells #[.int .i64 6, .int .i64 8, .int .i64 0, .int .i64 5, .int .i64 4, .int .i64 0, .int .i64 2, .int .i64 0, .int .i64 5, .int .i64 1, .int .i64 2, .int .i64 4, .int .i64 0, .int .i64 5, .int .i64 2, .int .i64 4, .int .i64 6, .int .i64 0, .int .i64 5, .int .i64 3] 51)) w' := by
  refine (show Calls Try.prog 56 #[.slice (some ⟨W.heap.size, 0, none⟩) 4 4, .int .i64 2] (W.alloc (.cells #[.int .i64 6, .int .i64 8, .int .i64 0, .int .i64 5, .int .i64 4, .int .i64 0, .int .i64 2, .int .i64 0, .int .i64 5, .int .i64 1, .int .i64 2, .int .i64 4, .int .i64 0, .int .i64 5, .int .i64 2, .int .i64 4, .int .i64 6, .int .i64 0, .int .i64 5, .int .i64 3] 51)) _ from rtree_Build.calls _ 4 boxes4 2 (by decide) wf4 _ (boxes4_C W) (Nat.le_refl _)).mono ?_
  rintro e w' ⟨v, rfl, hT, hB⟩
  have hT' : rtK w' v T4 := hT
  have hs := hT'
  rw [shape4] at hs
  obtain ⟨tb, rv, rfl, _⟩ := hs
  refine ⟨tb, ?_, hT', hB⟩
  rw [err4]
theorem bnd4 (v : Value) (w : World) (hT : rtK w v T4) : Calls Try.prog 87 #[v] w fun e w' => e = .returned (.tuple #[.agg #[.int .i64 0, .int .i64 8, .int .i64 0, .int .i64 5], .bool true]) ∧ Below w.heap.size w w' := by
  have h := rtree_Bounds.calls v T4 w hT
  rw [bounds4] at h
  exact h
theorem lenc4 (v : Value) (w : World) (hT : rtK w v T4) : Calls Try.prog 89 #[v] w fun e w' => e = .returned (.int .i64 4) ∧ Below w.heap.size w w' := by
  have h := rtree_Len.calls v T4 w hT
  rw [len4] at h
  exact h
theorem depc4 (v : Value) (w : World) (hT : rtK w v T4) : Calls Try.prog 90 #[v] w fun e w' => e = .returned (.int .i64 2) ∧ Below w.heap.size w w' := by
  have h := rtree_Depth.calls v T4 w hT
  rw [depth4] at h
  exact h
theorem seac4 (v : Value) (w : World) (hT : rtK w v T4) : Calls Try.prog 59 #[v, .agg #[.int .i64 1, .int .i64 3, .int .i64 4, .int .i64 9]] w fun e w' => (∃ A c, e = .returned (.slice A 2 c) ∧ 2 ≤ c ∧ Kd.C (Kd.int .i64) w' A 2 [1, 2]) ∧ Below w.heap.size w w' := by
  have h := search_calls v T4 ok4 ⟨⟨1, 3⟩, ⟨4, 9⟩⟩ w hT
  rw [sea4] at h
  exact h
theorem visc4a (v : Value) (w : World) (hT : rtK w v T4) : Calls Try.prog 93 #[v, .agg #[.int .i64 1, .int .i64 3, .int .i64 4, .int .i64 9]] w fun e w' => e = .returned (.int .i64 2) ∧ Below w.heap.size w w' := by
  have h := visits_calls v T4 ok4 ⟨⟨1, 3⟩, ⟨4, 9⟩⟩ w hT
  rw [vis4a] at h
  exact h
theorem visc4b (v : Value) (w : World) (hT : rtK w v T4) : Calls Try.prog 93 #[v, .agg #[.int .i64 9, .int .i64 10, .int .i64 0, .int .i64 5]] w fun e w' => e = .returned (.int .i64 1) ∧ Below w.heap.size w w' := by
  have h := visits_calls v T4 ok4 ⟨⟨9, 10⟩, ⟨0, 5⟩⟩ w hT
  rw [vis4b] at h
  exact h
theorem stabc4 (v : Value) (w : World) (hT : rtK w v T4) : Calls Try.prog 95 #[v, .int .i64 5, .int .i64 4] w fun e w' => (∃ A c, e = .returned (.slice A 1 c) ∧ 1 ≤ c ∧ Kd.C (Kd.int .i64) w' A 1 [3]) ∧ Below w.heap.size w w' := by
  have h := stab_calls v T4 ok4 5 4 w hT
  rw [stab4] at h
  exact h
theorem lit12 (W : World) : Kd.C (Kd.int .i64) (W.alloc (.cells #[.int .i64 1, .int .i64 2] 3)) (some ⟨W.heap.size, 0, none⟩) 2 [1, 2] := lit_C (Kd.int .i64) 3 W [1, 2] [.int .i64 1, .int .i64 2] (by decide) (((Reps.none ((Kd.int .i64).M W W.heap.size (fun _ => False)) 1).snoc (p := 1) (c := [.int .i64 1]) rfl rfl).snoc (p := 2) (c := [.int .i64 2]) rfl rfl)
theorem lit3 (W : World) : Kd.C (Kd.int .i64) (W.alloc (.cells #[.int .i64 3] 3)) (some ⟨W.heap.size, 0, none⟩) 1 [3] := lit_C (Kd.int .i64) 3 W [3] [.int .i64 3] (by decide) ((Reps.none ((Kd.int .i64).M W W.heap.size (fun _ => False)) 1).snoc (p := 3) (c := [.int .i64 3]) rfl rfl)
theorem ints12 (A : Option Addr) (c : Nat) (a2 : Option Addr) (w : World) (hC : 2 ≤ c ∧ Kd.C (Kd.int .i64) w A 2 [1, 2]) (hL : Kd.C (Kd.int .i64) w a2 2 [1, 2]) : Calls Try.prog 91 #[.slice A 2 c, .slice a2 2 2] w fun e w' => e = .returned (.bool true) ∧ Below w.heap.size w w' :=
  ints_calls A c [1, 2] a2 2 [1, 2] w (by decide) hC.2 hC.1 hL (Nat.le_refl _)
theorem ints3 (A : Option Addr) (c : Nat) (a2 : Option Addr) (w : World) (hC : 1 ≤ c ∧ Kd.C (Kd.int .i64) w A 1 [3]) (hL : Kd.C (Kd.int .i64) w a2 1 [3]) : Calls Try.prog 91 #[.slice A 1 c, .slice a2 1 1] w fun e w' => e = .returned (.bool true) ∧ Below w.heap.size w w' :=
  ints_calls A c [3] a2 1 [3] w (by decide) hC.2 hC.1 hL (Nat.le_refl _)
attribute [local go_sem high] eqA41
set_option maxHeartbeats 4000000 in
set_option maxRecDepth 100000 in
theorem works31.calls (w : World) : Calls Try.prog 85 #[] w fun e w' => e = .returned (.bool true) ∧ Below w.heap.size w w' := by
  have HBW : Aside0 (Below w.heap.size w w) := ⟨Below.refl _ _⟩
  have hu41 := Try.underlying41
  have hu33 := Try.underlying33
  go_enter Try.func85, Try.ntmps85
  go_wp2_with (first
    | (go_at_call 98; refine (L31_rect.calls _ _ _ _ _ _ _ _ _ rfl).mono ?_; rintro e w1 ⟨rfl, hB⟩; have HBW := Aside0.mk (HBW.out.trans (hB.mono HBW.out.size)); clear hB)
    | (go_at_call 56; refine (build4 _).mono ?_; rintro e w5 ⟨tb, rfl, hT, hB⟩; have HBW := Aside0.mk ((HBW.out.trans ((below_alloc (Below.refl _ _) _).mono HBW.out.size)).trans (hB.mono (by have h_ := HBW.out.size; simp; omega))); have HT := Aside0.mk hT; clear hB hT)
    | (go_at_call 87; refine (bnd4 _ _ HT.out).mono ?_; rintro e w6 ⟨rfl, hB⟩; have HBW := Aside0.mk (HBW.out.trans (hB.mono HBW.out.size)); have HT := Aside0.mk (rtK_below HT.out hB); clear hB)
    | fail)
  obtain ⟨W0, hW0⟩ : ∃ W0, W0 = w6.alloc (.cells #[.int .i64 0, .int .i64 8, .int .i64 0, .int .i64 5] 41) := ⟨_, rfl⟩
  rw [← hW0]
  obtain ⟨gb, hgb⟩ : ∃ gb, gb = w6.heap.size := ⟨_, rfl⟩
  rw [← hgb]
  have hP : W0.heap[gb]? = some (.cells #[.int .i64 0, .int .i64 8, .int .i64 0, .int .i64 5] 41 (0, 0)) := by rw [hW0, hgb]; exact blk_new w6 _
  have hB6 : Below w6.heap.size w6 W0 := by rw [hW0]; exact below_alloc (Below.refl _ _) _
  have hB7 := hB6.trans (below_drew (Below.refl w6.heap.size W0))
  have HT := Aside0.mk (rtK_below HT.out hB7)
  have HBW := Aside0.mk (HBW.out.trans (hB7.mono HBW.out.size))
  have p0 : W0.drew.cell? ⟨gb, 0, none⟩ = some (.int .i64 0) := (blk_cell hP 0).trans rfl
  have p1 : W0.drew.cell? ⟨gb, 1, none⟩ = some (.int .i64 8) := (blk_cell hP 1).trans rfl
  have p2 : W0.drew.cell? ⟨gb, 2, none⟩ = some (.int .i64 0) := (blk_cell hP 2).trans rfl
  have p3 : W0.drew.cell? ⟨gb, 3, none⟩ = some (.int .i64 5) := (blk_cell hP 3).trans rfl
  clear hW0 hgb hP hB6 hB7
  refine start_ (n := 42) (S := fun w' => w'.cell? ⟨gb, 0, none⟩ = some (.int .i64 0) ∧ w'.cell? ⟨gb, 1, none⟩ = some (.int .i64 8) ∧ w'.cell? ⟨gb, 2, none⟩ = some (.int .i64 0) ∧ w'.cell? ⟨gb, 3, none⟩ = some (.int .i64 5)) (ds := []) #[false, false, false, false, false, false, false, false, false, false, false, false, false, false, false, false, false, false, false, false, false, false, false, false, false, false, false, false, false, false, false, false, false, false, false, false, false, false, false, false, false, false] (by kernel_rfl) rfl rfl ⟨p0, p1, p2, p3⟩ (fun hHeld => ?_)
  refine pure_ (i := 0) (N := some 29) (v := ?_) (a' := ?_) #[true, false, false, false, false, false, false, false, false, false, false, false, false, false, false, false, false, false, false, false, false, false, false, false, false, false, false, false, false, false, false, false, false, false, false, false, false, false, false, false, false, false] rfl rfl (by kernel_rfl) (fun _ _ _ h => h) (Or.inl ⟨by rfl, ?_⟩) ?_ ?_
  rotate_left
  · intro w'
    go_simp
    with_reducible rfl
  rotate_left
  · simp only [Act.put, List.setIfInBounds_toArray, List.set_cons_zero, List.set_cons_succ, i64_w, i32_w]
    rfl
  refine one_ (i := 1) (N := some 30) #[true, true, false, false, false, false, false, false, false, false, false, false, false, false, false, false, false, false, false, false, false, false, false, false, false, false, false, false, false, false, false, false, false, false, false, false, false, false, false, false, false, false] rfl rfl (by kernel_rfl) (by decide) (fun K hK => ?_)
  refine goes_ Try.func89 (by kernel_rfl) rfl #[.pointer (some ⟨tb, 0, none⟩)] (by rfl) rfl rfl (by simp only [List.map_toArray, List.map_cons, List.map_nil]; rfl) ?_
  with_reducible refine (lenc4 _ _ HT.out).mono ?_
  rintro e w1_ ⟨rfl, hB⟩
  refine ⟨_, rfl, ?_⟩
  have HBK := Aside0.mk hB
  clear hB
  have HT := Aside0.mk (rtK_below HT.out HBK.out)
  have HBW := Aside0.mk (HBW.out.trans (HBK.out.mono HBW.out.size))
  refine hK.out _ _ ⟨(pw_cell_below HBK.out hHeld.1), (pw_cell_below HBK.out hHeld.2.1), (pw_cell_below HBK.out hHeld.2.2.1), (pw_cell_below HBK.out hHeld.2.2.2)⟩ (fun hHeld => ?_)
  clear hK K
  refine norm_ (a' := ?_) ?_ ?_
  rotate_left
  · show Act.put _ (some 30) _ = _
    simp only [Act.put, List.setIfInBounds_toArray, List.set_cons_zero, List.set_cons_succ, i64_w, i32_w]
    rfl
  refine pure_ (i := 2) (N := some 31) (v := ?_) (a' := ?_) #[true, true, true, false, false, false, false, false, false, false, false, false, false, false, false, false, false, false, false, false, false, false, false, false, false, false, false, false, false, false, false, false, false, false, false, false, false, false, false, false, false, false] rfl rfl (by kernel_rfl) (fun _ _ _ h => h) (Or.inl ⟨by rfl, ?_⟩) ?_ ?_
  rotate_left
  · intro w'
    go_simp
    with_reducible rfl
  rotate_left
  · simp only [Act.put, List.setIfInBounds_toArray, List.set_cons_zero, List.set_cons_succ, i64_w, i32_w]
    rfl
  refine pure_ (i := 3) (N := some 32) (v := ?_) (a' := ?_) #[true, true, true, true, false, false, false, false, false, false, false, false, false, false, false, false, false, false, false, false, false, false, false, false, false, false, false, false, false, false, false, false, false, false, false, false, false, false, false, false, false, false] rfl rfl (by kernel_rfl) (fun _ _ _ h => h) (Or.inl ⟨by rfl, ?_⟩) ?_ ?_
  rotate_left
  · intro w'
    go_simp
    with_reducible rfl
  rotate_left
  · simp only [Act.put, List.setIfInBounds_toArray, List.set_cons_zero, List.set_cons_succ, i64_w, i32_w]
    rfl
  refine pure_ (i := 4) (N := some 33) (v := ?_) (a' := ?_) #[true, true, true, true, true, false, false, false, false, false, false, false, false, false, false, false, false, false, false, false, false, false, false, false, false, false, false, false, false, false, false, false, false, false, false, false, false, false, false, false, false, false] rfl rfl (by kernel_rfl) (fun _ _ _ h => h) (Or.inl ⟨by rfl, ?_⟩) ?_ ?_
  rotate_left
  · intro w'
    go_simp
    with_reducible rfl
  rotate_left
  · simp only [Act.put, List.setIfInBounds_toArray, List.set_cons_zero, List.set_cons_succ, i64_w, i32_w]
    rfl
  refine one_ (i := 5) (N := some 34) #[true, true, true, true, true, true, false, false, false, false, false, false, false, false, false, false, false, false, false, false, false, false, false, false, false, false, false, false, false, false, false, false, false, false, false, false, false, false, false, false, false, false] rfl rfl (by kernel_rfl) (by decide) (fun K hK => ?_)
  refine goes_ Try.func90 (by kernel_rfl) rfl #[.pointer (some ⟨tb, 0, none⟩)] (by rfl) rfl rfl (by simp only [List.map_toArray, List.map_cons, List.map_nil]; rfl) ?_
  with_reducible refine (depc4 _ _ HT.out).mono ?_
  rintro e w5_ ⟨rfl, hB⟩
  refine ⟨_, rfl, ?_⟩
  have HBK := Aside0.mk hB
  clear hB
  have HT := Aside0.mk (rtK_below HT.out HBK.out)
  have HBW := Aside0.mk (HBW.out.trans (HBK.out.mono HBW.out.size))
  refine hK.out _ _ ⟨(pw_cell_below HBK.out hHeld.1), (pw_cell_below HBK.out hHeld.2.1), (pw_cell_below HBK.out hHeld.2.2.1), (pw_cell_below HBK.out hHeld.2.2.2)⟩ (fun hHeld => ?_)
  clear hK K
  refine norm_ (a' := ?_) ?_ ?_
  rotate_left
  · show Act.put _ (some 34) _ = _
    simp only [Act.put, List.setIfInBounds_toArray, List.set_cons_zero, List.set_cons_succ, i64_w, i32_w]
    rfl
  refine pure_ (i := 6) (N := some 35) (v := ?_) (a' := ?_) #[true, true, true, true, true, true, true, false, false, false, false, false, false, false, false, false, false, false, false, false, false, false, false, false, false, false, false, false, false, false, false, false, false, false, false, false, false, false, false, false, false, false] rfl rfl (by kernel_rfl) (fun _ _ _ h => h) (Or.inl ⟨by rfl, ?_⟩) ?_ ?_
  rotate_left
  · intro w'
    go_simp
    with_reducible rfl
  rotate_left
  · simp only [Act.put, List.setIfInBounds_toArray, List.set_cons_zero, List.set_cons_succ, i64_w, i32_w]
    rfl
  refine pure_ (i := 7) (N := some 36) (v := ?_) (a' := ?_) #[true, true, true, true, true, true, true, true, false, false, false, false, false, false, false, false, false, false, false, false, false, false, false, false, false, false, false, false, false, false, false, false, false, false, false, false, false, false, false, false, false, false] rfl rfl (by kernel_rfl) (fun _ _ _ h => h) (Or.inl ⟨by rfl, ?_⟩) ?_ ?_
  rotate_left
  · intro w'
    go_simp
    with_reducible rfl
  rotate_left
  · simp only [Act.put, List.setIfInBounds_toArray, List.set_cons_zero, List.set_cons_succ, i64_w, i32_w]
    rfl
  refine pure_ (i := 8) (N := some 37) (v := ?_) (a' := ?_) #[true, true, true, true, true, true, true, true, true, false, false, false, false, false, false, false, false, false, false, false, false, false, false, false, false, false, false, false, false, false, false, false, false, false, false, false, false, false, false, false, false, false] rfl rfl (by kernel_rfl) (fun _ _ _ h => h) (Or.inl ⟨by rfl, ?_⟩) ?_ ?_
  rotate_left
  · intro w'
    go_simp
    with_reducible rfl
  rotate_left
  · simp only [Act.put, List.setIfInBounds_toArray, List.set_cons_zero, List.set_cons_succ, i64_w, i32_w]
    rfl
  refine pure_ (i := 9) (N := some 38) (v := ?_) (a' := ?_) #[true, true, true, true, true, true, true, true, true, true, false, false, false, false, false, false, false, false, false, false, false, false, false, false, false, false, false, false, false, false, false, false, false, false, false, false, false, false, false, false, false, false] rfl rfl (by kernel_rfl) (fun _ _ _ h => h) (Or.inl ⟨by rfl, ?_⟩) ?_ ?_
  rotate_left
  · intro w'
    go_simp
    with_reducible rfl
  rotate_left
  · simp only [Act.put, List.setIfInBounds_toArray, List.set_cons_zero, List.set_cons_succ, i64_w, i32_w]
    rfl
  refine join_ (σ := Option Addr × Nat × Option Addr) 29 #[true, true, true, true, true, true, true, true, true, true, true, true, true, false, false, false, false, false, false, false, false, false, false, false, false, false, false, false, false, false, false, false, false, false, false, false, false, false, false, false, false, false] (fun s => [(39, .agg #[.int .i64 1, .int .i64 3, .int .i64 4, .int .i64 9]), (40, .slice s.1 2 s.2.1), (41, .slice s.2.2 2 2)]) (fun s w' => (w'.cell? ⟨gb, 0, none⟩ = some (.int .i64 0) ∧ w'.cell? ⟨gb, 1, none⟩ = some (.int .i64 8) ∧ w'.cell? ⟨gb, 2, none⟩ = some (.int .i64 0) ∧ w'.cell? ⟨gb, 3, none⟩ = some (.int .i64 5)) ∧ rtK w' (.pointer (some ⟨tb, 0, none⟩)) T4 ∧ Below w.heap.size w w' ∧ 2 ≤ s.2.1 ∧ Kd.C (Kd.int .i64) w' s.1 2 [1, 2] ∧ Kd.C (Kd.int .i64) w' s.2.2 2 [1, 2]) ?_ ?_
  rotate_left
  · intro hCont
    refine two_ (i := 10) (j := 12) (Ni := some 39) (Nj := some 41) #[true, true, true, true, true, true, true, true, true, true, true, false, false, false, false, false, false, false, false, false, false, false, false, false, false, false, false, false, false, false, false, false, false, false, false, false, false, false, false, false, false, false] #[true, true, true, true, true, true, true, true, true, true, false, false, true, false, false, false, false, false, false, false, false, false, false, false, false, false, false, false, false, false, false, false, false, false, false, false, false, false, false, false, false, false] rfl rfl rfl rfl (by kernel_rfl) (by decide) (by decide) (fun K hK => ?_) (fun K hK => ?_)
    · skip
      refine goes_ Try.func98 (by kernel_rfl) rfl #[.int .i64 1, .int .i64 3, .int .i64 4, .int .i64 9] (by rfl) rfl rfl (by simp only [List.map_toArray, List.map_cons, List.map_nil]; rfl) ?_
      with_reducible refine (L31_rect.calls 1 3 4 9 _ _ _ _ _ rfl).mono ?_
      rintro e w10_ ⟨rfl, hB⟩
      refine ⟨_, rfl, ?_⟩
      have HBK := Aside0.mk hB
      clear hB
      have HT := Aside0.mk (rtK_below HT.out HBK.out)
      have HBW := Aside0.mk (HBW.out.trans (HBK.out.mono HBW.out.size))
      refine hK.out _ _ ⟨(pw_cell_below HBK.out hHeld.1), (pw_cell_below HBK.out hHeld.2.1), (pw_cell_below HBK.out hHeld.2.2.1), (pw_cell_below HBK.out hHeld.2.2.2)⟩ (fun hHeld => ?_)
      clear hK K
      refine norm_ (a' := ?_) ?_ ?_
      rotate_left
      · show Act.put _ (some 39) _ = _
        simp only [Act.put, List.setIfInBounds_toArray, List.set_cons_zero, List.set_cons_succ, i64_w, i32_w]
        rfl
      refine two_ (i := 11) (j := 12) (Ni := some 40) (Nj := some 41) #[true, true, true, true, true, true, true, true, true, true, true, true, false, false, false, false, false, false, false, false, false, false, false, false, false, false, false, false, false, false, false, false, false, false, false, false, false, false, false, false, false, false] #[true, true, true, true, true, true, true, true, true, true, true, false, true, false, false, false, false, false, false, false, false, false, false, false, false, false, false, false, false, false, false, false, false, false, false, false, false, false, false, false, false, false] rfl rfl rfl rfl (by kernel_rfl) (by decide) (by decide) (fun K hK => ?_) (fun K hK => ?_)
      · skip
        refine goes_ Try.func59 (by kernel_rfl) rfl #[.pointer (some ⟨tb, 0, none⟩), .agg #[.int .i64 1, .int .i64 3, .int .i64 4, .int .i64 9]] (by rfl) rfl rfl (by simp only [List.map_toArray, List.map_cons, List.map_nil]; rfl) ?_
        with_reducible refine (seac4 _ _ HT.out).mono ?_
        rintro e w11_x10 ⟨⟨A_, c_, rfl, hc_, hC_⟩, hB⟩
        refine ⟨_, rfl, ?_⟩
        have HBK := Aside0.mk hB
        clear hB
        have HT := Aside0.mk (rtK_below HT.out HBK.out)
        have HBW := Aside0.mk (HBW.out.trans (HBK.out.mono HBW.out.size))
        have HC := Aside0.mk (And.intro hc_ hC_)
        clear hc_ hC_
        refine hK.out _ _ ⟨(pw_cell_below HBK.out hHeld.1), (pw_cell_below HBK.out hHeld.2.1), (pw_cell_below HBK.out hHeld.2.2.1), (pw_cell_below HBK.out hHeld.2.2.2)⟩ (fun hHeld => ?_)
        clear hK K
        refine norm_ (a' := ?_) ?_ ?_
        rotate_left
        · show Act.put _ (some 40) _ = _
          simp only [Act.put, List.setIfInBounds_toArray, List.set_cons_zero, List.set_cons_succ, i64_w, i32_w]
          rfl
        refine one_ (i := 12) (N := some 41) #[true, true, true, true, true, true, true, true, true, true, true, true, true, false, false, false, false, false, false, false, false, false, false, false, false, false, false, false, false, false, false, false, false, false, false, false, false, false, false, false, false, false] rfl rfl (by kernel_rfl) (by decide) (fun K hK => ?_)
        refine value_ (w1 := ?_) (v := ?_) (by rfl) rfl ?_ ?_
        rotate_left 2
        · go_simp
          constructor
          · rfl
          · rfl
        have HBK := Aside0.mk (below_alloc (Below.refl (w11_x10).heap.size w11_x10) (.cells #[.int .i64 1, .int .i64 2] 3))
        have HT := Aside0.mk (rtK_below HT.out HBK.out)
        have HBW := Aside0.mk (HBW.out.trans (HBK.out.mono HBW.out.size))
        have HC := Aside0.mk (And.intro HC.out.1 (Kd.C_below HC.out.2 HBK.out))
        have HL := Aside0.mk (lit12 w11_x10)
        refine hK.out _ _ ⟨(pw_cell_below HBK.out hHeld.1), (pw_cell_below HBK.out hHeld.2.1), (pw_cell_below HBK.out hHeld.2.2.1), (pw_cell_below HBK.out hHeld.2.2.2)⟩ (fun hHeld => ?_)
        clear hK K
        refine norm_ (a' := ?_) ?_ ?_
        rotate_left
        · show Act.put _ (some 41) _ = _
          simp only [Act.put, List.setIfInBounds_toArray, List.set_cons_zero, List.set_cons_succ, i64_w, i32_w]
          rfl
        exact norm_ (by first | (simp only [Go.Proofs.YtdcelpppgbmlaaaW.PrintLast.putAll, Act.put, List.setIfInBounds_toArray, List.set_cons_zero, List.set_cons_succ]; done) | (simp only [Go.Proofs.YtdcelpppgbmlaaaW.PrintLast.putAll, Act.put, List.setIfInBounds_toArray, List.set_cons_zero, List.set_cons_succ]; rfl)) (hCont (A_, c_, some ⟨w11_x10.heap.size, 0, none⟩) _ ⟨hHeld, HT.out, HBW.out, HC.out.1, HC.out.2, HL.out⟩)
      · skip
        refine value_ (w1 := ?_) (v := ?_) (by rfl) rfl ?_ ?_
        rotate_left 2
        · go_simp
          constructor
          · rfl
          · rfl
        have HBK := Aside0.mk (below_alloc (Below.refl (w10_).heap.size w10_) (.cells #[.int .i64 1, .int .i64 2] 3))
        have HT := Aside0.mk (rtK_below HT.out HBK.out)
        have HBW := Aside0.mk (HBW.out.trans (HBK.out.mono HBW.out.size))
        have HL := Aside0.mk (lit12 w10_)
        refine hK.out _ _ ⟨(pw_cell_below HBK.out hHeld.1), (pw_cell_below HBK.out hHeld.2.1), (pw_cell_below HBK.out hHeld.2.2.1), (pw_cell_below HBK.out hHeld.2.2.2)⟩ (fun hHeld => ?_)
        clear hK K
        refine norm_ (a' := ?_) ?_ ?_
        rotate_left
        · show Act.put _ (some 41) _ = _
          simp only [Act.put, List.setIfInBounds_toArray, List.set_cons_zero, List.set_cons_succ, i64_w, i32_w]
          rfl
        refine one_ (i := 11) (N := some 40) #[true, true, true, true, true, true, true, true, true, true, true, true, true, false, false, false, false, false, false, false, false, false, false, false, false, false, false, false, false, false, false, false, false, false, false, false, false, false, false, false, false, false] rfl rfl (by kernel_rfl) (by decide) (fun K hK => ?_)
        refine goes_ Try.func59 (by kernel_rfl) rfl #[.pointer (some ⟨tb, 0, none⟩), .agg #[.int .i64 1, .int .i64 3, .int .i64 4, .int .i64 9]] (by rfl) rfl rfl (by simp only [List.map_toArray, List.map_cons, List.map_nil]; rfl) ?_
        with_reducible refine (seac4 _ _ HT.out).mono ?_
        rintro e w11_x10x12 ⟨⟨A_, c_, rfl, hc_, hC_⟩, hB⟩
        refine ⟨_, rfl, ?_⟩
        have HBK := Aside0.mk hB
        clear hB
        have HT := Aside0.mk (rtK_below HT.out HBK.out)
        have HBW := Aside0.mk (HBW.out.trans (HBK.out.mono HBW.out.size))
        have HL := Aside0.mk (Kd.C_below HL.out HBK.out)
        have HC := Aside0.mk (And.intro hc_ hC_)
        clear hc_ hC_
        refine hK.out _ _ ⟨(pw_cell_below HBK.out hHeld.1), (pw_cell_below HBK.out hHeld.2.1), (pw_cell_below HBK.out hHeld.2.2.1), (pw_cell_below HBK.out hHeld.2.2.2)⟩ (fun hHeld => ?_)
        clear hK K
        refine norm_ (a' := ?_) ?_ ?_
        rotate_left
        · show Act.put _ (some 40) _ = _
          simp only [Act.put, List.setIfInBounds_toArray, List.set_cons_zero, List.set_cons_succ, i64_w, i32_w]
          rfl
        exact norm_ (by first | (simp only [Go.Proofs.YtdcelpppgbmlaaaW.PrintLast.putAll, Act.put, List.setIfInBounds_toArray, List.set_cons_zero, List.set_cons_succ]; done) | (simp only [Go.Proofs.YtdcelpppgbmlaaaW.PrintLast.putAll, Act.put, List.setIfInBounds_toArray, List.set_cons_zero, List.set_cons_succ]; rfl)) (hCont (A_, c_, some ⟨w10_.heap.size, 0, none⟩) _ ⟨hHeld, HT.out, HBW.out, HC.out.1, HC.out.2, HL.out⟩)
    · skip
      refine value_ (w1 := ?_) (v := ?_) (by rfl) rfl ?_ ?_
      rotate_left 2
      · go_simp
        constructor
        · rfl
        · rfl
      have HBK := Aside0.mk (below_alloc (Below.refl (w5_).heap.size w5_) (.cells #[.int .i64 1, .int .i64 2] 3))
      have HT := Aside0.mk (rtK_below HT.out HBK.out)
      have HBW := Aside0.mk (HBW.out.trans (HBK.out.mono HBW.out.size))
      have HL := Aside0.mk (lit12 w5_)
      refine hK.out _ _ ⟨(pw_cell_below HBK.out hHeld.1), (pw_cell_below HBK.out hHeld.2.1), (pw_cell_below HBK.out hHeld.2.2.1), (pw_cell_below HBK.out hHeld.2.2.2)⟩ (fun hHeld => ?_)
      clear hK K
      refine norm_ (a' := ?_) ?_ ?_
      rotate_left
      · show Act.put _ (some 41) _ = _
        simp only [Act.put, List.setIfInBounds_toArray, List.set_cons_zero, List.set_cons_succ, i64_w, i32_w]
        rfl
      refine one_ (i := 10) (N := some 39) #[true, true, true, true, true, true, true, true, true, true, true, false, true, false, false, false, false, false, false, false, false, false, false, false, false, false, false, false, false, false, false, false, false, false, false, false, false, false, false, false, false, false] rfl rfl (by kernel_rfl) (by decide) (fun K hK => ?_)
      refine goes_ Try.func98 (by kernel_rfl) rfl #[.int .i64 1, .int .i64 3, .int .i64 4, .int .i64 9] (by rfl) rfl rfl (by simp only [List.map_toArray, List.map_cons, List.map_nil]; rfl) ?_
      with_reducible refine (L31_rect.calls 1 3 4 9 _ _ _ _ _ rfl).mono ?_
      rintro e w10_x12 ⟨rfl, hB⟩
      refine ⟨_, rfl, ?_⟩
      have HBK := Aside0.mk hB
      clear hB
      have HT := Aside0.mk (rtK_below HT.out HBK.out)
      have HBW := Aside0.mk (HBW.out.trans (HBK.out.mono HBW.out.size))
      have HL := Aside0.mk (Kd.C_below HL.out HBK.out)
      refine hK.out _ _ ⟨(pw_cell_below HBK.out hHeld.1), (pw_cell_below HBK.out hHeld.2.1), (pw_cell_below HBK.out hHeld.2.2.1), (pw_cell_below HBK.out hHeld.2.2.2)⟩ (fun hHeld => ?_)
      clear hK K
      refine norm_ (a' := ?_) ?_ ?_
      rotate_left
      · show Act.put _ (some 39) _ = _
        simp only [Act.put, List.setIfInBounds_toArray, List.set_cons_zero, List.set_cons_succ, i64_w, i32_w]
        rfl
      refine one_ (i := 11) (N := some 40) #[true, true, true, true, true, true, true, true, true, true, true, true, true, false, false, false, false, false, false, false, false, false, false, false, false, false, false, false, false, false, false, false, false, false, false, false, false, false, false, false, false, false] rfl rfl (by kernel_rfl) (by decide) (fun K hK => ?_)
      refine goes_ Try.func59 (by kernel_rfl) rfl #[.pointer (some ⟨tb, 0, none⟩), .agg #[.int .i64 1, .int .i64 3, .int .i64 4, .int .i64 9]] (by rfl) rfl rfl (by simp only [List.map_toArray, List.map_cons, List.map_nil]; rfl) ?_
      with_reducible refine (seac4 _ _ HT.out).mono ?_
      rintro e w11_x12x10 ⟨⟨A_, c_, rfl, hc_, hC_⟩, hB⟩
      refine ⟨_, rfl, ?_⟩
      have HBK := Aside0.mk hB
      clear hB
      have HT := Aside0.mk (rtK_below HT.out HBK.out)
      have HBW := Aside0.mk (HBW.out.trans (HBK.out.mono HBW.out.size))
      have HL := Aside0.mk (Kd.C_below HL.out HBK.out)
      have HC := Aside0.mk (And.intro hc_ hC_)
      clear hc_ hC_
      refine hK.out _ _ ⟨(pw_cell_below HBK.out hHeld.1), (pw_cell_below HBK.out hHeld.2.1), (pw_cell_below HBK.out hHeld.2.2.1), (pw_cell_below HBK.out hHeld.2.2.2)⟩ (fun hHeld => ?_)
      clear hK K
      refine norm_ (a' := ?_) ?_ ?_
      rotate_left
      · show Act.put _ (some 40) _ = _
        simp only [Act.put, List.setIfInBounds_toArray, List.set_cons_zero, List.set_cons_succ, i64_w, i32_w]
        rfl
      exact norm_ (by first | (simp only [Go.Proofs.YtdcelpppgbmlaaaW.PrintLast.putAll, Act.put, List.setIfInBounds_toArray, List.set_cons_zero, List.set_cons_succ]; done) | (simp only [Go.Proofs.YtdcelpppgbmlaaaW.PrintLast.putAll, Act.put, List.setIfInBounds_toArray, List.set_cons_zero, List.set_cons_succ]; rfl)) (hCont (A_, c_, some ⟨w5_.heap.size, 0, none⟩) _ ⟨hHeld, HT.out, HBW.out, HC.out.1, HC.out.2, HL.out⟩)
  rintro ⟨A_, c_, a2_⟩ w12_ ⟨hHeld, hT_, hBW_, hc_, hC_, hL_⟩
  have HT := Aside0.mk hT_
  have HBW := Aside0.mk hBW_
  have HC : Aside0 (2 ≤ c_ ∧ Kd.C (Kd.int .i64) w12_ A_ 2 [1, 2]) := ⟨And.intro hc_ hC_⟩
  have HL : Aside0 (Kd.C (Kd.int .i64) w12_ a2_ 2 [1, 2]) := ⟨hL_⟩
  clear hT_ hBW_ hc_ hC_ hL_
  refine norm_ (a' := ?_) ?_ ?_
  rotate_left
  · simp only [Go.Proofs.YtdcelpppgbmlaaaW.PrintLast.putAll, Act.put, List.setIfInBounds_toArray, List.set_cons_zero, List.set_cons_succ]
    rfl
  refine one_ (i := 13) (N := some 42) #[true, true, true, true, true, true, true, true, true, true, true, true, true, true, false, false, false, false, false, false, false, false, false, false, false, false, false, false, false, false, false, false, false, false, false, false, false, false, false, false, false, false] rfl rfl (by kernel_rfl) (by decide) (fun K hK => ?_)
  refine goes_ Try.func91 (by kernel_rfl) rfl #[.slice A_ 2 c_, .slice a2_ 2 2] (by rfl) rfl rfl (by simp only [List.map_toArray, List.map_cons, List.map_nil]; rfl) ?_
  with_reducible refine (ints12 A_ c_ a2_ _ HC.out HL.out).mono ?_
  rintro e w13_ ⟨rfl, hB⟩
  refine ⟨_, rfl, ?_⟩
  have HBK := Aside0.mk hB
  clear hB
  have HT := Aside0.mk (rtK_below HT.out HBK.out)
  have HBW := Aside0.mk (HBW.out.trans (HBK.out.mono HBW.out.size))
  refine hK.out _ _ ⟨(pw_cell_below HBK.out hHeld.1), (pw_cell_below HBK.out hHeld.2.1), (pw_cell_below HBK.out hHeld.2.2.1), (pw_cell_below HBK.out hHeld.2.2.2)⟩ (fun hHeld => ?_)
  clear hK K
  refine norm_ (a' := ?_) ?_ ?_
  rotate_left
  · show Act.put _ (some 42) _ = _
    simp only [Act.put, List.setIfInBounds_toArray, List.set_cons_zero, List.set_cons_succ, i64_w, i32_w]
    rfl
  refine pure_ (i := 14) (N := some 43) (v := ?_) (a' := ?_) #[true, true, true, true, true, true, true, true, true, true, true, true, true, true, true, false, false, false, false, false, false, false, false, false, false, false, false, false, false, false, false, false, false, false, false, false, false, false, false, false, false, false] rfl rfl (by kernel_rfl) (fun _ _ _ h => h) (Or.inl ⟨by rfl, ?_⟩) ?_ ?_
  rotate_left
  · intro w'
    go_simp
    with_reducible rfl
  rotate_left
  · simp only [Act.put, List.setIfInBounds_toArray, List.set_cons_zero, List.set_cons_succ, i64_w, i32_w]
    rfl
  refine pure_ (i := 15) (N := some 44) (v := ?_) (a' := ?_) #[true, true, true, true, true, true, true, true, true, true, true, true, true, true, true, true, false, false, false, false, false, false, false, false, false, false, false, false, false, false, false, false, false, false, false, false, false, false, false, false, false, false] rfl rfl (by kernel_rfl) (fun _ _ _ h => h) (Or.inl ⟨by rfl, ?_⟩) ?_ ?_
  rotate_left
  · intro w'
    go_simp
    with_reducible rfl
  rotate_left
  · simp only [Act.put, List.setIfInBounds_toArray, List.set_cons_zero, List.set_cons_succ, i64_w, i32_w]
    rfl
  refine pure_ (i := 16) (N := some 45) (v := ?_) (a' := ?_) #[true, true, true, true, true, true, true, true, true, true, true, true, true, true, true, true, true, false, false, false, false, false, false, false, false, false, false, false, false, false, false, false, false, false, false, false, false, false, false, false, false, false] rfl rfl (by kernel_rfl) (fun _ _ _ h => h) (Or.inl ⟨by rfl, ?_⟩) ?_ ?_
  rotate_left
  · intro w'
    go_simp
    with_reducible rfl
  rotate_left
  · simp only [Act.put, List.setIfInBounds_toArray, List.set_cons_zero, List.set_cons_succ, i64_w, i32_w]
    rfl
  refine one_ (i := 17) (N := some 46) #[true, true, true, true, true, true, true, true, true, true, true, true, true, true, true, true, true, true, false, false, false, false, false, false, false, false, false, false, false, false, false, false, false, false, false, false, false, false, false, false, false, false] rfl rfl (by kernel_rfl) (by decide) (fun K hK => ?_)
  refine goes_ Try.func98 (by kernel_rfl) rfl #[.int .i64 1, .int .i64 3, .int .i64 4, .int .i64 9] (by rfl) rfl rfl (by simp only [List.map_toArray, List.map_cons, List.map_nil]; rfl) ?_
  with_reducible refine (L31_rect.calls 1 3 4 9 _ _ _ _ _ rfl).mono ?_
  rintro e w17_ ⟨rfl, hB⟩
  refine ⟨_, rfl, ?_⟩
  have HBK := Aside0.mk hB
  clear hB
  have HT := Aside0.mk (rtK_below HT.out HBK.out)
  have HBW := Aside0.mk (HBW.out.trans (HBK.out.mono HBW.out.size))
  refine hK.out _ _ ⟨(pw_cell_below HBK.out hHeld.1), (pw_cell_below HBK.out hHeld.2.1), (pw_cell_below HBK.out hHeld.2.2.1), (pw_cell_below HBK.out hHeld.2.2.2)⟩ (fun hHeld => ?_)
  clear hK K
  refine norm_ (a' := ?_) ?_ ?_
  rotate_left
  · show Act.put _ (some 46) _ = _
    simp only [Act.put, List.setIfInBounds_toArray, List.set_cons_zero, List.set_cons_succ, i64_w, i32_w]
    rfl
  refine one_ (i := 18) (N := some 47) #[true, true, true, true, true, true, true, true, true, true, true, true, true, true, true, true, true, true, true, false, false, false, false, false, false, false, false, false, false, false, false, false, false, false, false, false, false, false, false, false, false, false] rfl rfl (by kernel_rfl) (by decide) (fun K hK => ?_)
  refine goes_ Try.func93 (by kernel_rfl) rfl #[.pointer (some ⟨tb, 0, none⟩), .agg #[.int .i64 1, .int .i64 3, .int .i64 4, .int .i64 9]] (by rfl) rfl rfl (by simp only [List.map_toArray, List.map_cons, List.map_nil]; rfl) ?_
  with_reducible refine (visc4a _ _ HT.out).mono ?_
  rintro e w18_ ⟨rfl, hB⟩
  refine ⟨_, rfl, ?_⟩
  have HBK := Aside0.mk hB
  clear hB
  have HT := Aside0.mk (rtK_below HT.out HBK.out)
  have HBW := Aside0.mk (HBW.out.trans (HBK.out.mono HBW.out.size))
  refine hK.out _ _ ⟨(pw_cell_below HBK.out hHeld.1), (pw_cell_below HBK.out hHeld.2.1), (pw_cell_below HBK.out hHeld.2.2.1), (pw_cell_below HBK.out hHeld.2.2.2)⟩ (fun hHeld => ?_)
  clear hK K
  refine norm_ (a' := ?_) ?_ ?_
  rotate_left
  · show Act.put _ (some 47) _ = _
    simp only [Act.put, List.setIfInBounds_toArray, List.set_cons_zero, List.set_cons_succ, i64_w, i32_w]
    rfl
  refine pure_ (i := 19) (N := some 48) (v := ?_) (a' := ?_) #[true, true, true, true, true, true, true, true, true, true, true, true, true, true, true, true, true, true, true, true, false, false, false, false, false, false, false, false, false, false, false, false, false, false, false, false, false, false, false, false, false, false] rfl rfl (by kernel_rfl) (fun _ _ _ h => h) (Or.inl ⟨by rfl, ?_⟩) ?_ ?_
  rotate_left
  · intro w'
    go_simp
    with_reducible rfl
  rotate_left
  · simp only [Act.put, List.setIfInBounds_toArray, List.set_cons_zero, List.set_cons_succ, i64_w, i32_w]
    rfl
  refine pure_ (i := 20) (N := some 49) (v := ?_) (a' := ?_) #[true, true, true, true, true, true, true, true, true, true, true, true, true, true, true, true, true, true, true, true, true, false, false, false, false, false, false, false, false, false, false, false, false, false, false, false, false, false, false, false, false, false] rfl rfl (by kernel_rfl) (fun _ _ _ h => h) (Or.inl ⟨by rfl, ?_⟩) ?_ ?_
  rotate_left
  · intro w'
    go_simp
    with_reducible rfl
  rotate_left
  · simp only [Act.put, List.setIfInBounds_toArray, List.set_cons_zero, List.set_cons_succ, i64_w, i32_w]
    rfl
  refine pure_ (i := 21) (N := some 50) (v := ?_) (a' := ?_) #[true, true, true, true, true, true, true, true, true, true, true, true, true, true, true, true, true, true, true, true, true, true, false, false, false, false, false, false, false, false, false, false, false, false, false, false, false, false, false, false, false, false] rfl rfl (by kernel_rfl) (fun _ _ _ h => h) (Or.inl ⟨by rfl, ?_⟩) ?_ ?_
  rotate_left
  · intro w'
    go_simp
    with_reducible rfl
  rotate_left
  · simp only [Act.put, List.setIfInBounds_toArray, List.set_cons_zero, List.set_cons_succ, i64_w, i32_w]
    rfl
  refine pure_ (i := 22) (N := some 51) (v := ?_) (a' := ?_) #[true, true, true, true, true, true, true, true, true, true, true, true, true, true, true, true, true, true, true, true, true, true, true, false, false, false, false, false, false, false, false, false, false, false, false, false, false, false, false, false, false, false] rfl rfl (by kernel_rfl) (fun _ _ _ h => h) (Or.inl ⟨by rfl, ?_⟩) ?_ ?_
  rotate_left
  · intro w'
    go_simp
    with_reducible rfl
  rotate_left
  · simp only [Act.put, List.setIfInBounds_toArray, List.set_cons_zero, List.set_cons_succ, i64_w, i32_w]
    rfl
  refine one_ (i := 23) (N := some 52) #[true, true, true, true, true, true, true, true, true, true, true, true, true, true, true, true, true, true, true, true, true, true, true, true, false, false, false, false, false, false, false, false, false, false, false, false, false, false, false, false, false, false] rfl rfl (by kernel_rfl) (by decide) (fun K hK => ?_)
  refine goes_ Try.func98 (by kernel_rfl) rfl #[.int .i64 9, .int .i64 10, .int .i64 0, .int .i64 5] (by rfl) rfl rfl (by simp only [List.map_toArray, List.map_cons, List.map_nil]; rfl) ?_
  with_reducible refine (L31_rect.calls 9 10 0 5 _ _ _ _ _ rfl).mono ?_
  rintro e w23_ ⟨rfl, hB⟩
  refine ⟨_, rfl, ?_⟩
  have HBK := Aside0.mk hB
  clear hB
  have HT := Aside0.mk (rtK_below HT.out HBK.out)
  have HBW := Aside0.mk (HBW.out.trans (HBK.out.mono HBW.out.size))
  refine hK.out _ _ ⟨(pw_cell_below HBK.out hHeld.1), (pw_cell_below HBK.out hHeld.2.1), (pw_cell_below HBK.out hHeld.2.2.1), (pw_cell_below HBK.out hHeld.2.2.2)⟩ (fun hHeld => ?_)
  clear hK K
  refine norm_ (a' := ?_) ?_ ?_
  rotate_left
  · show Act.put _ (some 52) _ = _
    simp only [Act.put, List.setIfInBounds_toArray, List.set_cons_zero, List.set_cons_succ, i64_w, i32_w]
    rfl
  refine one_ (i := 24) (N := some 53) #[true, true, true, true, true, true, true, true, true, true, true, true, true, true, true, true, true, true, true, true, true, true, true, true, true, false, false, false, false, false, false, false, false, false, false, false, false, false, false, false, false, false] rfl rfl (by kernel_rfl) (by decide) (fun K hK => ?_)
  refine goes_ Try.func93 (by kernel_rfl) rfl #[.pointer (some ⟨tb, 0, none⟩), .agg #[.int .i64 9, .int .i64 10, .int .i64 0, .int .i64 5]] (by rfl) rfl rfl (by simp only [List.map_toArray, List.map_cons, List.map_nil]; rfl) ?_
  with_reducible refine (visc4b _ _ HT.out).mono ?_
  rintro e w24_ ⟨rfl, hB⟩
  refine ⟨_, rfl, ?_⟩
  have HBK := Aside0.mk hB
  clear hB
  have HT := Aside0.mk (rtK_below HT.out HBK.out)
  have HBW := Aside0.mk (HBW.out.trans (HBK.out.mono HBW.out.size))
  refine hK.out _ _ ⟨(pw_cell_below HBK.out hHeld.1), (pw_cell_below HBK.out hHeld.2.1), (pw_cell_below HBK.out hHeld.2.2.1), (pw_cell_below HBK.out hHeld.2.2.2)⟩ (fun hHeld => ?_)
  clear hK K
  refine norm_ (a' := ?_) ?_ ?_
  rotate_left
  · show Act.put _ (some 53) _ = _
    simp only [Act.put, List.setIfInBounds_toArray, List.set_cons_zero, List.set_cons_succ, i64_w, i32_w]
    rfl
  refine pure_ (i := 25) (N := some 54) (v := ?_) (a' := ?_) #[true, true, true, true, true, true, true, true, true, true, true, true, true, true, true, true, true, true, true, true, true, true, true, true, true, true, false, false, false, false, false, false, false, false, false, false, false, false, false, false, false, false] rfl rfl (by kernel_rfl) (fun _ _ _ h => h) (Or.inl ⟨by rfl, ?_⟩) ?_ ?_
  rotate_left
  · intro w'
    go_simp
    with_reducible rfl
  rotate_left
  · simp only [Act.put, List.setIfInBounds_toArray, List.set_cons_zero, List.set_cons_succ, i64_w, i32_w]
    rfl
  refine pure_ (i := 26) (N := some 55) (v := ?_) (a' := ?_) #[true, true, true, true, true, true, true, true, true, true, true, true, true, true, true, true, true, true, true, true, true, true, true, true, true, true, true, false, false, false, false, false, false, false, false, false, false, false, false, false, false, false] rfl rfl (by kernel_rfl) (fun _ _ _ h => h) (Or.inl ⟨by rfl, ?_⟩) ?_ ?_
  rotate_left
  · intro w'
    go_simp
    with_reducible rfl
  rotate_left
  · simp only [Act.put, List.setIfInBounds_toArray, List.set_cons_zero, List.set_cons_succ, i64_w, i32_w]
    rfl
  refine pure_ (i := 27) (N := some 56) (v := ?_) (a' := ?_) #[true, true, true, true, true, true, true, true, true, true, true, true, true, true, true, true, true, true, true, true, true, true, true, true, true, true, true, true, false, false, false, false, false, false, false, false, false, false, false, false, false, false] rfl rfl (by kernel_rfl) (fun _ _ _ h => h) (Or.inl ⟨by rfl, ?_⟩) ?_ ?_
  rotate_left
  · intro w'
    go_simp
    with_reducible rfl
  rotate_left
  · simp only [Act.put, List.setIfInBounds_toArray, List.set_cons_zero, List.set_cons_succ, i64_w, i32_w]
    rfl
  refine pure_ (i := 28) (N := some 57) (v := ?_) (a' := ?_) #[true, true, true, true, true, true, true, true, true, true, true, true, true, true, true, true, true, true, true, true, true, true, true, true, true, true, true, true, true, false, false, false, false, false, false, false, false, false, false, false, false, false] rfl rfl (by kernel_rfl) (fun _ _ _ h => h) (Or.inl ⟨by rfl, ?_⟩) ?_ ?_
  rotate_left
  · intro w'
    go_simp
    with_reducible rfl
  rotate_left
  · simp only [Act.put, List.setIfInBounds_toArray, List.set_cons_zero, List.set_cons_succ, i64_w, i32_w]
    rfl
  refine join_ (σ := Option Addr × Nat × Option Addr) 11 #[true, true, true, true, true, true, true, true, true, true, true, true, true, true, true, true, true, true, true, true, true, true, true, true, true, true, true, true, true, true, true, false, false, false, false, false, false, false, false, false, false, false] (fun s => [(58, .slice s.1 1 s.2.1), (59, .slice s.2.2 1 1)]) (fun s w' => (w'.cell? ⟨gb, 0, none⟩ = some (.int .i64 0) ∧ w'.cell? ⟨gb, 1, none⟩ = some (.int .i64 8) ∧ w'.cell? ⟨gb, 2, none⟩ = some (.int .i64 0) ∧ w'.cell? ⟨gb, 3, none⟩ = some (.int .i64 5)) ∧ rtK w' (.pointer (some ⟨tb, 0, none⟩)) T4 ∧ Below w.heap.size w w' ∧ 1 ≤ s.2.1 ∧ Kd.C (Kd.int .i64) w' s.1 1 [3] ∧ Kd.C (Kd.int .i64) w' s.2.2 1 [3]) ?_ ?_
  rotate_left
  · intro hCont
    refine two_ (i := 29) (j := 30) (Ni := some 58) (Nj := some 59) #[true, true, true, true, true, true, true, true, true, true, true, true, true, true, true, true, true, true, true, true, true, true, true, true, true, true, true, true, true, true, false, false, false, false, false, false, false, false, false, false, false, false] #[true, true, true, true, true, true, true, true, true, true, true, true, true, true, true, true, true, true, true, true, true, true, true, true, true, true, true, true, true, false, true, false, false, false, false, false, false, false, false, false, false, false] rfl rfl rfl rfl (by kernel_rfl) (by decide) (by decide) (fun K hK => ?_) (fun K hK => ?_)
    · skip
      refine goes_ Try.func95 (by kernel_rfl) rfl #[.pointer (some ⟨tb, 0, none⟩), .int .i64 5, .int .i64 4] (by rfl) rfl rfl (by simp only [List.map_toArray, List.map_cons, List.map_nil]; rfl) ?_
      with_reducible refine (stabc4 _ _ HT.out).mono ?_
      rintro e w29_ ⟨⟨A_, c_, rfl, hc_, hC_⟩, hB⟩
      refine ⟨_, rfl, ?_⟩
      have HBK := Aside0.mk hB
      clear hB
      have HT := Aside0.mk (rtK_below HT.out HBK.out)
      have HBW := Aside0.mk (HBW.out.trans (HBK.out.mono HBW.out.size))
      have HC := Aside0.mk (And.intro hc_ hC_)
      clear hc_ hC_
      refine hK.out _ _ ⟨(pw_cell_below HBK.out hHeld.1), (pw_cell_below HBK.out hHeld.2.1), (pw_cell_below HBK.out hHeld.2.2.1), (pw_cell_below HBK.out hHeld.2.2.2)⟩ (fun hHeld => ?_)
      clear hK K
      refine norm_ (a' := ?_) ?_ ?_
      rotate_left
      · show Act.put _ (some 58) _ = _
        simp only [Act.put, List.setIfInBounds_toArray, List.set_cons_zero, List.set_cons_succ, i64_w, i32_w]
        rfl
      refine one_ (i := 30) (N := some 59) #[true, true, true, true, true, true, true, true, true, true, true, true, true, true, true, true, true, true, true, true, true, true, true, true, true, true, true, true, true, true, true, false, false, false, false, false, false, false, false, false, false, false] rfl rfl (by kernel_rfl) (by decide) (fun K hK => ?_)
      refine value_ (w1 := ?_) (v := ?_) (by rfl) rfl ?_ ?_
      rotate_left 2
      · go_simp
        constructor
        · rfl
        · rfl
      have HBK := Aside0.mk (below_alloc (Below.refl (w29_).heap.size w29_) (.cells #[.int .i64 3] 3))
      have HT := Aside0.mk (rtK_below HT.out HBK.out)
      have HBW := Aside0.mk (HBW.out.trans (HBK.out.mono HBW.out.size))
      have HC := Aside0.mk (And.intro HC.out.1 (Kd.C_below HC.out.2 HBK.out))
      have HL := Aside0.mk (lit3 w29_)
      refine hK.out _ _ ⟨(pw_cell_below HBK.out hHeld.1), (pw_cell_below HBK.out hHeld.2.1), (pw_cell_below HBK.out hHeld.2.2.1), (pw_cell_below HBK.out hHeld.2.2.2)⟩ (fun hHeld => ?_)
      clear hK K
      refine norm_ (a' := ?_) ?_ ?_
      rotate_left
      · show Act.put _ (some 59) _ = _
        simp only [Act.put, List.setIfInBounds_toArray, List.set_cons_zero, List.set_cons_succ, i64_w, i32_w]
        rfl
      exact norm_ (by first | (simp only [Go.Proofs.YtdcelpppgbmlaaaW.PrintLast.putAll, Act.put, List.setIfInBounds_toArray, List.set_cons_zero, List.set_cons_succ]; done) | (simp only [Go.Proofs.YtdcelpppgbmlaaaW.PrintLast.putAll, Act.put, List.setIfInBounds_toArray, List.set_cons_zero, List.set_cons_succ]; rfl)) (hCont (A_, c_, some ⟨w29_.heap.size, 0, none⟩) _ ⟨hHeld, HT.out, HBW.out, HC.out.1, HC.out.2, HL.out⟩)
    · skip
      refine value_ (w1 := ?_) (v := ?_) (by rfl) rfl ?_ ?_
      rotate_left 2
      · go_simp
        constructor
        · rfl
        · rfl
      have HBK := Aside0.mk (below_alloc (Below.refl (w24_).heap.size w24_) (.cells #[.int .i64 3] 3))
      have HT := Aside0.mk (rtK_below HT.out HBK.out)
      have HBW := Aside0.mk (HBW.out.trans (HBK.out.mono HBW.out.size))
      have HL := Aside0.mk (lit3 w24_)
      refine hK.out _ _ ⟨(pw_cell_below HBK.out hHeld.1), (pw_cell_below HBK.out hHeld.2.1), (pw_cell_below HBK.out hHeld.2.2.1), (pw_cell_below HBK.out hHeld.2.2.2)⟩ (fun hHeld => ?_)
      clear hK K
      refine norm_ (a' := ?_) ?_ ?_
      rotate_left
      · show Act.put _ (some 59) _ = _
        simp only [Act.put, List.setIfInBounds_toArray, List.set_cons_zero, List.set_cons_succ, i64_w, i32_w]
        rfl
      refine one_ (i := 29) (N := some 58) #[true, true, true, true, true, true, true, true, true, true, true, true, true, true, true, true, true, true, true, true, true, true, true, true, true, true, true, true, true, true, true, false, false, false, false, false, false, false, false, false, false, false] rfl rfl (by kernel_rfl) (by decide) (fun K hK => ?_)
      refine goes_ Try.func95 (by kernel_rfl) rfl #[.pointer (some ⟨tb, 0, none⟩), .int .i64 5, .int .i64 4] (by rfl) rfl rfl (by simp only [List.map_toArray, List.map_cons, List.map_nil]; rfl) ?_
      with_reducible refine (stabc4 _ _ HT.out).mono ?_
      rintro e w29_x30 ⟨⟨A_, c_, rfl, hc_, hC_⟩, hB⟩
      refine ⟨_, rfl, ?_⟩
      have HBK := Aside0.mk hB
      clear hB
      have HT := Aside0.mk (rtK_below HT.out HBK.out)
      have HBW := Aside0.mk (HBW.out.trans (HBK.out.mono HBW.out.size))
      have HL := Aside0.mk (Kd.C_below HL.out HBK.out)
      have HC := Aside0.mk (And.intro hc_ hC_)
      clear hc_ hC_
      refine hK.out _ _ ⟨(pw_cell_below HBK.out hHeld.1), (pw_cell_below HBK.out hHeld.2.1), (pw_cell_below HBK.out hHeld.2.2.1), (pw_cell_below HBK.out hHeld.2.2.2)⟩ (fun hHeld => ?_)
      clear hK K
      refine norm_ (a' := ?_) ?_ ?_
      rotate_left
      · show Act.put _ (some 58) _ = _
        simp only [Act.put, List.setIfInBounds_toArray, List.set_cons_zero, List.set_cons_succ, i64_w, i32_w]
        rfl
      exact norm_ (by first | (simp only [Go.Proofs.YtdcelpppgbmlaaaW.PrintLast.putAll, Act.put, List.setIfInBounds_toArray, List.set_cons_zero, List.set_cons_succ]; done) | (simp only [Go.Proofs.YtdcelpppgbmlaaaW.PrintLast.putAll, Act.put, List.setIfInBounds_toArray, List.set_cons_zero, List.set_cons_succ]; rfl)) (hCont (A_, c_, some ⟨w24_.heap.size, 0, none⟩) _ ⟨hHeld, HT.out, HBW.out, HC.out.1, HC.out.2, HL.out⟩)
  rintro ⟨A_, c_, a2_⟩ w30_ ⟨hHeld, hT_, hBW_, hc_, hC_, hL_⟩
  have HT := Aside0.mk hT_
  have HBW := Aside0.mk hBW_
  have HC : Aside0 (1 ≤ c_ ∧ Kd.C (Kd.int .i64) w30_ A_ 1 [3]) := ⟨And.intro hc_ hC_⟩
  have HL : Aside0 (Kd.C (Kd.int .i64) w30_ a2_ 1 [3]) := ⟨hL_⟩
  clear hT_ hBW_ hc_ hC_ hL_
  refine norm_ (a' := ?_) ?_ ?_
  rotate_left
  · simp only [Go.Proofs.YtdcelpppgbmlaaaW.PrintLast.putAll, Act.put, List.setIfInBounds_toArray, List.set_cons_zero, List.set_cons_succ]
    rfl
  refine one_ (i := 31) (N := some 60) #[true, true, true, true, true, true, true, true, true, true, true, true, true, true, true, true, true, true, true, true, true, true, true, true, true, true, true, true, true, true, true, true, false, false, false, false, false, false, false, false, false, false] rfl rfl (by kernel_rfl) (by decide) (fun K hK => ?_)
  refine goes_ Try.func91 (by kernel_rfl) rfl #[.slice A_ 1 c_, .slice a2_ 1 1] (by rfl) rfl rfl (by simp only [List.map_toArray, List.map_cons, List.map_nil]; rfl) ?_
  with_reducible refine (ints3 A_ c_ a2_ _ HC.out HL.out).mono ?_
  rintro e w31_ ⟨rfl, hB⟩
  refine ⟨_, rfl, ?_⟩
  have HBK := Aside0.mk hB
  clear hB
  have HT := Aside0.mk (rtK_below HT.out HBK.out)
  have HBW := Aside0.mk (HBW.out.trans (HBK.out.mono HBW.out.size))
  refine hK.out _ _ ⟨(pw_cell_below HBK.out hHeld.1), (pw_cell_below HBK.out hHeld.2.1), (pw_cell_below HBK.out hHeld.2.2.1), (pw_cell_below HBK.out hHeld.2.2.2)⟩ (fun hHeld => ?_)
  clear hK K
  refine norm_ (a' := ?_) ?_ ?_
  rotate_left
  · show Act.put _ (some 60) _ = _
    simp only [Act.put, List.setIfInBounds_toArray, List.set_cons_zero, List.set_cons_succ, i64_w, i32_w]
    rfl
  refine pure_ (i := 32) (N := some 61) (v := ?_) (a' := ?_) #[true, true, true, true, true, true, true, true, true, true, true, true, true, true, true, true, true, true, true, true, true, true, true, true, true, true, true, true, true, true, true, true, true, false, false, false, false, false, false, false, false, false] rfl rfl (by kernel_rfl) (fun _ _ _ h => h) (Or.inl ⟨by rfl, ?_⟩) ?_ ?_
  rotate_left
  · intro w'
    go_simp
    with_reducible rfl
  rotate_left
  · simp only [Act.put, List.setIfInBounds_toArray, List.set_cons_zero, List.set_cons_succ, i64_w, i32_w]
    rfl
  refine pure_ (i := 33) (N := some 62) (v := ?_) (a' := ?_) #[true, true, true, true, true, true, true, true, true, true, true, true, true, true, true, true, true, true, true, true, true, true, true, true, true, true, true, true, true, true, true, true, true, true, false, false, false, false, false, false, false, false] rfl rfl (by kernel_rfl) (fun _ _ _ h => h) (Or.inl ⟨by rfl, ?_⟩) ?_ ?_
  rotate_left
  · intro w'
    go_simp
    with_reducible rfl
  rotate_left
  · simp only [Act.put, List.setIfInBounds_toArray, List.set_cons_zero, List.set_cons_succ, i64_w, i32_w]
    rfl
  refine pure_ (i := 34) (N := some 63) (v := ?_) (a' := ?_) #[true, true, true, true, true, true, true, true, true, true, true, true, true, true, true, true, true, true, true, true, true, true, true, true, true, true, true, true, true, true, true, true, true, true, true, false, false, false, false, false, false, false] rfl rfl (by kernel_rfl) (fun _ _ _ h => h) (Or.inl ⟨by rfl, ?_⟩) ?_ ?_
  rotate_left
  · intro w'
    go_simp
    with_reducible rfl
  rotate_left
  · simp only [Act.put, List.setIfInBounds_toArray, List.set_cons_zero, List.set_cons_succ, i64_w, i32_w]
    rfl
  refine pure_ (i := 35) (N := some 64) (v := ?_) (a' := ?_) #[true, true, true, true, true, true, true, true, true, true, true, true, true, true, true, true, true, true, true, true, true, true, true, true, true, true, true, true, true, true, true, true, true, true, true, true, false, false, false, false, false, false] rfl rfl (by kernel_rfl) (fun _ _ _ h => h) (Or.inl ⟨by rfl, ?_⟩) ?_ ?_
  rotate_left
  · intro w'
    go_simp
    with_reducible rfl
  rotate_left
  · simp only [Act.put, List.setIfInBounds_toArray, List.set_cons_zero, List.set_cons_succ, i64_w, i32_w]
    rfl
  refine pure_ (i := 36) (N := some 65) (v := ?_) (a' := ?_) #[true, true, true, true, true, true, true, true, true, true, true, true, true, true, true, true, true, true, true, true, true, true, true, true, true, true, true, true, true, true, true, true, true, true, true, true, true, false, false, false, false, false] rfl rfl (by kernel_rfl) (fun _ _ _ h => h) (Or.inl ⟨by rfl, ?_⟩) ?_ ?_
  rotate_left
  · intro w'
    go_simp
    with_reducible rfl
  rotate_left
  · simp only [Act.put, List.setIfInBounds_toArray, List.set_cons_zero, List.set_cons_succ, i64_w, i32_w]
    rfl
  refine take_ (i := 37) (N := some 66) (v := ?_) (a' := ?_) #[true, true, true, true, true, true, true, true, true, true, true, true, true, true, true, true, true, true, true, true, true, true, true, true, true, true, true, true, true, true, true, true, true, true, true, true, true, true, false, false, false, false] rfl rfl (by kernel_rfl) (fun _ _ _ h => h) (Or.inl ⟨by rfl, ?_⟩) hHeld ?_ ?_
  rotate_left
  · rintro w' ⟨s0, s1, s2, s3⟩
    go_simp
    with_reducible rfl
  rotate_left
  · simp only [Act.put, List.setIfInBounds_toArray, List.set_cons_zero, List.set_cons_succ, i64_w, i32_w]
    rfl
  refine one_ (i := 38) (N := some 67) #[true, true, true, true, true, true, true, true, true, true, true, true, true, true, true, true, true, true, true, true, true, true, true, true, true, true, true, true, true, true, true, true, true, true, true, true, true, true, true, false, false, false] rfl rfl (by kernel_rfl) (by decide) (fun K hK => ?_)
  refine goes_ Try.func98 (by kernel_rfl) rfl #[.int .i64 0, .int .i64 8, .int .i64 0, .int .i64 5] (by rfl) rfl rfl (by simp only [List.map_toArray, List.map_cons, List.map_nil]; rfl) ?_
  with_reducible refine (L31_rect.calls 0 8 0 5 _ _ _ _ _ rfl).mono ?_
  rintro e w38_ ⟨rfl, hB⟩
  refine ⟨_, rfl, ?_⟩
  have HBK := Aside0.mk hB
  clear hB
  have HT := Aside0.mk (rtK_below HT.out HBK.out)
  have HBW := Aside0.mk (HBW.out.trans (HBK.out.mono HBW.out.size))
  refine hK.out _ _ ⟨(pw_cell_below HBK.out hHeld.1), (pw_cell_below HBK.out hHeld.2.1), (pw_cell_below HBK.out hHeld.2.2.1), (pw_cell_below HBK.out hHeld.2.2.2)⟩ (fun hHeld => ?_)
  clear hK K
  refine norm_ (a' := ?_) ?_ ?_
  rotate_left
  · show Act.put _ (some 67) _ = _
    simp only [Act.put, List.setIfInBounds_toArray, List.set_cons_zero, List.set_cons_succ, i64_w, i32_w]
    rfl
  refine pure_ (i := 39) (N := some 68) (v := ?_) (a' := ?_) #[true, true, true, true, true, true, true, true, true, true, true, true, true, true, true, true, true, true, true, true, true, true, true, true, true, true, true, true, true, true, true, true, true, true, true, true, true, true, true, true, false, false] rfl rfl (by kernel_rfl) (fun _ _ _ h => h) (Or.inl ⟨by rfl, ?_⟩) ?_ ?_
  rotate_left
  · intro w'
    go_simp
    with_reducible rfl
  rotate_left
  · simp only [Act.put, List.setIfInBounds_toArray, List.set_cons_zero, List.set_cons_succ, i64_w, i32_w]
    rfl
  refine pure_ (i := 40) (N := some 69) (v := ?_) (a' := ?_) #[true, true, true, true, true, true, true, true, true, true, true, true, true, true, true, true, true, true, true, true, true, true, true, true, true, true, true, true, true, true, true, true, true, true, true, true, true, true, true, true, true, false] rfl rfl (by kernel_rfl) (fun _ _ _ h => h) (Or.inl ⟨by rfl, ?_⟩) ?_ ?_
  rotate_left
  · intro w'
    go_simp
    with_reducible rfl
  rotate_left
  · simp only [Act.put, List.setIfInBounds_toArray, List.set_cons_zero, List.set_cons_succ, i64_w, i32_w]
    rfl
  refine pure_ (i := 41) (N := some 0) (v := ?_) (a' := ?_) #[true, true, true, true, true, true, true, true, true, true, true, true, true, true, true, true, true, true, true, true, true, true, true, true, true, true, true, true, true, true, true, true, true, true, true, true, true, true, true, true, true, true] rfl rfl (by kernel_rfl) (fun _ _ _ h => h) (Or.inl ⟨by rfl, ?_⟩) ?_ ?_
  rotate_left
  · intro w'
    go_simp
    with_reducible rfl
  rotate_left
  · simp only [Act.put, List.setIfInBounds_toArray, List.set_cons_zero, List.set_cons_succ, i64_w, i32_w]
    rfl
  refine done_ (by kernel_rfl) ?_
  go_wp2_with (fail)
  go_ret
  exact ⟨rfl, HBW.out⟩
end Go.Proofs.Ytdcelpppgbmlaaa.P
