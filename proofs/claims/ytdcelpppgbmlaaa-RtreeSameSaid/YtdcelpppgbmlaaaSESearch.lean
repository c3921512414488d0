/- rtree's Search and Visits: ranges over the nodes that are examined. -/
import Derived.Test.YtdcelpppgbmlaaaSEExam
import Derived.RangeFuncBox
import Derived.RangeFuncNested
import Derived.Test.YtdcelpppgbmlaaaSESort
namespace Go.Proofs.Ytdcelpppgbmlaaa.P
open Go.RowKit Go.Shelf Go.Proofs.YtdcelpppgbmlaaaW.PrintWords Go.Proofs.YtdcelpppgbmlaaaW.PrintLast Go.Proofs.YtdcelpppgbmlaaaW.PrintMore
set_option linter.unusedSimpArgs false
set_option linter.unusedVariables false
attribute [local go_sem] Oper.semAt_some
theorem rtK_ptr {W : World} {v : Value} {T : RT} (h : rtK W v T) : ∃ p, v = .pointer p := by
  cases T with
  | none => exact ⟨_, h⟩
  | some x => obtain ⟨tb, rv, e, _⟩ := h; exact ⟨_, e⟩
set_option maxHeartbeats 1000000 in
theorem exam_in (n : Nat) (p : Option Addr) (r : S41) (w : World) :
    CallsIn Fence.wide n Try.prog 129 #[.pointer p, .agg #[.int .i64 r.f0.f0, .int .i64 r.f0.f1, .int .i64 r.f1.f0, .int .i64 r.f1.f1]] w fun e w' => e = .returned (.func (.func 168) #[] #[.pointer (some ⟨w.heap.size, 0, none⟩), .pointer (some ⟨w.heap.size + 1, 0, none⟩)]) ∧
      w' = (w.alloc (.cells #[.pointer p] 46)).alloc (.cells #[.int .i64 r.f0.f0, .int .i64 r.f0.f1, .int .i64 r.f1.f0, .int .i64 r.f1.f1] 41) := by
  refine callsIn_of_wp Try.func129 rfl trivial ?_ rfl
  simp only [Try.ntmps129, List.size_toArray, List.length_cons, List.length_nil, Nat.reduceAdd, Nat.reduceSub, Array.replicate_succ, Array.replicate_zero, List.push_toArray, List.append_toArray, List.nil_append, List.cons_append]
  gi_wp2
  go_ret
  exact ⟨by simp, rfl⟩
theorem exam_stops (n : Nat) (w0 : World) (v : Value) (T : RT) (hT : rtK w0 v T) (r : S41) (Bt Br N M : Nat) (hM1 : M ≤ 1000000) (hG : GoodT M T) (hN : rtVisits T r ≤ N) (w : World) (hb : Below w0.heap.size w0 w)
    (ht : w.heap[Bt]? = some (.cells #[v] 46 (0, 0))) (hr : w.heap[Br]? = some (.cells #[.int .i64 r.f0.f0, .int .i64 r.f0.f1, .int .i64 r.f1.f0, .int .i64 r.f1.f1] 41 (0, 0))) :
    SeqStopsK Fence.wide n Try.prog 168 #[.pointer (some ⟨Bt, 0, none⟩), .pointer (some ⟨Br, 0, none⟩)] (fun x : NodeAt w0 M => #[nodeV x.1.1]) (KpE w0.heap.size) (fun ys => ys.map (·.1.2.2) = rtNodes T r) (fun _ => True) N w := fun l J Jx W hW hJ hJx hY h0 =>
  callsIn_wide.2 ((exam1_calls w0 v T hT r Bt Br N M hM1 hG hN l J Jx W (hb.trans (hW.mono hb.size)) (blk_below ht hW) (blk_below hr hW) hJ (fun pre x W1 hj hl => yield_any (hY pre x W1 hj hl)) h0).mono fun e W' h => ⟨h.1, h.2.imp id (fun ⟨pre, hp⟩ => ⟨pre, trivial, hp⟩)⟩)
theorem KpE.setCell {B b i : Nat} {W : World} {cs : Array Value} {t : TypeId} {fr : Nat × Nat} (h : W.heap[b]? = some (.cells cs t fr)) (ht : t = 3 ∨ t = 28) (hB : B ≤ b) (u : Value) : KpE B W (W.setCell ⟨b, i, none⟩ u) :=
  ⟨(Below.refl B W).setCell (p := ⟨b, i, none⟩) hB u, fun k cs' t' fr' hk h3 h28 => Below.heap_setCell W ⟨b, i, none⟩ u k (fun e => by
    have e' : k = b := e
    rw [e', h] at hk
    cases hk
    rcases ht with ht | ht
    · exact h3 ht
    · exact h28 ht)⟩
theorem KpE.grown {B : Nat} {W W' : World} {row : Option Nat} (hg : W.grownBy W' row) (hB : B ≤ W.heap.size) (hr : ∀ k, row = some k → B ≤ k ∧ ∃ cs fr, W.heap[k]? = some (.cells cs 3 fr)) : KpE B W W' :=
  ⟨(Below.refl B W).grown hg hB (fun k e => (hr k e).1), fun k cs t fr hk h3 _ => hg.block k (blk_lt hk) (fun e => by
    obtain ⟨_, cs', fr', h'⟩ := hr k e.symm
    rw [hk] at h'
    cases h'
    exact h3 rfl)⟩
theorem rtNodes_length (T : RT) (r : S41) : (rtNodes T r).length = rtVisits T r := by
  unfold rtNodes rtVisits
  cases rtRoot T with
  | none => rfl
  | some x =>
    show (if SndR r then visitL r x.1 x.2 else []).length = if SndR r then visitsOf r x.1 x.2 else 0
    split
    · exact visitL_length _ _ _
    · rfl
set_option maxRecDepth 100000 in
set_option maxHeartbeats 2000000 in
theorem rtree_Visits.calls (v : Value) (T : RT) (r : S41) (M : Nat) (hM1 : M ≤ 1000000) (hG : GoodT M T) (hN : rtVisits T r ≤ 1000000) (w : World) (hT : rtK w v T) :
    Calls Try.prog 93 #[v, .agg #[.int .i64 r.f0.f0, .int .i64 r.f0.f1, .int .i64 r.f1.f0, .int .i64 r.f1.f1]] w fun e w' => e = .returned (.int .i64 (rtVisits T r : Nat)) ∧ Below w.heap.size w w' := by
  obtain ⟨p, rfl⟩ := rtK_ptr hT
  refine (callsIn_wide (n := 6)).1 ?_
  have HT := Aside0.mk hT
  clear hT
  refine callsIn_of_wp_marks Try.func93 rfl trivial ?_ rfl
  simp only [Try.ntmps93, List.size_toArray, List.length_cons, List.length_nil, Nat.reduceAdd, Nat.reduceSub, Array.replicate_succ, Array.replicate_zero, List.push_toArray, List.append_toArray, List.nil_append, List.cons_append]
  have hfn : Fence.wide.fn 129 := trivial
  gi_wp2_with (gi_at_call 129; refine (exam_in _ p r _).mono ?_; rintro e w' ⟨rfl, rfl⟩)
  obtain ⟨W1, hW1⟩ : ∃ W1, W1 = ((((w.alloc (.cells #[.int .i64 r.f0.f0, .int .i64 r.f0.f1, .int .i64 r.f1.f0, .int .i64 r.f1.f1] 41)).alloc (.cells #[.int .i64 0] 3)).alloc (.cells #[.pointer p] 46)).alloc (.cells #[.int .i64 r.f0.f0, .int .i64 r.f0.f1, .int .i64 r.f1.f0, .int .i64 r.f1.f1] 41)) := ⟨_, rfl⟩
  rw [← hW1]
  have hsz : W1.heap.size = w.heap.size + 4 := by rw [hW1]; simp
  have hN1 : W1.heap[w.heap.size + 1]? = some (.cells #[.int .i64 0] 3 (0, 0)) := by rw [hW1]; refine blk_alloc (blk_alloc ?_ _) _; have := blk_new (w.alloc (.cells #[.int .i64 r.f0.f0, .int .i64 r.f0.f1, .int .i64 r.f1.f0, .int .i64 r.f1.f1] 41)) (.cells #[.int .i64 0] 3); simpa using this
  have hT1 : W1.heap[w.heap.size + 1 + 1]? = some (.cells #[.pointer p] 46 (0, 0)) := by rw [hW1]; refine blk_alloc ?_ _; have := blk_new ((w.alloc (.cells #[.int .i64 r.f0.f0, .int .i64 r.f0.f1, .int .i64 r.f1.f0, .int .i64 r.f1.f1] 41)).alloc (.cells #[.int .i64 0] 3)) (.cells #[.pointer p] 46); simpa using this
  have hR1 : W1.heap[w.heap.size + 1 + 1 + 1]? = some (.cells #[.int .i64 r.f0.f0, .int .i64 r.f0.f1, .int .i64 r.f1.f0, .int .i64 r.f1.f1] 41 (0, 0)) := by rw [hW1]; have := blk_new (((w.alloc (.cells #[.int .i64 r.f0.f0, .int .i64 r.f0.f1, .int .i64 r.f1.f0, .int .i64 r.f1.f1] 41)).alloc (.cells #[.int .i64 0] 3)).alloc (.cells #[.pointer p] 46)) (.cells #[.int .i64 r.f0.f0, .int .i64 r.f0.f1, .int .i64 r.f1.f0, .int .i64 r.f1.f1] 41); simpa using this
  have hb1 : Below w.heap.size w W1 := by rw [hW1]; exact below_alloc (below_alloc (below_alloc (below_alloc (Below.refl _ _) _) _) _) _
  clear hW1
  refine wpIn_rangeFunc_ownF (w0 := W1) rfl (by decide) (gf := 168) (lb := #[.pointer (some ⟨w.heap.size + 1 + 1, 0, none⟩), .pointer (some ⟨w.heap.size + 1 + 1 + 1, 0, none⟩)]) rfl trivial (enters_of Try.func168 (by kernel_rfl) rfl)
    (exam_stops _ w (.pointer p) T HT.out r (w.heap.size + 1 + 1) (w.heap.size + 1 + 1 + 1) (rtVisits T r) M hM1 hG (Nat.le_refl _) W1 hb1 hT1 hR1) (fun h k => KpE.trans h k) (KpE.book (by omega)) (Below.refl _ _) (fun _ => rfl)
    (fun pre W => W.heap[w.heap.size + 1]? = some (.cells #[.int .i64 (pre.length : Int)] 3 (0, 0)) ∧ Below w.heap.size w W) (fun _ _ _ => False) (((boxed_own (w.heap.size + 1) 3 (fun pre : List (NodeAt w M) => Value.int .i64 (pre.length : Int))).from _).and (ownFrom_below (Nat.le_refl _) (by omega))) (fun _ _ _ _ _ hs _ _ => hs)
    ⟨hN1, hb1⟩
    (fun x => { tmps := #[.pointer p, .agg #[.int .i64 r.f0.f0, .int .i64 r.f0.f1, .int .i64 r.f1.f0, .int .i64 r.f1.f1], undef, .pointer (some ⟨w.heap.size, 0, none⟩), .int .i64 0, .pointer (some ⟨w.heap.size + 1, 0, none⟩), .pointer p, .agg #[.int .i64 r.f0.f0, .int .i64 r.f0.f1, .int .i64 r.f1.f0, .int .i64 r.f1.f1], .func (.func 168) #[] #[.pointer (some ⟨w.heap.size + 1 + 1, 0, none⟩), .pointer (some ⟨w.heap.size + 1 + 1 + 1, 0, none⟩)], nodeV x.1.1, undef, undef, undef], defers := [] }) ?assign ?body ?done ?stop
  case assign =>
    intro l0 x W K hK
    gi_wp2
    simpa using hK
  case body =>
    rintro l0 pre x W ⟨hO, hB⟩ hlen
    have cO := box_cell hO
    have fO := blk_frozen hO 0
    have hw : wrap64 ((pre.length : Int) + 1) = ((pre.length + 1 : Nat) : Int) := w64k _ (by omega)
    have HO := Aside0.mk hO
    have HB := Aside0.mk hB
    clear hO hB
    gi_wp2
    refine ⟨KeepsOthers.setCell _ _ _, KpE.setCell HO.out (.inl rfl) (by omega) _, ?_, HB.out.setCell (p := ⟨w.heap.size + 1, 0, none⟩) (Nat.le_succ _) _⟩
    rw [List.length_append]
    exact blk_set HO.out 0 _
  case done =>
    rintro D ys W hD hys ⟨hO, hB⟩ hKd
    have cO := box_cell hO
    have hlen : ys.length = rtVisits T r := by rw [← rtNodes_length, ← hys, List.length_map]
    rw [hlen] at cO
    have HB := Aside0.mk hB
    have HD := Aside0.mk hKd
    clear hO hB hKd
    gi_wp2
    refine ⟨by simp, .inl ⟨_, _, rfl, run_takeDeferred HD.out, ?_⟩⟩
    refine ⟨_, results_tmp rfl _ _ _, rfl, ?_⟩
    exact (HB.out.grown (grownBy_putObj' W D (.deferred none)) (by have := HB.out.size; omega) (fun k e => by cases e; omega))
  case stop =>
    rintro D c pre W _ _ h _
    exact h.elim
section
variable {F : Fence} {n : Nat} {P : Program} {ops : Array Oper} {rest : List Oper} {o : Oper} {a : Act} {Q : Exit → Act → World → Prop} {α : Type}
theorem R_append_in (d : Kd α) {w0 W : World} (base : Nat) (hgd : o.guard = none) (s x : Operand) (t e : TypeId) (z : Value) (bytes : Nat)
    (ho : o.op = .call { callee := .builtin .append, args := #[s, x], argTypes := #[t, t] })
    (ht : P.underlying t = some (.slice e)) (hinfo : (P.info? e).map (fun i => (i.zero, i.size, i.bytes)) = some (some z, d.sz, bytes)) (hz : z.cells.size = d.sz) (hs0 : 0 < d.sz) (hb0 : 0 < bytes)
    (v : Value) (xs : List α) (p : α) (cs : List Value) (ok okp : Nat → Prop) (hs : a.eval s = v) (hx : a.eval x = .slice (some ⟨W.heap.size, 0, none⟩) 1 1) (hp : d.M W base okp p cs) (hokp : ∀ k, okp k → ok k ∧ some k ≠ v.ownBlock) (hfresh : ∀ k, W.heap.size ≤ k → ok k)
    (HO : Kd.R d e W base ok v xs) (HB : Below base w0 W) (hbase : base ≤ W.heap.size) (hl : (xs.length + 1) * bytes ≤ 140737488355328)
    (h : ∀ v1 w1, Kd.R d e w1 base ok v1 (xs ++ [p]) → Below base w0 w1 → W.grownBy w1 v.ownBlock → wpListIn F n P ops Q rest (a.put o.dst v1) w1) :
    wpListIn F n P ops Q (o :: rest) a (W.alloc (.cells cs.toArray e)) := by
  obtain ⟨h0, inner, hown, hr⟩ := HO
  refine in_append_cells base hgd s x t e z d.sz bytes ho ht hinfo hz hs0 hb0 v xs.length inner cs hs hx (d.K_len (d.K_of_M hp)) (d.K_one (d.K_of_M hp)) hown HB hbase hl ?_
  intro v1 w1 hown1 hb1 hg1 hat1
  exact h v1 w1 (Kd.R_appended h0 hr hp hokp hfresh hown1 hg1 hat1) hb1 hg1
end
def hitsL (r : S41) (l : List S51) : List Int := (l.filter fun b => decide (Ovr b.f0 r)).map (·.f1)
def idsOf {w0 : World} {M : Nat} (r : S41) (pre : List (NodeAt w0 M)) : List Int := (pre.map (·.1.2.2)).flatMap fun n => hitsL r n.f1
theorem hitsL_length (r : S41) (l : List S51) : (hitsL r l).length ≤ l.length := by unfold hitsL; rw [List.length_map]; exact List.length_filter_le _ _
theorem idsOf_length {w0 : World} {M : Nat} (r : S41) : ∀ (pre : List (NodeAt w0 M)), (idsOf r pre).length ≤ pre.length * M
  | [] => Nat.zero_le _
  | x :: pre => by
    have h1 := idsOf_length r pre
    have h2 := Nat.le_trans (hitsL_length r x.1.2.2.f1) x.2.2
    unfold idsOf at *
    rw [List.map_cons, List.flatMap_cons, List.length_append, List.length_cons, Nat.add_mul, Nat.one_mul]
    omega
theorem idsOf_snoc {w0 : World} {M : Nat} (r : S41) (pre : List (NodeAt w0 M)) (x : NodeAt w0 M) : idsOf r (pre ++ [x]) = idsOf r pre ++ hitsL r x.1.2.2.f1 := by
  unfold idsOf
  rw [List.map_append, List.flatMap_append]
  simp
theorem idsOf_all {w0 : World} {M : Nat} {T : RT} (hG : GoodT M T) (r : S41) {ys : List (NodeAt w0 M)} (h : ys.map (·.1.2.2) = rtNodes T r) : idsOf r ys = (rtHits T r).map (·.f1) := by
  unfold idsOf
  rw [h]
  unfold rtNodes rtHits
  cases hx : rtRoot T with
  | none => rfl
  | some x =>
    show (if SndR r then visitL r x.1 x.2 else []).flatMap (fun n => hitsL r n.f1) = (if SndR r then hits r x.1 x.2 else []).map (·.f1)
    split
    · rw [← visitL_hits r (hG x.1 x.2 hx).1, List.map_flatMap]
      rfl
    · rfl
theorem hitsL_step (r : S41) (l : List S51) (j : Nat) (h : j < l.length) : hitsL r (l.take (j + 1)) = hitsL r (l.take j) ++ (if Ovr l[j].f0 r then [l[j].f1] else []) := by
  unfold hitsL
  rw [List.take_succ_eq_append_getElem h, List.filter_append, List.map_append]
  by_cases c : Ovr l[j].f0 r <;> simp [c]
theorem keeps_below {W W' : World} (h : Below W.heap.size W W') : KeepsOthers W W' := ⟨h.size, fun k o hk _ => (h.block k (blk_lt hk)).trans hk⟩
def schI (w : World) (r : S41) (ids : List Int) (W : World) : Prop := ∃ v : Value, W.heap[w.heap.size]? = some (.cells #[.int .i64 r.f0.f0, .int .i64 r.f0.f1, .int .i64 r.f1.f0, .int .i64 r.f1.f1] 41 (0, 0)) ∧ W.heap[w.heap.size + 1]? = some (.cells #[v] 28 (0, 0)) ∧ Kd.R (Kd.int .i64) 3 W w.heap.size (fun _ => True) v ids ∧ Below w.heap.size w W
theorem schI_own (w : World) (r : S41) {B : Nat} (hB : w.heap.size ≤ B) {β : Type} (f : β → List Int) : OwnFrom B (fun s W => schI w r (f s) W) := by
  rintro s W W' row ⟨v, h1, h2, h3, h4⟩ hg hr
  have keep : ∀ (k : Nat) (cs : Array Value) (t : TypeId), W.heap[k]? = some (.cells cs t (0, 0)) → W'.heap[k]? = some (.cells cs t (0, 0)) := fun k cs t hk => (hg.block k (blk_lt hk) (fun e => by
    obtain ⟨_, o, ho, hc⟩ := hr k e.symm
    rw [hk] at ho
    cases ho
    cases hc)).trans hk
  refine ⟨v, keep _ _ _ h1, keep _ _ _ h2, Kd.R_grown2 h3 rfl hg (fun k e hv => ?_), h4.grown hg h4.size (fun k e => Nat.le_trans hB (hr k e).1)⟩
  obtain ⟨cells, hc⟩ := Kd.R_typed h3 k hv.symm
  obtain ⟨_, o, ho, hcc⟩ := hr k e
  rw [hc] at ho
  cases ho
  cases hcc
set_option maxRecDepth 100000 in
set_option maxHeartbeats 4000000 in
theorem rtree_Search.calls (v : Value) (T : RT) (r : S41) (M : Nat) (hM1 : M ≤ 1000000) (hG : GoodT M T) (hN : rtVisits T r ≤ 1000000) (w : World) (hT : rtK w v T) :
    Calls Try.prog 59 #[v, .agg #[.int .i64 r.f0.f0, .int .i64 r.f0.f1, .int .i64 r.f1.f0, .int .i64 r.f1.f1]] w fun e w' => ∃ v0 : Value, e = .returned v0 ∧ Kd.R (Kd.int .i64) 3 w' w.heap.size (fun _ => True) v0 (rtSearch T r) ∧ Below w.heap.size w w' := by
  obtain ⟨p, rfl⟩ := rtK_ptr hT
  refine (callsIn_wide (n := 6)).1 ?_
  have HT := Aside0.mk hT
  clear hT
  refine callsIn_of_wp_marks Try.func59 rfl trivial ?_ rfl
  simp only [Try.ntmps59, List.size_toArray, List.length_cons, List.length_nil, Nat.reduceAdd, Nat.reduceSub, Array.replicate_succ, Array.replicate_zero, List.push_toArray, List.append_toArray, List.nil_append, List.cons_append]
  have hfn : Fence.wide.fn 129 := trivial
  have hfn77 : Fence.wide.fn 77 := trivial
  gi_wp2_with (gi_at_call 129; refine (exam_in _ p r _).mono ?_; rintro e w' ⟨rfl, rfl⟩)
  obtain ⟨W1, hW1⟩ : ∃ W1, W1 = ((((w.alloc (.cells #[.int .i64 r.f0.f0, .int .i64 r.f0.f1, .int .i64 r.f1.f0, .int .i64 r.f1.f1] 41)).alloc (.cells #[.slice none 0 0] 28)).alloc (.cells #[.pointer p] 46)).alloc (.cells #[.int .i64 r.f0.f0, .int .i64 r.f0.f1, .int .i64 r.f1.f0, .int .i64 r.f1.f1] 41)) := ⟨_, rfl⟩
  rw [← hW1]
  have hsz : W1.heap.size = w.heap.size + 4 := by rw [hW1]; simp
  have h01 : W1.heap[w.heap.size]? = some (.cells #[.int .i64 r.f0.f0, .int .i64 r.f0.f1, .int .i64 r.f1.f0, .int .i64 r.f1.f1] 41 (0, 0)) := by rw [hW1]; exact blk_alloc (blk_alloc (blk_alloc (blk_new w _) _) _) _
  have hN1 : W1.heap[w.heap.size + 1]? = some (.cells #[.slice none 0 0] 28 (0, 0)) := by rw [hW1]; refine blk_alloc (blk_alloc ?_ _) _; have := blk_new (w.alloc (.cells #[.int .i64 r.f0.f0, .int .i64 r.f0.f1, .int .i64 r.f1.f0, .int .i64 r.f1.f1] 41)) (.cells #[.slice none 0 0] 28); simpa using this
  have hT1 : W1.heap[w.heap.size + 1 + 1]? = some (.cells #[.pointer p] 46 (0, 0)) := by rw [hW1]; refine blk_alloc ?_ _; have := blk_new ((w.alloc (.cells #[.int .i64 r.f0.f0, .int .i64 r.f0.f1, .int .i64 r.f1.f0, .int .i64 r.f1.f1] 41)).alloc (.cells #[.slice none 0 0] 28)) (.cells #[.pointer p] 46); simpa using this
  have hR1 : W1.heap[w.heap.size + 1 + 1 + 1]? = some (.cells #[.int .i64 r.f0.f0, .int .i64 r.f0.f1, .int .i64 r.f1.f0, .int .i64 r.f1.f1] 41 (0, 0)) := by rw [hW1]; have := blk_new (((w.alloc (.cells #[.int .i64 r.f0.f0, .int .i64 r.f0.f1, .int .i64 r.f1.f0, .int .i64 r.f1.f1] 41)).alloc (.cells #[.slice none 0 0] 28)).alloc (.cells #[.pointer p] 46)) (.cells #[.int .i64 r.f0.f0, .int .i64 r.f0.f1, .int .i64 r.f1.f0, .int .i64 r.f1.f1] 41); simpa using this
  have hb1 : Below w.heap.size w W1 := by rw [hW1]; exact below_alloc (below_alloc (below_alloc (below_alloc (Below.refl _ _) _) _) _) _
  clear hW1
  refine wpIn_rangeFunc_ownF (w0 := W1) rfl (by decide) (gf := 168) (lb := #[.pointer (some ⟨w.heap.size + 1 + 1, 0, none⟩), .pointer (some ⟨w.heap.size + 1 + 1 + 1, 0, none⟩)]) rfl trivial (enters_of Try.func168 (by kernel_rfl) rfl)
    (exam_stops _ w (.pointer p) T HT.out r (w.heap.size + 1 + 1) (w.heap.size + 1 + 1 + 1) (rtVisits T r) M hM1 hG (Nat.le_refl _) W1 hb1 hT1 hR1) (fun h k => KpE.trans h k) (KpE.book (by omega)) (Below.refl _ _) (fun _ => rfl)
    (fun pre W => schI w r (idsOf r pre) W) (fun _ _ _ => False) (schI_own w r (by omega) _) (fun _ _ _ _ _ hs _ _ => hs)
    ⟨_, h01, hN1, Kd.R_nil _ _ _ _ _, hb1⟩
    (fun x => { tmps := #[.pointer p, .agg #[.int .i64 r.f0.f0, .int .i64 r.f0.f1, .int .i64 r.f1.f0, .int .i64 r.f1.f1], undef, .pointer (some ⟨w.heap.size, 0, none⟩), .slice none 0 0, .pointer (some ⟨w.heap.size + 1, 0, none⟩), nodeV x.1.1, undef, undef, .pointer p, .agg #[.int .i64 r.f0.f0, .int .i64 r.f0.f1, .int .i64 r.f1.f0, .int .i64 r.f1.f1], .func (.func 168) #[] #[.pointer (some ⟨w.heap.size + 1 + 1, 0, none⟩), .pointer (some ⟨w.heap.size + 1 + 1 + 1, 0, none⟩)], nodeV x.1.1, undef, undef, undef, undef, undef, undef, undef, undef, undef, undef, undef, undef, undef, undef, undef, undef, undef, undef, undef, undef, undef, undef], defers := [] }) ?assign ?body ?done ?stop
  case assign =>
    intro l0 x W K hK
    gi_wp2
    first | exact hK | simpa using hK
  case body =>
    rintro l0 pre x W hI hlen
    have hib := idsOf_length r pre
    have hib2 : pre.length * M ≤ 1000000000000 := Nat.le_trans (Nat.mul_le_mul (Nat.le_of_lt (Nat.lt_of_lt_of_le hlen hN)) hM1) (by decide)
    have hsn := idsOf_snoc r pre x
    generalize hids : idsOf r pre = ids at hI hib hsn
    obtain ⟨⟨b, d, nd⟩, hK, hm⟩ := x
    obtain ⟨b', A4, c4, A5, c5, hbe, hn0, hl4, hC0, _, _⟩ := kN_open hK
    obtain rfl : b = b' := by simpa [nodeV] using hbe
    have hm' : nd.f1.length ≤ M := hm
    have hsn' : idsOf r (pre ++ [⟨(b, d, nd), hK, hm⟩]) = ids ++ hitsL r nd.f1 := hsn
    have HSN := Aside0.mk hsn'
    obtain ⟨v, h1, h2, h3, h4⟩ := hI
    have hnW := (h4.block b (blk_lt hn0)).trans hn0
    have c4' : W.cell? ⟨b, 4, none⟩ = some (.slice A4 nd.f1.length c4) := (blk_cell hnW 4).trans rfl
    have HH := Aside0.mk (And.intro h1 (And.intro h2 (And.intro h3 h4)))
    have HC := Aside0.mk hC0
    have HIB := Aside0.mk (And.intro hib (And.intro hib2 hm'))
    have hL6 : nd.f1.length ≤ 1000000 := Nat.le_trans hm' hM1
    clear h1 h2 h3 h4 hC0 hib hib2 hm' hsn hsn' hn0 hids hnW hl4 hbe
    gi_wp2
    clear c4'
    gi_loopw [18] (fun i wr => ∃ (j : Nat) (v : Value), j ≤ nd.f1.length ∧ i = .int .i64 j ∧ Aside0 (wr.heap[w.heap.size]? = some (.cells #[.int .i64 r.f0.f0, .int .i64 r.f0.f1, .int .i64 r.f1.f0, .int .i64 r.f1.f1] 41 (0, 0))) ∧ Aside0 (wr.heap[w.heap.size + 1]? = some (.cells #[v] 28 (0, 0))) ∧ Aside0 (Kd.R (Kd.int .i64) 3 wr w.heap.size (fun _ => True) v (ids ++ hitsL r (nd.f1.take j))) ∧ Aside0 (Below w.heap.size w wr) ∧ Aside0 (KeepsOthers W wr) ∧ Aside0 (KpE w.heap.size W wr)) (fun i _ => nd.f1.length - (intOf i).toNat)
    case atStart => exact ⟨0, v, Nat.zero_le _, rfl, ⟨HH.out.1⟩, ⟨HH.out.2.1⟩, ⟨by show Kd.R _ _ _ _ _ _ (ids ++ []); rw [List.append_nil]; exact HH.out.2.2.1⟩, ⟨HH.out.2.2.2⟩, ⟨KeepsOthers.refl _⟩, ⟨KpE.refl _ _⟩⟩
    case round =>
      obtain ⟨j, v, hj, rfl, h1, h2, h3, h4, h5, h6⟩ := hrel
      by_cases hlt : j < nd.f1.length
      · have hlt' : (j : Int) < (nd.f1.length : Int) := by omega
        obtain ⟨ad, rfl, x0, x1, x2, x3, x4⟩ := at_T51 (Kd.C_below HC.out h4.out) (j : Int) (by omega) (by omega)
        rw [rd51r nd.f1 j hlt] at x0 x1 x2 x3 x4
        have hst := hitsL_step r nd.f1 j hlt
        have hhl := hitsL_length r (nd.f1.take j)
        rw [List.length_take] at hhl
        generalize (nd.f1)[j] = q at x0 x1 x2 x3 x4 hst
        simp only [Int.toNat_natCast] at x0 x1 x2 x3 x4
        have t0 : ∀ o, (wr.alloc o).cell? ⟨w.heap.size, 0, none⟩ = some (.int .i64 r.f0.f0) := fun o => (blk_cell (blk_alloc h1.out o) 0).trans rfl
        have t1 : ∀ o, (wr.alloc o).cell? ⟨w.heap.size, 1, none⟩ = some (.int .i64 r.f0.f1) := fun o => (blk_cell (blk_alloc h1.out o) 1).trans rfl
        have t2 : ∀ o, (wr.alloc o).cell? ⟨w.heap.size, 2, none⟩ = some (.int .i64 r.f1.f0) := fun o => (blk_cell (blk_alloc h1.out o) 2).trans rfl
        have t3 : ∀ o, (wr.alloc o).cell? ⟨w.heap.size, 3, none⟩ = some (.int .i64 r.f1.f1) := fun o => (blk_cell (blk_alloc h1.out o) 3).trans rfl
        have HST := Aside0.mk (And.intro hst hhl)
        clear hst hhl
        by_cases ho : Ovr q.f0 r
        · have HRO : Aside0 (region_Overlaps.f q.f0.f0.f0 q.f0.f0.f1 q.f0.f1.f0 q.f0.f1.f1 r.f0.f0 r.f0.f1 r.f1.f0 r.f1.f1 = some true) := ⟨by rw [rov_eq]; simp [ho]⟩
          have HO := Aside0.mk ho
          clear ho
          have hll : ((ids ++ hitsL r (nd.f1.take j)).length + 1) * 8 ≤ 140737488355328 := by
            rw [List.length_append]
            have a1 := HIB.out
            have a2 := HST.out.2
            omega
          have HLL := Aside0.mk hll
          clear hll
          gi_wp2_with (first
            | (gi_at_call 77; refine (CallsIn.inRound l0 (callsIn_wide.2 (region_Overlaps.calls _ _ _ _ _ _ _ _ _ _ HRO.out))).mono ?_; rintro e w3 ⟨rfl, hB3⟩
               have hbx : Below wr.heap.size wr w3 := (below_alloc (Below.refl _ _) _).trans (hB3.mono (by simp))
               have hX3 := blk_below (blk_new wr (.cells #[.int .i64 q.f0.f0.f0, .int .i64 q.f0.f0.f1, .int .i64 q.f0.f1.f0, .int .i64 q.f0.f1.f1, .int .i64 q.f1] 51)) hB3
               have xid : w3.cell? ⟨wr.heap.size, 4, none⟩ = some (.int .i64 q.f1) := (blk_cell hX3 4).trans rfl
               have cO : w3.cell? ⟨w.heap.size + 1, 0, none⟩ = some v := box_cell (blk_below h2.out hbx)
               have hB4 := h4.out.trans (hbx.mono h4.out.size)
               have HBX := Aside0.mk (And.intro hbx hB4)
               have HR3 := Aside0.mk (Kd.R_below h3.out hbx)
               have hbase := hB4.size
               clear hB3 hX3 hbx hB4)
            | (gi_at_builtin; refine R_append_in (Kd.int .i64) (w0 := w) w.heap.size rfl (.tmp 26) (.tmp 29) 28 3 (.int .i64 0) 8 rfl Try.underlying28 info3 rfl (by decide) (by decide) v (ids ++ hitsL r (nd.f1.take j)) q.f1 [.int .i64 q.f1] (fun _ => True) (fun _ => False) rfl rfl rfl (fun _ h => h.elim) (fun _ _ => trivial) HR3.out HBX.out.2 hbase HLL.out ?_
               intro v1 w4 HR4 HB4 hg4
               obtain ⟨A1, c1, rfl⟩ := Kd.R_slice HR4
               obtain ⟨n1, hn1⟩ : ∃ n1, n1 = (ids ++ hitsL r (nd.f1.take j) ++ [q.f1]).length := ⟨_, rfl⟩
               rw [← hn1] at HR4 ⊢
               clear hn1
               have hne2 := Kd.R_ne HR3.out (blk_below h2.out HBX.out.1) (by decide)
               have h24 := (hg4.block _ (blk_lt (blk_below h2.out HBX.out.1)) hne2).trans (blk_below h2.out HBX.out.1)
               have cO4 : w4.cell? ⟨w.heap.size + 1, 0, none⟩ = some v := box_cell h24
               have fO4 : w4.frozen? ⟨w.heap.size + 1, 0, none⟩ = false := blk_frozen h24 0
               have HG := Aside0.mk (And.intro hg4 (And.intro h24 (And.intro HR4 HB4)))
               clear hne2 h24 hg4 HR4 HB4))
          have hbx := HBX.out.1
          obtain ⟨hg4, h24, HR4, HB4⟩ := HG.out
          have h13 := blk_below h1.out hbx
          have hne1 := Kd.R_ne HR3.out h13 (by decide)
          have h14 := (hg4.block _ (blk_lt h13) hne1).trans h13
          have hRb := (Kd.R_bound HR3.out).1
          have k1 : KeepsOthers w3 w4 := KeepsOthers.of_grownBy hg4 (fun j_ o_ e_ ho_ => by
            obtain ⟨cells, hc⟩ := Kd.R_typed HR3.out j_ e_
            rw [hc] at ho_
            cases ho_
            rfl)
          have k2 : KpE w.heap.size w3 w4 := KpE.grown hg4 hbase (fun k_ e_ => by
            obtain ⟨cells, hc⟩ := Kd.R_typed HR3.out k_ e_
            exact ⟨(hRb k_ e_).2.1, cells, (0, 0), hc⟩)
          refine ⟨⟨j + 1, _, hlt, by rw [Int.natCast_add]; rfl, ⟨blk_far h14 (by show _ ≠ _; simp) _⟩, ⟨blk_set h24 0 _⟩, ⟨?_⟩, ⟨HB4.setCell (p := ⟨w.heap.size + 1, 0, none⟩) (Nat.le_succ _) _⟩, ⟨((h5.out.trans (keeps_below hbx)).trans k1).trans (KeepsOthers.setCell _ _ _)⟩, ⟨((h6.out.trans (KpE.below h4.out.size hbx)).trans k2).trans (KpE.setCell h24 (.inr rfl) (Nat.le_succ _) _)⟩⟩, by simp only [intOf]; omega⟩
          rw [HST.out.1, if_pos HO.out, ← List.append_assoc]
          exact Kd.R_set HR4 h24 (by decide) 0 _
        · have HRO : Aside0 (region_Overlaps.f q.f0.f0.f0 q.f0.f0.f1 q.f0.f1.f0 q.f0.f1.f1 r.f0.f0 r.f0.f1 r.f1.f0 r.f1.f1 = some false) := ⟨by rw [rov_eq]; simp [ho]⟩
          have HO := Aside0.mk ho
          clear ho
          gi_wp2_with (gi_at_call 77; refine (CallsIn.inRound l0 (callsIn_wide.2 (region_Overlaps.calls _ _ _ _ _ _ _ _ _ _ HRO.out))).mono ?_; rintro e w3 ⟨rfl, hB3⟩; have HB3 := Aside0.mk hB3; clear hB3)
          have hbx : Below wr.heap.size wr w3 := (below_alloc (Below.refl _ _) _).trans (HB3.out.mono (by simp))
          refine ⟨⟨j + 1, v, hlt, by rw [Int.natCast_add]; rfl, ⟨blk_below h1.out hbx⟩, ⟨blk_below h2.out hbx⟩, ⟨?_⟩, ⟨h4.out.trans (hbx.mono h4.out.size)⟩, ⟨h5.out.trans (keeps_below hbx)⟩, ⟨h6.out.trans (KpE.below h4.out.size hbx)⟩⟩, by simp only [intOf]; omega⟩
          rw [HST.out.1, if_neg HO.out, List.append_nil]
          exact Kd.R_below h3.out hbx
      · have hlt' : ¬ (j : Int) < (nd.f1.length : Int) := by omega
        gi_wp2
        refine ⟨h5.out, h6.out, v, h1.out, h2.out, ?_, h4.out⟩
        have h_ := h3.out
        rw [List.take_of_length_le (by omega)] at h_
        rw [HSN.out]
        exact h_
  case done =>
    rintro D ys W hD hys ⟨v, h1, h2, h3, h4⟩ hKd
    have hids := idsOf_all hG r hys
    have hhl : (idsOf r ys).length < 4611686018427387904 := by
      have a1 := idsOf_length r ys
      have a2 : ys.length = rtVisits T r := by rw [← rtNodes_length, ← hys, List.length_map]
      have a3 : ys.length * M ≤ 1000000 * 1000000 := Nat.mul_le_mul (by omega) hM1
      omega
    have hsf : slices_Sort_int.f (idsOf r ys) = some (rtSearch T r) := by
      unfold slices_Sort_int.f rtSearch
      rw [if_pos hhl, hids]
    generalize idsOf r ys = hs at h3 hsf
    obtain ⟨A1, c1, rfl⟩ := Kd.R_slice h3
    have hR' := Kd.R_tight (d := Kd.int .i64) rfl h3
    have hne2 := Kd.R_ne h3 h2 (by decide)
    have hneD : some D ≠ (Value.slice A1 hs.length c1).ownBlock := fun e => by
      obtain ⟨cells, hc⟩ := Kd.R_typed h3 D e.symm
      rw [hc] at hKd
      cases hKd
    have cO := box_cell h2
    have hfn112 : Fence.wide.fn 112 := trivial
    have HS := Aside0.mk (slices_Sort_int.calls _ _ hs (rtSearch T r) w W h4 hR' hsf)
    have HH := Aside0.mk (And.intro h2 (And.intro hne2 (And.intro hneD (And.intro hKd hD))))
    have hsW := h4.size
    clear h1 h2 h3 h4 hKd hsf hhl hids hys hR' hne2 hneD hG HT hN
    gi_wp2_with (gi_at_call 112; refine (callsIn_wide.2 HS.out).mono ?_; rintro e w3 ⟨rfl, hR3, hB3, hK3⟩; have h23 := (hK3.2 _ (blk_lt HH.out.1) HH.out.2.1).trans HH.out.1; have cO3 := box_cell h23; have HR3 := Aside0.mk (And.intro hR3 (And.intro hB3 hK3)); clear hR3 hB3 hK3 h23)
    have hD3 := (HR3.out.2.2.2 D (blk_lt HH.out.2.2.2.1) HH.out.2.2.1).trans HH.out.2.2.2.1
    refine ⟨by simp, .inl ⟨_, _, rfl, run_takeDeferred hD3, ?_⟩⟩
    refine ⟨_, results_tmp rfl _ _ _, _, rfl, ?_, ?_⟩
    · have hfin : Kd.R (Kd.int .i64) 3 (w3.putObj D (.deferred none)) w.heap.size (fun _ => True) (.slice A1 hs.length c1) (rtSearch T r) := by
        refine Kd.R_mono (Kd.R_grown2 HR3.out.1 rfl (grownBy_putObj' w3 D (.deferred none)) (fun k e hk => ?_)) (fun _ _ => trivial)
        cases e
        obtain ⟨cells, hc⟩ := Kd.R_typed HR3.out.1 D hk.symm
        rw [hc] at hD3
        cases hD3
      exact hfin
    · exact HR3.out.2.1.grown (grownBy_putObj' w3 D (.deferred none)) (Nat.le_trans hsW HR3.out.2.2.1) (fun k e => by cases e; have := HH.out.2.2.2.2; omega)
  case stop =>
    rintro D c pre W _ _ h _
    exact h.elim
end Go.Proofs.Ytdcelpppgbmlaaa.P
