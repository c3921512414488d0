/- A row of new nodes that a range over a function fills, behind a boxed variable: what is kept between two rounds. No condition. -/
import Derived.RangeFuncBox
import Derived.Test.YtdcelpppgbmlaaaSEChunk
import Derived.Test.YtdcelpppgbmlaaaSERnode
import Derived.Test.YtdcelpppgbmlaaaSEAppendIn
import Derived.Test.YtdcelpppgbmlaaaSMAll
namespace Go.Proofs.Ytdcelpppgbmlaaa.P
open Go.RowKit Go.Shelf Go.Proofs.YtdcelpppgbmlaaaW.PrintWords
set_option linter.unusedSimpArgs false
set_option linter.unusedVariables false
section
variable {α : Type} {d : Kd α} {e base : Nat} {ok okp : Nat → Prop} {w1 W : World} {v v1 : Value} {xs : List α} {p : α}
theorem N_appended_own {rows : List (List Value)} {cs : List Value} (hl : rows.length = xs.length) (hf : ∀ (j : Nat) (x : α) (c : List Value), xs[j]? = some x → rows[j]? = some c → Kd.FK d W (fun k => ok k ∧ some k ≠ v.ownBlock) x c)
    (hp : Kd.FK d W okp p cs) (hokp : ∀ k, okp k → ok k ∧ some k ≠ v.ownBlock)
    (hR : (Kd.raw d.sz).R e w1 base (fun _ => True) v1 (rows ++ [cs])) (hg : W.grownBy w1 v.ownBlock) (hat : v1.ownBlock = v.ownBlock ∨ ∃ b, v1.ownBlock = some b ∧ W.heap.size ≤ b) :
    Kd.N d e w1 base (fun k => (ok k ∧ k < W.heap.size ∧ some k ≠ v.ownBlock) ∨ some k = v1.ownBlock) v1 (xs ++ [p]) := by
  have hne : ∀ k, some k ≠ v.ownBlock → k < W.heap.size → some k ≠ v1.ownBlock := by
    intro k hk hlt
    rcases hat with hat | ⟨b, hb, hle⟩
    · rw [hat]; exact hk
    · rw [hb]
      intro he
      injection he with he
      omega
  have step : ∀ {x : α} {c : List Value} {o : Nat → Prop}, Kd.FK d W o x c → (∀ k, o k → ok k ∧ some k ≠ v.ownBlock) → Kd.FK d w1 (fun k => ((ok k ∧ k < W.heap.size ∧ some k ≠ v.ownBlock) ∨ some k = v1.ownBlock) ∧ some k ≠ v1.ownBlock) x c := by
    intro x c o hq ho
    exact Kd.FK_mono (Kd.FK_step (Kd.FK_bound hq) (fun k hk hlt => hg.block k hlt (ho k hk.1).2)) (fun k hk => ⟨.inl ⟨(ho k hk.1).1, hk.2, (ho k hk.1).2⟩, hne k (ho k hk.1).2 hk.2⟩)
  refine ⟨fun k hk => .inr hk.symm, rows ++ [cs], by rw [List.length_append, List.length_append, hl]; rfl, Kd.raw_tight hR, fun j x c hx hc => ?_⟩
  rcases Nat.lt_or_ge j xs.length with hlt | hge
  · rw [List.getElem?_append_left hlt] at hx
    rw [List.getElem?_append_left (by omega)] at hc
    exact step (hf j x c hx hc) (fun _ hk => hk)
  · rw [List.getElem?_append_right hge] at hx
    rw [List.getElem?_append_right (by omega), hl] at hc
    have hj : j - xs.length = 0 := by
      have := (List.getElem?_eq_some_iff.1 hx).1
      simp at this
      omega
    rw [hj] at hx hc
    simp only [List.getElem?_cons_zero, Option.some.injEq] at hx hc
    rw [← hx, ← hc]
    exact step hp hokp
end
section
variable {F : Fence} {n : Nat} {P : Program} {ops : Array Oper} {rest : List Oper} {o : Oper} {a : Act} {Q : Exit → Act → World → Prop} {α : Type}
theorem N_append_own_in (d : Kd α) {w0 W : World} (base : Nat) (hgd : o.guard = none) (s x : Operand) (t e : TypeId) (z : Value) (bytes : Nat)
    (ho : o.op = .call { callee := .builtin .append, args := #[s, x], argTypes := #[t, t] })
    (ht : P.underlying t = some (.slice e)) (hinfo : (P.info? e).map (fun i => (i.zero, i.size, i.bytes)) = some (some z, d.sz, bytes)) (hz : z.cells.size = d.sz) (hs0 : 0 < d.sz) (hb0 : 0 < bytes)
    (v : Value) (xs : List α) (p : α) (cs : List Value) (ok okp : Nat → Prop) (hs : a.eval s = v) (hx : a.eval x = .slice (some ⟨W.heap.size, 0, none⟩) 1 1) (hp : Kd.FK d W okp p cs) (hokp : ∀ k, okp k → ok k ∧ some k ≠ v.ownBlock)
    (HO : Kd.N d e W base ok v xs) (HB : Below base w0 W) (hbase : base ≤ W.heap.size) (hl : (xs.length + 1) * bytes ≤ 140737488355328)
    (h : ∀ v1 w1, Kd.N d e w1 base (fun k => (ok k ∧ k < W.heap.size ∧ some k ≠ v.ownBlock) ∨ some k = v1.ownBlock) v1 (xs ++ [p]) → Below base w0 w1 → W.grownBy w1 v.ownBlock → wpListIn F n P ops Q rest (a.put o.dst v1) w1) :
    wpListIn F n P ops Q (o :: rest) a (W.alloc (.cells cs.toArray e)) := by
  obtain ⟨h0, rows, hlr, hR, hf⟩ := HO
  obtain ⟨r0, inner, hown, hr⟩ := Kd.raw_any hR
  have hp1 := Kd.FK_raw hp
  refine in_append_cells base hgd s x t e z d.sz bytes ho ht hinfo hz hs0 hb0 v rows.length inner cs hs hx hp1.2.1 hp1.2.2 hown HB hbase (by rw [hlr]; exact hl) ?_
  intro v1 w1 hown1 hb1 hg1 hat1
  have hr1 : (Kd.raw d.sz).R e w1 base (fun _ => True) v1 (rows ++ [cs]) := Kd.R_appended (d := Kd.raw d.sz) (okp := fun _ => False) r0 hr hp1 (fun _ hk => hk.elim) (fun _ _ => trivial) hown1 hg1 hat1
  exact h v1 w1 (N_appended_own hlr hf hp hokp hr1 hg1 hat1) hb1 hg1
end
def packOk (P0 : Nat → Prop) (w W : World) (k : Nat) : Prop := (P0 k ∧ k < w.heap.size) ∨ (w.heap.size + 3 ≤ k ∧ ∃ o : Obj, W.heap[k]? = some o ∧ o.isCells = true)
def packI (P0 : Nat → Prop) (w : World) (K : Kd S74) (W1 : World) (L : List S74) (W : World) : Prop :=
  ∃ v : Value, W.heap[w.heap.size]? = some (.cells #[v] 131 (0, 0)) ∧ Kd.N K 125 W (w.heap.size + 3) (packOk P0 w W) v L ∧ KpB (w.heap.size + 1) (w.heap.size + 1 + 1) W1 W ∧ Below w.heap.size w W
theorem packI_own (P0 : Nat → Prop) (w : World) (K : Kd S74) (W1 : World) (hsz : w.heap.size + 3 ≤ W1.heap.size) {o1 : Obj} (hD1 : W1.heap[w.heap.size + 1 + 1]? = some o1) {β : Type} (f : β → List S74) : OwnFrom W1.heap.size (fun (s : β) W => packI P0 w K W1 (f s) W) := by
  rintro pre W W' row ⟨v, h1, h2, h3, h4⟩ hg hr
  have far : ∀ k, k < W.heap.size → (∀ r, row = some r → k ≠ r) → W'.heap[k]? = W.heap[k]? := fun k hk hne => hg.block k hk (fun e => hne k e.symm rfl)
  have low : ∀ k, k < W.heap.size → k < w.heap.size + 3 → W'.heap[k]? = W.heap[k]? := fun k hk hk3 => far k hk (fun r e => by have := (hr r e).1; omega)
  have hws := blk_lt h1
  have cells : ∀ k (o : Obj), W.heap[k]? = some o → o.isCells = true → W'.heap[k]? = some o := fun k o ho hc => (far k (blk_lt ho) (fun r e hk => by obtain ⟨_, o', ho', hc'⟩ := hr r e; rw [← hk, ho] at ho'; cases ho'; rw [hc] at hc'; cases hc')).trans ho
  have hB0 := h4.size
  refine ⟨v, (low _ hws (by omega)).trans h1, ?_, ?_, h4.grown hg hB0 (fun k e => by have := (hr k e).1; omega)⟩
  · refine Kd.N_mono (Kd.N_step h2 (fun k hk hlt => ?_)) (fun k hk => ?_)
    · rcases hk with ⟨_, h⟩ | ⟨_, o, ho, hc⟩
      · exact low k hlt (by omega)
      · exact (cells k o ho hc).trans ho.symm
    · rcases hk with ⟨a, h⟩ | ⟨h0, o, ho, hc⟩
      · exact .inl ⟨a, h⟩
      · exact .inr ⟨h0, o, cells k o ho hc, hc⟩
  · have hb : w.heap.size + 1 + 1 < W.heap.size := blk_lt (h3.2.trans hD1)
    exact ⟨(low _ (by omega) (by omega)).trans h3.1, (low _ hb (by omega)).trans h3.2⟩
theorem packI_ahead {P0 : Nat → Prop} {w : World} {K : Kd S74} {W wr : World} {v : Value} {L : List S74} (hN : Kd.N K 125 W (w.heap.size + 3) (packOk P0 w W) v L) (hb : Below W.heap.size W wr) : Kd.N K 125 wr (w.heap.size + 3) (packOk P0 w wr) v L := by
  refine Kd.N_mono (Kd.N_below (Kd.N_bound hN) hb) (fun k hk => ?_)
  rcases hk.1 with h | ⟨h0, o, ho, hc⟩
  · exact .inl h
  · exact .inr ⟨h0, o, (hb.block k hk.2).trans ho, hc⟩
theorem packI_store {P0 : Nat → Prop} {w : World} {K : Kd S74} {W1 wr w1 : World} {v v1 : Value} {L : List S74} {p : S74}
    (hO : wr.heap[w.heap.size]? = some (.cells #[v] 131 (0, 0))) (hN : Kd.N K 125 w1 (w.heap.size + 3) (fun k => (packOk P0 w wr k ∧ k < wr.heap.size ∧ some k ≠ v.ownBlock) ∨ some k = v1.ownBlock) v1 (L ++ [p]))
    (hB : Below (w.heap.size + 3) wr w1) (hg : wr.grownBy w1 v.ownBlock) (hk : KpB (w.heap.size + 1) (w.heap.size + 1 + 1) W1 wr) (hb : Below w.heap.size w wr) (hs : w.heap.size + 3 ≤ wr.heap.size) :
    packI P0 w K W1 (L ++ [p]) (w1.setCell ⟨w.heap.size, 0, none⟩ v1) := by
  have e0 : ∀ k, k ≠ w.heap.size → (w1.setCell ⟨w.heap.size, 0, none⟩ v1).heap[k]? = w1.heap[k]? := fun k hk => Below.heap_setCell w1 ⟨w.heap.size, 0, none⟩ v1 k hk
  refine ⟨v1, blk_set ((hB.block _ (by omega)).trans hO) 0 _, ?_, ⟨((e0 _ (by omega)).trans (hB.block _ (by omega))).trans hk.1, ((e0 _ (by omega)).trans (hB.block _ (by omega))).trans hk.2⟩, ?_⟩
  · have hbase := Kd.N_base hN
    have hty := Kd.N_typed hN
    have hne : ∀ k, ((packOk P0 w wr k ∧ k < wr.heap.size ∧ some k ≠ v.ownBlock) ∨ some k = v1.ownBlock) → k ≠ w.heap.size := by
      rintro k (⟨h | h, _⟩ | h)
      · have := h.2; omega
      · have := h.1; omega
      · have := hbase k h.symm; omega
    refine Kd.N_mono (Kd.N_step hN (fun k hk _ => e0 k (hne k hk))) (fun k hk => ?_)
    have hk0 := hne k hk
    rcases hk with ⟨h | ⟨h0, o, ho, hc⟩, hlt, hno⟩ | h
    · exact .inl h
    · exact .inr ⟨h0, o, ((e0 k hk0).trans (hg.block k hlt hno)).trans ho, hc⟩
    · obtain ⟨cells, hc⟩ := hty k h.symm
      exact .inr ⟨hbase k h.symm, _, (e0 k hk0).trans hc, rfl⟩
  · exact (hb.trans (hB.mono (by omega))).setCell (p := ⟨w.heap.size, 0, none⟩) (Nat.le_refl _) _
theorem packI_done {P0 : Nat → Prop} {w : World} {K : Kd S74} {W1 : World} (hsz : w.heap.size + 3 ≤ W1.heap.size) {o1 : Obj} (hD1 : W1.heap[w.heap.size + 1 + 1]? = some o1) {L : List S74} {W : World} {D : Nat} {o o' : Obj} (h : packI P0 w K W1 L W) (hD : W1.heap.size ≤ D) (hd : W.heap[D]? = some o) (ho : o.isCells = false) {v : Value} (hv : W.heap[w.heap.size]? = some (.cells #[v] 131 (0, 0))) :
    Kd.N K 125 (W.putObj D o') w.heap.size (fun k => P0 k ∨ w.heap.size ≤ k) v L ∧ Below w.heap.size w (W.putObj D o') := by
  have hlt := blk_lt hv
  have h2 := (packI_own P0 w K W1 hsz hD1 (fun (_ : Unit) => L)).putObj (s := ()) o' h hD hd ho
  obtain ⟨v', h1, h3, _, h4⟩ := h2
  rw [World.putObj_heap_other (by omega), hv] at h1
  cases h1
  refine ⟨Kd.N_mono (Kd.N_lower h3 (by omega)) (fun k hk => ?_), h4⟩
  rcases hk with hk | hk
  · exact .inl hk.1
  · exact .inr (by have := hk.1; omega)
theorem pieces_starts {α : Type} {wd : Nat} (hw : 0 < wd) : ∀ (K : Nat) (l : List α), l.length ≤ K * wd → (0 < K → (K - 1) * wd < l.length) → (List.range K).map (fun k => (l.drop (k * wd)).take wd) = pieces wd l
  | 0, l, h, _ => by
    have : l = [] := List.eq_nil_of_length_eq_zero (by simpa using h)
    subst this
    rfl
  | K + 1, l, h, h1 => by
    have h1 := h1 (by omega)
    rw [Nat.add_sub_cancel] at h1
    rw [Nat.add_mul, Nat.one_mul] at h
    have hne : l ≠ [] := by
      intro e
      rw [e] at h1
      simp at h1
    rw [pieces_step hw hne, List.range_succ_eq_map, List.map_cons, List.map_map, Nat.zero_mul, List.drop_zero]
    refine congrArg _ ?_
    have := pieces_starts hw K (l.drop wd) (by rw [List.length_drop]; omega) (fun hK => by
      rw [List.length_drop]
      have : (K - 1) * wd + wd = K * wd := by rw [← Nat.succ_mul]; congr 1; omega
      omega)
    rw [← this]
    refine List.map_congr_left fun k _ => ?_
    simp only [Function.comp, List.drop_drop]
    rw [show k.succ * wd = wd + k * wd by rw [Nat.succ_mul, Nat.add_comm]]
def leavesL (l : List S51) (wd : Nat) (pre : List {i : Nat // i < l.length}) : List S74 := pre.map fun x => leafP ((l.drop x.1).take wd)
def nodesL (l : List S74) (wd : Nat) (pre : List {i : Nat // i < l.length}) : List S74 := pre.map fun x => nodeP ((l.drop x.1).take wd)
theorem leavesL_all {l : List S51} {wd : Nat} (hw : 0 < wd) {ys : List {i : Nat // i < l.length}} (h : Starts l.length wd (ys.map (·.1))) : leavesL l wd ys = leavesP wd l := by
  obtain ⟨K, hK, h1, h2⟩ := h
  unfold leavesL leavesP
  rw [← pieces_starts hw K l h1 h2, List.map_map]
  have e : (ys.map fun x => leafP ((l.drop x.1).take wd)) = (ys.map (·.1)).map fun i => leafP ((l.drop i).take wd) := by rw [List.map_map]; rfl
  rw [e, hK, List.map_map]
  rfl
theorem nodesL_all {l : List S74} {wd : Nat} (hw : 0 < wd) {ys : List {i : Nat // i < l.length}} (h : Starts l.length wd (ys.map (·.1))) : nodesL l wd ys = aboveP wd l := by
  obtain ⟨K, hK, h1, h2⟩ := h
  unfold nodesL aboveP
  rw [← pieces_starts hw K l h1 h2, List.map_map]
  have e : (ys.map fun x => nodeP ((l.drop x.1).take wd)) = (ys.map (·.1)).map fun i => nodeP ((l.drop i).take wd) := by rw [List.map_map]; rfl
  rw [e, hK, List.map_map]
  rfl
theorem leavesL_snoc (l : List S51) (wd : Nat) (pre : List {i : Nat // i < l.length}) (x : {i : Nat // i < l.length}) : leavesL l wd (pre ++ [x]) = leavesL l wd pre ++ [leafP ((l.drop x.1).take wd)] := by unfold leavesL; rw [List.map_append]; rfl
theorem nodesL_snoc (l : List S74) (wd : Nat) (pre : List {i : Nat // i < l.length}) (x : {i : Nat // i < l.length}) : nodesL l wd (pre ++ [x]) = nodesL l wd pre ++ [nodeP ((l.drop x.1).take wd)] := by unfold nodesL; rw [List.map_append]; rfl
theorem leavesL_length (l : List S51) (wd : Nat) (pre : List {i : Nat // i < l.length}) : (leavesL l wd pre).length = pre.length := List.length_map _
theorem nodesL_length (l : List S74) (wd : Nat) (pre : List {i : Nat // i < l.length}) : (nodesL l wd pre).length = pre.length := List.length_map _
theorem rd51r (l : List S51) (i : Nat) (h : i < l.length) : rd_T51 l (i : Int) = l[i] := by simp [rd_T51, List.getD_eq_getElem?_getD, List.getElem?_eq_getElem h]
theorem info125 : (Try.prog.info? 125).map (fun i => (i.zero, i.size, i.bytes)) = some (some (.pointer none), 1, 8) := by kernel_rfl
end Go.Proofs.Ytdcelpppgbmlaaa.P
