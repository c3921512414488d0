/- slices.Sort and slices.Compact at []int, slices.SortFunc at the edges of package span, in the form of the printed contracts: the row that is handed over is the call's own. -/
import Derived.Test.YtdcelpppgbmlaaaZP0
import Derived.Test.YtdcelpppgbmlaaaZERows
import Derived.Test.YtdcelpppgbmlaaaZEShelf
import Derived.Shelf.SlSortCmp.NoneTotal
namespace Go.Proofs.Ytdcelpppgbmlaaa.P
open Go.RowKit Go.Sort Go.Shelf Go.Proofs.YtdcelpppgbmlaaaW.PrintWords Go.Proofs.YtdcelpppgbmlaaaW.PrintLast
section
variable {α β : Type} [Inhabited β] {d : Kd α} {enc : α → List Value} {e : Nat} {w0 w : World} {P : Nat → Prop} {g cap : Nat} {l : List α}
theorem put_R (enc0 : β → Value) (d0 : Array β) (hF : Flat d enc) (hB : Below w0.heap.size w0 w) (ho : d.R e w w0.heap.size P (.slice (some ⟨g, 0, none⟩) l.length cap) l) (m : Nat) (os : Array Obj) (hd : d0.size = l.length * d.sz)
    (r : List α) (hn : r.length ≤ l.length) (hc : (d0.toList.map enc0).take (r.length * d.sz) = r.flatMap enc) :
    d.R e (grow (putRow enc0 (Sort.ahead w m) g 0 d0) os) w0.heap.size (fun k => P k ∨ w.heap.size ≤ k) (.slice (some ⟨g, 0, none⟩) r.length cap) r ∧
      Below w0.heap.size w0 (grow (putRow enc0 (Sort.ahead w m) g 0 d0) os) ∧ Kept w (grow (putRow enc0 (Sort.ahead w m) g 0 d0) os) P := by
  have hown := hF.own ho
  have hP : P g := ho.1 g rfl
  have hg := grownBy_put (w := w) (g := g) (n := m) (os := os) enc0 d0
  refine ⟨hF.row (by have := own_put enc0 (m := m) (os := os) hown d0 hd hn; rwa [hc] at this) (fun k hk => .inl ?_), hB.grown hg hB.size (fun k hk => ?_), ⟨hg.size, fun i hi hn => hg.block i hi (fun he => ?_)⟩⟩
  · have : g = k := by simpa [Value.ownBlock] using hk
    exact this ▸ hP
  · have : g = k := by simpa using hk
    exact this ▸ own_base hown g rfl
  · have : i = g := by simpa using he
    exact hn (this ▸ hP)
theorem R_shape (hF : Flat d enc) {u : Value} (ho : d.R e w w0.heap.size P u l) :
    (u = .slice none 0 0 ∧ l = []) ∨ ∃ g cap cur, u = .slice (some ⟨g, 0, none⟩) l.length cap ∧ g < w.heap.size ∧ w.heap[g]? = some (.cells cur e (0, 0)) ∧ l.length ≤ cap ∧ cap ≤ maxLen ∧ cur.toList.take (l.length * d.sz) = l.flatMap enc := by
  rcases own_shape (hF.own ho) with ⟨rfl, h⟩ | ⟨g, cap, cur, rfl, _, hb, h1, h2, _, h4⟩
  · exact .inl ⟨rfl, List.eq_nil_of_length_eq_zero h⟩
  · exact .inr ⟨g, cap, cur, rfl, (Array.getElem?_eq_some_iff.1 hb).1, hb, h1, h2, h4⟩
end
def slices_Sort_int.f (l : List Int) : Option (List Int) := if l.length < 4611686018427387904 then some (l.mergeSort fun x y => decide (x ≤ y)) else none
theorem slices_Sort_int.calls (P0_ : Nat → Prop) (u : Value) (l0 : List Int) (r : List Int) (w0 w : World) (hB : Below w0.heap.size w0 w) (ho0 : Kd.R (Kd.int .i64) 3 w w0.heap.size P0_ u l0) (h : slices_Sort_int.f l0 = some r) :
    Calls Try.prog 112 #[u] w fun e w' => e = .returned (.tuple #[]) ∧ Kd.R (Kd.int .i64) 3 w' w0.heap.size (fun k_ => (P0_ k_ ∨ w.heap.size ≤ k_)) u r ∧ Below w0.heap.size w0 w' ∧ Kept w w' (fun k_ => P0_ k_) := by
  unfold slices_Sort_int.f at h
  split at h
  · rename_i hlt
    obtain rfl := Option.some.inj h
    have hF := Flat_int .i64
    rcases R_shape hF ho0 with ⟨rfl, rfl⟩ | ⟨g, cap, cur, rfl, hg, hb, h1, h2, h4⟩
    · refine (Any.slices_Sort_int_none Try.lays189 none 0 w).mono ?_
      rintro e w' ⟨rfl, rfl⟩
      rw [show (([] : List Int).mergeSort fun x y => decide (x ≤ y)) = [] by simp]
      exact ⟨rfl, Kd.R_mono ho0 (fun k hk => .inl hk), hB, Kept.refl _ _⟩
    · have hm : cur.toList.take l0.length = l0.map (Value.int .i64) := by rw [← flatMap_one]; simpa [show (Kd.int .i64).sz = 1 from rfl] using h4
      have hH : Holds (Value.int .i64) w g 0 l0.toArray := holds_row (Value.int .i64) l0.toArray hb (by simpa using hm)
      refine (Any.slices_Sort_int Try.lays189 g 0 cap l0 w hH hg hlt).mono ?_
      rintro e w' ⟨rfl, n, os, rfl⟩
      have hp := put_R (Value.int .i64) (l0.mergeSort fun x y => decide (x ≤ y)).toArray hF hB ho0 n os (by simp [show (Kd.int .i64).sz = 1 from rfl]) (l0.mergeSort fun x y => decide (x ≤ y)) (by simp) (by rw [flatMap_one]; simp [show (Kd.int .i64).sz = 1 from rfl]; exact List.take_of_length_le (by simp))
      rw [List.length_mergeSort] at hp
      exact ⟨rfl, hp⟩
  · cases h
def slices_Compact_int.f (l : List Int) : Option (List Int) := if l.length ≤ 9223372036854775807 then some (Lib.compact l) else none
theorem slices_Compact_int.calls (P0_ : Nat → Prop) (u : Value) (l0 : List Int) (r : List Int) (w0 w : World) (hB : Below w0.heap.size w0 w) (ho0 : Kd.R (Kd.int .i64) 3 w w0.heap.size P0_ u l0) (h : slices_Compact_int.f l0 = some r) :
    Calls Try.prog 113 #[u] w fun e w' => ∃ v0_ : Value, e = .returned (v0_) ∧ Kd.R (Kd.int .i64) 3 w' w0.heap.size (fun k_ => (P0_ k_ ∨ w.heap.size ≤ k_)) v0_ r ∧ Below w0.heap.size w0 w' ∧ Kept w w' (fun k_ => P0_ k_) := by
  unfold slices_Compact_int.f at h
  split at h
  · rename_i hle
    obtain rfl := Option.some.inj h
    have hF := Flat_int .i64
    rcases R_shape hF ho0 with ⟨rfl, rfl⟩ | ⟨g, cap, cur, rfl, hg, hb, h1, h2, h4⟩
    · refine (Any.slices_Compact_int_empty Try.laysNm220 none 0 w).mono ?_
      rintro e w' ⟨rfl, rfl⟩
      exact ⟨_, rfl, Kd.R_mono ho0 (fun k hk => .inl hk), hB, Kept.refl _ _⟩
    · have hm : cur.toList.take l0.length = l0.map (Value.int .i64) := by rw [← flatMap_one]; simpa [show (Kd.int .i64).sz = 1 from rfl] using h4
      have hH : Holds (Value.int .i64) w g 0 l0.toArray := holds_row (Value.int .i64) l0.toArray hb (by simpa using hm)
      refine (Any.slices_Compact_int Try.laysNm220 g 0 cap l0 w hH hle h1).mono ?_
      rintro e w' ⟨rfl, q, rfl⟩
      have hcl : (Lib.compact l0).length ≤ l0.length := by
        unfold Lib.compact Lib.compactUpTo
        rw [List.length_map]
        exact Nat.le_trans (List.length_filter_le _ _) (by simp)
      have hp := put_R (Value.int .i64) (Lib.compact l0 ++ List.replicate (l0.length - (Lib.compact l0).length) 0).toArray hF hB ho0 q #[] (by simp [show (Kd.int .i64).sz = 1 from rfl]; omega) (Lib.compact l0) hcl (by
        rw [flatMap_one, show (Kd.int .i64).sz = 1 from rfl, Nat.mul_one, List.map_append, List.take_append_of_le_length (by simp)]; exact List.take_of_length_le (by simp))
      rw [grow_empty] at hp
      exact ⟨_, rfl, hp⟩
  · cases h
abbrev Edge := { x : S163 // 0 ≤ x.f0 ∧ x.f0 ≤ 1099511627776 }
instance : Inhabited Edge := ⟨⟨⟨0, 0, 0⟩, by decide⟩⟩
def encEdge (x : Edge) : List Value := [.int .i64 x.1.f0, .int .i64 x.1.f1, .int .i64 x.1.f2]
def cfEdge (x y : Edge) : Int := x.1.f0 - y.1.f0
theorem Flat_k163 : Flat k163 (fun x => [.int .i64 x.f0, .int .i64 x.f1, .int .i64 x.f2]) := ⟨fun _ => rfl, fun w base ok x => k163_mkM w base ok x, fun h => k163_openM h⟩
theorem ltEdge (x y : Edge) : ltOf cfEdge x y = decide (x.1.f0 < y.1.f0) := by
  unfold ltOf cfEdge
  by_cases h : x.1.f0 < y.1.f0
  · rw [decide_eq_true h, decide_eq_true (by omega)]
  · rw [decide_eq_false h, decide_eq_false (by omega)]
theorem swoEdge : SWO (ltOf cfEdge) where
  irrefl x := by rw [ltEdge]; exact decide_eq_false (by omega)
  trans x y z h1 h2 := by rw [ltEdge] at *; have := of_decide_eq_true h1; have := of_decide_eq_true h2; exact decide_eq_true (by omega)
  ntrans x y z h1 h2 := by rw [ltEdge] at *; have := of_decide_eq_false h1; have := of_decide_eq_false h2; exact decide_eq_false (by omega)
set_option maxHeartbeats 1000000 in
theorem span_edges_cmp (x y : Edge) (W : World) : Calls Try.prog 187 #[.agg #[.int .i64 x.1.f0, .int .i64 x.1.f1, .int .i64 x.1.f2], .agg #[.int .i64 y.1.f0, .int .i64 y.1.f1, .int .i64 y.1.f2]] W fun e w' => e = .returned (.int .i64 (cfEdge x y)) ∧ ∃ q os', w' = grow (W.drewN q) os' := by
  obtain ⟨⟨x0, x1, x2⟩, hx0, hx1⟩ := x
  obtain ⟨⟨y0, y1, y2⟩, hy0, hy1⟩ := y
  dsimp only at hx0 hx1 hy0 hy1
  simp only [cfEdge]
  have hu163 := Try.underlying163
  go_enter Try.func187, Try.ntmps187
  go_wp2
  go_ret
  exact ⟨rfl, 0, _, by rw [alloc_eq_grow, alloc_eq_grow, grow_grow]; rfl⟩
def sortEdges (l : List Edge) : List Edge := (pdq (ltOf cfEdge) l.toArray 0 l.toArray.size (Lib.bitLen l.toArray.size) true true).toList
theorem sortEdges_spec (l : List Edge) : (sortEdges l).Perm l ∧ (sortEdges l).Pairwise (fun x y => x.1.f0 ≤ y.1.f0) := by
  have h := pdq_sorts (ltOf cfEdge) swoEdge l.toArray 0 l.toArray.size (Lib.bitLen l.toArray.size) true true (Nat.zero_le _) (Nat.le_refl _) (Or.inl rfl)
  unfold sortEdges
  generalize pdq (ltOf cfEdge) l.toArray 0 l.toArray.size (Lib.bitLen l.toArray.size) true true = d' at h ⊢
  obtain ⟨⟨hs, _, hp⟩, hs2⟩ := h
  have hs' : d'.size = l.length := by simpa using hs
  refine ⟨?_, ?_⟩
  · have e1 : (d'.extract 0 l.toArray.size).toList = d'.toList := by
      rw [← hs, Array.extract_size]
    rw [e1] at hp
    simpa using hp
  · rw [List.pairwise_iff_getElem]
    intro i j hi hj hij
    have hi' : i < d'.size := by simpa using hi
    have hj' : j < d'.size := by simpa using hj
    have := hs2 i j (Nat.zero_le _) hij (by simpa [hs'] using hj')
    rw [getElem!_pos d' i hi', getElem!_pos d' j hj'] at this
    rw [ltEdge] at this
    have := of_decide_eq_false this
    simp only [Array.getElem_toList]
    omega
theorem sortEdges_length (l : List Edge) : (sortEdges l).length = l.length := (sortEdges_spec l).1.length_eq
def slices_SortFunc_edge.f (l : List S163) : Option (List S163) :=
  if h : l.length < 4611686018427387904 ∧ ∀ x ∈ l, 0 ≤ x.f0 ∧ x.f0 ≤ 1099511627776 then some ((sortEdges (l.attachWith _ h.2)).map (·.1)) else none
set_option maxHeartbeats 1000000 in
theorem slices_SortFunc_edge.calls (P0_ : Nat → Prop) (u : Value) (l0 : List S163) (r : List S163) (w0 w : World) (hB : Below w0.heap.size w0 w) (ho0 : Kd.R k163 163 w w0.heap.size P0_ u l0) (h : slices_SortFunc_edge.f l0 = some r) :
    Calls Try.prog 186 #[u, .func (.func 187) #[] #[]] w fun e w' => e = .returned (.tuple #[]) ∧ Kd.R k163 163 w' w0.heap.size (fun k_ => (P0_ k_ ∨ w.heap.size ≤ k_)) u r ∧ Below w0.heap.size w0 w' ∧ Kept w w' (fun k_ => P0_ k_) := by
  unfold slices_SortFunc_edge.f at h
  split at h
  · rename_i hc
    obtain ⟨hlt, hall⟩ := hc
    have hr := Option.some.inj h
    clear h
    have hF := Flat_k163
    have eg : ∀ args w, (callFunc 187 args).run Try.prog w = .ok (.enter 187 args) w := enters_of Try.func187 (by kernel_rfl) rfl
    rcases R_shape hF ho0 with ⟨rfl, rfl⟩ | ⟨g, cap, cur, rfl, hg, hb, h1, h2, h4⟩
    · have hr0 : r = [] := by
        have := congrArg List.length hr
        rw [List.length_map, sortEdges_length] at this
        exact List.eq_nil_of_length_eq_zero (by simpa using this.symm)
      subst hr0
      refine (AnyF.slices_SortFunc_none Try.sortEdge none 0 _ w).mono ?_
      rintro e w' ⟨rfl, rfl⟩
      exact ⟨rfl, Kd.R_mono ho0 (fun k hk => .inl hk), hB, Kept.refl _ _⟩
    · have hle : (l0.attachWith (fun x : S163 => 0 ≤ x.f0 ∧ x.f0 ≤ 1099511627776) hall).toArray.size = l0.length := by simp
      have hfl : (flatK encEdge 3 (l0.attachWith (fun x : S163 => 0 ≤ x.f0 ∧ x.f0 ≤ 1099511627776) hall).toArray).toList = l0.flatMap (fun x : S163 => [.int .i64 x.f0, .int .i64 x.f1, .int .i64 x.f2]) := by
        rw [flatK_toList encEdge 3 (fun _ => rfl)]
        have : ∀ (m : List Edge), m.flatMap encEdge = (m.map (·.1)).flatMap (fun x : S163 => [.int .i64 x.f0, .int .i64 x.f1, .int .i64 x.f2]) := fun m => by rw [List.flatMap_map]; rfl
        rw [this, List.toList_toArray, List.attachWith_map_subtype_val]
      have hH : HoldsK encEdge 3 w g 0 (l0.attachWith (fun x : S163 => 0 ≤ x.f0 ∧ x.f0 ≤ 1099511627776) hall).toArray := by
        refine holds_row id _ hb ?_
        rw [size_flatK, hle, List.map_id, hfl]
        exact h4
      have hcon := AnyQ.slices_SortFunc_eq Try.sortEdge 3 Try.isAgg163 Try.sizeOf163 encEdge (fun _ => rfl) (fun x v hv => by simp [encEdge] at hv; rcases hv with rfl | rfl | rfl <;> rfl) cfEdge swoEdge 187 #[] g 0 cap (l0.attachWith (fun x : S163 => 0 ≤ x.f0 ∧ x.f0 ≤ 1099511627776) hall).toArray w eg (fun _ _ _ _ x y => span_edges_cmp x y _) hH hg (by rw [hle]; exact hlt)
      rw [hle] at hcon
      refine hcon.mono ?_
      rintro e w' ⟨rfl, n, os, rfl⟩
      have hrl : r.length = l0.length := by rw [← hr, List.length_map, sortEdges_length]; simp
      have hps : (pdq (ltOf cfEdge) (l0.attachWith (fun x : S163 => 0 ≤ x.f0 ∧ x.f0 ≤ 1099511627776) hall).toArray 0 l0.length (Lib.bitLen l0.length) true true).toList = sortEdges (l0.attachWith (fun x : S163 => 0 ≤ x.f0 ∧ x.f0 ≤ 1099511627776) hall) := by unfold sortEdges; rw [hle]
      generalize pdq (ltOf cfEdge) (l0.attachWith (fun x : S163 => 0 ≤ x.f0 ∧ x.f0 ≤ 1099511627776) hall).toArray 0 l0.length (Lib.bitLen l0.length) true true = d' at hps ⊢
      have hsz : d'.size = l0.length := by rw [← Array.length_toList, hps, sortEdges_length]; simp
      have hfl' : (flatK encEdge 3 d').toList = r.flatMap (fun x : S163 => [.int .i64 x.f0, .int .i64 x.f1, .int .i64 x.f2]) := by
        rw [flatK_toList encEdge 3 (fun _ => rfl), hps, ← hr, List.flatMap_map]
        rfl
      have hp := put_R id (flatK encEdge 3 d') hF hB ho0 n os (by rw [size_flatK, hsz]; rfl) r (by omega) (by
        rw [List.map_id, hfl']
        exact List.take_of_length_le (by rw [flat_length hF.len]; exact Nat.le_refl _))
      rw [hrl] at hp
      exact ⟨rfl, hp⟩
  · cases h
end Go.Proofs.Ytdcelpppgbmlaaa.P
