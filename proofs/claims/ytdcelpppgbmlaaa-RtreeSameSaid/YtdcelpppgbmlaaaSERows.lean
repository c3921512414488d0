/- Rows of the call's own that the library rewrites in place (slices.Sort, slices.SortFunc, slices.Compact), between the print's words and the sort's. No program; no condition. -/
import Derived.Test.YtdcelpppgbmlaaaSWAll
import Derived.Shelf.GgSortFunc.InsertionK
namespace Go.Proofs.Ytdcelpppgbmlaaa.P
open Go.RowKit Go.Sort Go.Proofs.YtdcelpppgbmlaaaW.PrintWords
section
variable {α : Type} [Inhabited α]
theorem heap_put (enc : α → Value) {w : World} {g n : Nat} {os : Array Obj} {cur : Array Value} {e : TypeId} {fr : Nat × Nat} (d : Array α) (hb : w.heap[g]? = some (.cells cur e fr)) :
    (grow (putRow enc (Sort.ahead w n) g 0 d) os).heap[g]? = some (.cells (putCells enc 0 d cur) e fr) := by
  have hg : g < w.heap.size := (Array.getElem?_eq_some_iff.1 hb).1
  rw [heap_grow_old _ _ (by simpa using hg)]
  simp [putRow, mapBlock, Sort.ahead, Array.getElem?_modify, hb, onCells]
theorem grownBy_put (enc : α → Value) {w : World} {g n : Nat} {os : Array Obj} (d : Array α) : w.grownBy (grow (putRow enc (Sort.ahead w n) g 0 d) os) (some g) := by
  refine ⟨rfl, rfl, rfl, by simp, fun k hk hne => ?_⟩
  rw [heap_grow_old _ _ (by simpa using hk)]
  have : g ≠ k := fun e => hne (by rw [e])
  simp [putRow, mapBlock, Sort.ahead, Array.getElem?_modify, this]
theorem take_put (enc : α → Value) (cur : Array Value) (d : Array α) (h : d.size ≤ cur.size) : (putCells enc 0 d cur).toList.take d.size = d.toList.map enc := by
  apply List.ext_getElem?
  intro j
  by_cases hj : j < d.size
  · rw [List.getElem?_take_of_lt hj, Array.getElem?_toList]
    simp [putCells, hj, show j < cur.size by omega]
  · rw [List.getElem?_take_eq_none (by omega), List.getElem?_eq_none (by simp; omega)]
theorem holds_row (enc : α → Value) {w : World} {g : Nat} {cur : Array Value} {e : TypeId} (d : Array α) (hb : w.heap[g]? = some (.cells cur e (0, 0))) (ht : cur.toList.take d.size = d.toList.map enc) : Holds enc w g 0 d := by
  intro j hj
  refine ⟨?_, by simp [World.frozen?, hb]⟩
  have h1 : (cur.toList.take d.size)[j]? = (d.toList.map enc)[j]? := by rw [ht]
  rw [List.getElem?_take_of_lt hj] at h1
  simp only [World.cell?, hb, Nat.zero_add]
  simp only [Option.isSome_none, Bool.false_eq_true, if_false]
  rw [← Array.getElem?_toList, h1]
  simp [hj]
theorem own_put (enc : α → Value) {w : World} {base g n n' cap m : Nat} {e : TypeId} {size : Nat} {xs : List Value} {os : Array Obj} (h : w.ownsRow base e size (.slice (some ⟨g, 0, none⟩) n cap) n xs) (d : Array α) (hd : d.size = n * size) (hn : n' ≤ n) :
    (grow (putRow enc (Sort.ahead w m) g 0 d) os).ownsRow base e size (.slice (some ⟨g, 0, none⟩) n' cap) n' ((d.toList.map enc).take (n' * size)) := by
  have hle : n' * size ≤ n * size := Nat.mul_le_mul_right _ hn
  rcases h.2 with ⟨h0, _⟩ | ⟨g', cap', cur, hv, hbase, hb, h1, h2, h3, h4⟩
  · cases h0
  · injection hv with e1 e2 e3
    injection e1 with e1
    injection e1 with e1
    subst e1; subst e3
    have hcn : n * size ≤ cur.size := by rw [h3]; exact Nat.mul_le_mul_right _ h1
    refine ⟨by rw [List.length_take, List.length_map, Array.length_toList, hd]; omega, .inr ⟨g, cap, _, rfl, hbase, heap_put enc d hb, by omega, h2, by simp [putCells, h3], ?_⟩⟩
    rw [← take_put enc cur d (by omega), hd, List.take_take, Nat.min_eq_left hle]
end
structure Flat {α : Type} (d : Kd α) (enc : α → List Value) : Prop where
  len : ∀ x, (enc x).length = d.sz
  put : ∀ w base ok x, d.M w base ok x (enc x)
  op : ∀ {w base ok x cs}, d.M w base ok x cs → cs = enc x
section
variable {α : Type} {d : Kd α} {enc : α → List Value}
theorem flat_take (hl : ∀ x, (enc x).length = d.sz) : ∀ (ys : List α) (j : Nat) (y : α), ys[j]? = some y → ((ys.flatMap enc).drop (j * d.sz)).take d.sz = enc y
  | [], j, y, h => by simp at h
  | x :: r, 0, y, h => by
    have : x = y := by simpa using h
    subst this
    simp only [List.flatMap_cons, Nat.zero_mul, List.drop_zero]
    rw [List.take_append_of_le_length (by rw [hl]; exact Nat.le_refl _), List.take_of_length_le (by rw [hl]; exact Nat.le_refl _)]
  | x :: r, j + 1, y, h => by
    have h' : r[j]? = some y := by simpa using h
    have e : (j + 1) * d.sz = (enc x).length + j * d.sz := by rw [hl, Nat.add_mul, Nat.one_mul, Nat.add_comm]
    rw [List.flatMap_cons, e, List.drop_length_add_append]
    exact flat_take hl r j y h'
theorem flat_length (hl : ∀ x, (enc x).length = d.sz) (ys : List α) : (ys.flatMap enc).length = ys.length * d.sz := by
  induction ys with
  | nil => simp
  | cons x r ih => rw [List.flatMap_cons, List.length_append, ih, hl, List.length_cons, Nat.add_mul, Nat.one_mul, Nat.add_comm]
theorem flat_of_reps {R : α → List Value → Prop} (hl : ∀ x, (enc x).length = d.sz) (hR : ∀ x cs, R x cs → cs = enc x) : ∀ (ys : List α) (cs : List Value), Reps R d.sz ys cs → cs = ys.flatMap enc
  | [], cs, h => by have := h.1; simp at this; rw [this]; rfl
  | x :: r, cs, h => by
    obtain ⟨h1, h2⟩ := h
    have h0 := hR _ _ (h2 0 x (by simp))
    rw [Nat.zero_mul, List.drop_zero] at h0
    rw [List.length_cons, Nat.add_mul, Nat.one_mul] at h1
    have ih := flat_of_reps hl hR r (cs.drop d.sz) ⟨by rw [List.length_drop, h1]; omega, fun j p hj => by
      have := h2 (j + 1) p (by simpa using hj)
      rw [List.drop_drop, show d.sz + j * d.sz = (j + 1) * d.sz by rw [Nat.add_mul, Nat.one_mul, Nat.add_comm]]
      exact this⟩
    rw [List.flatMap_cons, ← ih, ← h0, List.take_append_drop]
theorem Flat.own (hF : Flat d enc) {e : Nat} {w : World} {base : Nat} {ok : Nat → Prop} {v : Value} {xs : List α} (h : d.R e w base ok v xs) : w.ownsRow base e d.sz v xs.length (xs.flatMap enc) := by
  obtain ⟨_, inner, ho, hr⟩ := h
  have := flat_of_reps (R := d.M w base (fun k => ok k ∧ some k ≠ v.ownBlock)) hF.len (fun x cs hm => hF.op hm) xs inner hr
  rwa [this] at ho
theorem Flat.row (hF : Flat d enc) {e : Nat} {w : World} {base : Nat} {ok : Nat → Prop} {v : Value} {ys : List α} (h : w.ownsRow base e d.sz v ys.length (ys.flatMap enc)) (hok : ∀ k, v.ownBlock = some k → ok k) : d.R e w base ok v ys :=
  ⟨hok, _, h, flat_length hF.len ys, fun j p hj => by rw [flat_take hF.len ys j p hj]; exact hF.put _ _ _ _⟩
end
theorem Flat_int (k : IntKind) : Flat (Kd.int k) (fun x => [Value.int k x]) := ⟨fun _ => rfl, fun _ _ _ _ => rfl, fun h => h⟩
theorem flatMap_one {α : Type} (f : α → Value) (l : List α) : (l.flatMap fun x => [f x]) = l.map f := by
  induction l with
  | nil => rfl
  | cons x r ih => rw [List.flatMap_cons, ih]; rfl
theorem flatK_toList {α : Type} [Inhabited α] (enc : α → List Value) (k : Nat) (hk : ∀ x, (enc x).length = k) (d : Array α) : (flatK enc k d).toList = d.toList.flatMap enc := by
  apply List.ext_getElem?
  intro t
  have hlen : (d.toList.flatMap enc).length = d.size * k := by
    have : ∀ l : List α, (l.flatMap enc).length = l.length * k := by
      intro l
      induction l with
      | nil => simp
      | cons x r ih => rw [List.flatMap_cons, List.length_append, ih, hk, List.length_cons, Nat.add_mul, Nat.one_mul, Nat.add_comm]
    rw [this, Array.length_toList]
  have key : ∀ (l : List α) (t : Nat), t < l.length * k → ∃ y, l[t / k]? = some y ∧ (l.flatMap enc)[t]? = (enc y)[t % k]? := by
    intro l
    induction l with
    | nil => intro t h; simp at h
    | cons x r ih =>
      intro t h
      have k0 : 0 < k := by rcases Nat.eq_zero_or_pos k with h0 | h0; · subst h0; simp at h
                            · exact h0
      rw [List.flatMap_cons]
      by_cases ht : t < k
      · refine ⟨x, by rw [Nat.div_eq_of_lt ht]; rfl, ?_⟩
        rw [List.getElem?_append_left (by rw [hk]; exact ht), Nat.mod_eq_of_lt ht]
      · obtain ⟨y, hy, he⟩ := ih (t - k) (by rw [List.length_cons, Nat.add_mul, Nat.one_mul] at h; omega)
        have e1 : t / k = (t - k) / k + 1 := by rw [← Nat.add_div_right _ k0, Nat.sub_add_cancel (by omega)]
        have e2 : t % k = (t - k) % k := (Nat.mod_eq_sub_mod (by omega))
        refine ⟨y, by rw [e1]; simpa using hy, ?_⟩
        rw [List.getElem?_append_right (by rw [hk]; omega), hk, he, e2]
  by_cases ht : t < d.size * k
  · obtain ⟨y, hy, he⟩ := key d.toList t (by simpa using ht)
    rw [he]
    have k0 : 0 < k := by rcases Nat.eq_zero_or_pos k with h0 | h0; · subst h0; simp at ht
                          · exact h0
    have hy' : d[t / k]! = y := by
      rw [Array.getElem?_toList] at hy
      rw [Array.getElem!_eq_getD, Array.getD_eq_getD_getElem?, hy]; rfl
    rw [Array.getElem?_toList, Array.getElem?_eq_getElem (by simpa using ht)]
    have := get_flatK enc k d t ht
    rw [getElem!_pos _ _ (by simpa using ht)] at this
    rw [this, hy']
    have hm : t % k < (enc y).length := by rw [hk]; exact Nat.mod_lt _ k0
    rw [List.getElem?_eq_getElem hm, getElem!_pos (enc y) (t % k) hm]
  · rw [List.getElem?_eq_none (by rw [Array.length_toList, size_flatK]; omega), List.getElem?_eq_none (by rw [hlen]; omega)]
theorem own_shape {w : World} {base n : Nat} {e : TypeId} {size : Nat} {v : Value} {xs : List Value} (h : w.ownsRow base e size v n xs) :
    (v = .slice none 0 0 ∧ n = 0) ∨ ∃ g cap cur, v = .slice (some ⟨g, 0, none⟩) n cap ∧ base ≤ g ∧ w.heap[g]? = some (.cells cur e (0, 0)) ∧ n ≤ cap ∧ cap ≤ maxLen ∧ cur.size = cap * size ∧ cur.toList.take (n * size) = xs := h.2
end Go.Proofs.Ytdcelpppgbmlaaa.P
