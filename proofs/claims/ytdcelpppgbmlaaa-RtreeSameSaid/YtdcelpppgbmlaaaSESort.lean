/- slices.Sort and slices.Compact at []int, slices.SortFunc at the edges of package span, in the form of the printed contracts: the row that is handed over is the call's own. -/
import Derived.Test.YtdcelpppgbmlaaaSP0
import Derived.Test.YtdcelpppgbmlaaaSERows
import Derived.Test.YtdcelpppgbmlaaaSEShelf
import Derived.Shelf.SlSortCmp.NoneTotal
namespace Go.Proofs.Ytdcelpppgbmlaaa.P
open Go.RowKit Go.Sort Go.Shelf Go.Proofs.YtdcelpppgbmlaaaW.PrintWords Go.Proofs.YtdcelpppgbmlaaaW.PrintLast
section
variable {α β : Type} [Inhabited β] {d : Kd α} {enc : α → List Value} {e : Nat} {w0 w : World} {P : Nat → Prop} {g cap : Nat} {l : List α}
theorem put_R (enc0 : β → Value) (d0 : Array β) (hF : Flat d enc) (hB : Below w0.heap.size w0 w) (ho : d.R e w w0.heap.size P (.slice (some ⟨g, 0, none⟩) l.length cap) l) (m : Nat) (os : Array Obj) (hd : d0.size = l.length * d.sz)
    (r : List α) (hn : r.length ≤ l.length) (hc : (d0.toList.map enc0).take (r.length * d.sz) = r.flatMap enc) :
    d.R e (grow (putRow enc0 (Sort.ahead w m) g 0 d0) os) w0.heap.size (fun k => P k ∨ w.heap.size ≤ k) (.slice (some ⟨g, 0, none⟩) r.length cap) r ∧
      Below w0.heap.size w0 (grow (putRow enc0 (Sort.ahead w m) g 0 d0) os) ∧ Kept w (grow (putRow enc0 (Sort.ahead w m) g 0 d0) os) P := by
  have hown := hF.own ho
  have hP : P g := ho.1 g rfl
  have hg := grownBy_put (w := w) (g := g) (n := m) (os := os) enc0 d0
  refine ⟨hF.row (by have := own_put enc0 (m := m) (os := os) hown d0 hd hn; rwa [hc] at this) (fun k hk => .inl ?_), hB.grown hg hB.size (fun k hk => ?_), ⟨hg.size, fun i hi hn => hg.block i hi (fun he => ?_)⟩⟩
  · have : g = k := by simpa [Value.ownBlock] using hk
    exact this ▸ hP
  · have : g = k := by simpa using hk
    exact this ▸ own_base hown g rfl
  · have : i = g := by simpa using he
    exact hn (this ▸ hP)
theorem R_shape (hF : Flat d enc) {u : Value} (ho : d.R e w w0.heap.size P u l) :
    (u = .slice none 0 0 ∧ l = []) ∨ ∃ g cap cur, u = .slice (some ⟨g, 0, none⟩) l.length cap ∧ g < w.heap.size ∧ w.heap[g]? = some (.cells cur e (0, 0)) ∧ l.length ≤ cap ∧ cap ≤ maxLen ∧ cur.toList.take (l.length * d.sz) = l.flatMap enc := by
  rcases own_shape (hF.own ho) with ⟨rfl, h⟩ | ⟨g, cap, cur, rfl, _, hb, h1, h2, _, h4⟩
  · exact .inl ⟨rfl, List.eq_nil_of_length_eq_zero h⟩
  · exact .inr ⟨g, cap, cur, rfl, (Array.getElem?_eq_some_iff.1 hb).1, hb, h1, h2, h4⟩
end
def slices_Sort_int.f (l : List Int) : Option (List Int) := if l.length < 4611686018427387904 then some (l.mergeSort fun x y => decide (x ≤ y)) else none
theorem slices_Sort_int.calls (P0_ : Nat → Prop) (u : Value) (l0 : List Int) (r : List Int) (w0 w : World) (hB : Below w0.heap.size w0 w) (ho0 : Kd.R (Kd.int .i64) 3 w w0.heap.size P0_ u l0) (h : slices_Sort_int.f l0 = some r) :
    Calls Try.prog 112 #[u] w fun e w' => e = .returned (.tuple #[]) ∧ Kd.R (Kd.int .i64) 3 w' w0.heap.size (fun k_ => (P0_ k_ ∨ w.heap.size ≤ k_)) u r ∧ Below w0.heap.size w0 w' ∧ Kept w w' (fun k_ => P0_ k_) := by
  unfold slices_Sort_int.f at h
  split at h
  · rename_i hlt
    obtain rfl := Option.some.inj h
    have hF := Flat_int .i64
    rcases R_shape hF ho0 with ⟨rfl, rfl⟩ | ⟨g, cap, cur, rfl, hg, hb, h1, h2, h4⟩
    · refine (Any.slices_Sort_int_none Try.lays189 none 0 w).mono ?_
      rintro e w' ⟨rfl, rfl⟩
      rw [show (([] : List Int).mergeSort fun x y => decide (x ≤ y)) = [] by simp]
      exact ⟨rfl, Kd.R_mono ho0 (fun k hk => .inl hk), hB, Kept.refl _ _⟩
    · have hm : cur.toList.take l0.length = l0.map (Value.int .i64) := by rw [← flatMap_one]; simpa [show (Kd.int .i64).sz = 1 from rfl] using h4
      have hH : Holds (Value.int .i64) w g 0 l0.toArray := holds_row (Value.int .i64) l0.toArray hb (by simpa using hm)
      refine (Any.slices_Sort_int Try.lays189 g 0 cap l0 w hH hg hlt).mono ?_
      rintro e w' ⟨rfl, n, os, rfl⟩
      have hp := put_R (Value.int .i64) (l0.mergeSort fun x y => decide (x ≤ y)).toArray hF hB ho0 n os (by simp [show (Kd.int .i64).sz = 1 from rfl]) (l0.mergeSort fun x y => decide (x ≤ y)) (by simp) (by rw [flatMap_one]; simp [show (Kd.int .i64).sz = 1 from rfl]; exact List.take_of_length_le (by simp))
      rw [List.length_mergeSort] at hp
      exact ⟨rfl, hp⟩
  · cases h
abbrev Edge := { x : S163 // 0 ≤ x.f0 ∧ x.f0 ≤ 1099511627776 }
instance : Inhabited Edge := ⟨⟨⟨0, 0, 0⟩, by decide⟩⟩
end Go.Proofs.Ytdcelpppgbmlaaa.P
