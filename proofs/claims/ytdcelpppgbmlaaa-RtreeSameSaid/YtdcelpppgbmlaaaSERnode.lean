/- rtree's nodes in memory: a kind by level, read only. No condition. -/
import Derived.Test.YtdcelpppgbmlaaaSP0
namespace Go.Proofs.Ytdcelpppgbmlaaa.P
open Go.RowKit Go.Proofs.YtdcelpppgbmlaaaW.PrintWords
set_option linter.unusedSimpArgs false
set_option linter.unusedVariables false
def readKd {α : Type} (sz : Nat) (K : World → α → List Value → Prop) (h1 : ∀ {w x cs}, K w x cs → cs.length = sz) (h2 : ∀ {w x cs}, K w x cs → ∀ u ∈ cs, u.oneCell' = true) (h3 : ∀ {w w1 : World} {x cs}, Below w.heap.size w w1 → K w x cs → K w1 x cs) : Kd α where
  sz := sz
  E := []
  K := K
  M := fun _ _ _ _ _ => False
  K_len := h1
  K_one := h2
  K_below := h3
  K_of_M := fun h => h.elim
  M_mono := fun _ h => h
  M_bound := fun h => h
  M_move := fun _ h => h
  M_lower := fun _ h => h
def leafK (w : World) (x : S74) (cs : List Value) : Prop := x.f2 = [] ∧ ∃ b A c, cs = [.pointer (some ⟨b, 0, none⟩)] ∧ w.heap[b]? = some (.cells #[.int .i64 x.f0.f0.f0, .int .i64 x.f0.f0.f1, .int .i64 x.f0.f1.f0, .int .i64 x.f0.f1.f1, .slice A x.f1.length c, .slice none 0 0] 139 (0, 0)) ∧ x.f1.length ≤ c ∧ Kd.C k51 w A x.f1.length x.f1
def innerK (d : Kd S74) (w : World) (x : S74) (cs : List Value) : Prop := x.f1 = [] ∧ ∃ b A c, cs = [.pointer (some ⟨b, 0, none⟩)] ∧ w.heap[b]? = some (.cells #[.int .i64 x.f0.f0.f0, .int .i64 x.f0.f0.f1, .int .i64 x.f0.f1.f0, .int .i64 x.f0.f1.f1, .slice none 0 0, .slice A x.f2.length c] 139 (0, 0)) ∧ x.f2.length ≤ c ∧ Kd.C d w A x.f2.length x.f2
def kLeaf : Kd S74 := readKd 1 leafK (by rintro w x cs ⟨_, b, A, c, rfl, _⟩; rfl) (by rintro w x cs ⟨_, b, A, c, rfl, _⟩ u hu; obtain rfl := List.mem_singleton.1 hu; rfl)
  (by rintro w w1 x cs hb ⟨h0, b, A, c, rfl, h1, h2, h3⟩; exact ⟨h0, b, A, c, rfl, blk_below h1 hb, h2, Kd.C_below h3 hb⟩)
def kInner (d : Kd S74) : Kd S74 := readKd 1 (innerK d) (by rintro w x cs ⟨_, b, A, c, rfl, _⟩; rfl) (by rintro w x cs ⟨_, b, A, c, rfl, _⟩ u hu; obtain rfl := List.mem_singleton.1 hu; rfl)
  (by rintro w w1 x cs hb ⟨h0, b, A, c, rfl, h1, h2, h3⟩; exact ⟨h0, b, A, c, rfl, blk_below h1 hb, h2, Kd.C_below h3 hb⟩)
def kN : Nat → Kd S74
  | 0 => kLeaf
  | d + 1 => kInner (kN d)
theorem kN_sz : ∀ d, (kN d).sz = 1
  | 0 => rfl
  | _ + 1 => rfl
theorem kN_open {d : Nat} {w : World} {x : S74} {cs : List Value} (h : (kN d).K w x cs) : ∃ b A4 c4 A5 c5, cs = [.pointer (some ⟨b, 0, none⟩)] ∧ w.heap[b]? = some (.cells #[.int .i64 x.f0.f0.f0, .int .i64 x.f0.f0.f1, .int .i64 x.f0.f1.f0, .int .i64 x.f0.f1.f1, .slice A4 x.f1.length c4, .slice A5 x.f2.length c5] 139 (0, 0)) ∧
    x.f1.length ≤ c4 ∧ Kd.C k51 w A4 x.f1.length x.f1 ∧ x.f2.length ≤ c5 ∧ (x.f2 ≠ [] → ∃ e, d = e + 1 ∧ Kd.C (kN e) w A5 x.f2.length x.f2) := by
  cases d with
  | zero =>
    obtain ⟨h0, b, A, c, rfl, h1, h2, h3⟩ := h
    refine ⟨b, A, c, none, 0, rfl, ?_, h2, h3, by rw [h0]; exact Nat.le_refl _, fun hn => absurd h0 hn⟩
    rw [h0]
    exact h1
  | succ d =>
    obtain ⟨h0, b, A, c, rfl, h1, h2, h3⟩ := h
    refine ⟨b, none, 0, A, c, rfl, ?_, by rw [h0]; exact Nat.le_refl _, by rw [h0]; exact Kd.C_nil _ _, h2, fun _ => ⟨d, rfl, h3⟩⟩
    rw [h0]
    exact h1
theorem leaf_mkF {W : World} {ok : Nat → Prop} {r : S41} {l : List S51} {b c : Nat} {A : Option Addr} (hb : W.heap[b]? = some (.cells #[.int .i64 r.f0.f0, .int .i64 r.f0.f1, .int .i64 r.f1.f0, .int .i64 r.f1.f1, .slice A l.length c, .slice none 0 0] 139 (0, 0))) (hok : ok b) (hl : l.length ≤ c) (hF : Kd.F k51 W ok A l.length l) :
    Kd.FK (kN 0) W ok (⟨r, l, []⟩ : S74) [.pointer (some ⟨b, 0, none⟩)] := fun W' hW => ⟨rfl, b, A, c, rfl, (hW b hok (blk_lt hb)).trans hb, hl, hF W' hW⟩
theorem inner_mkF {d : Nat} {W : World} {ok : Nat → Prop} {r : S41} {l : List S74} {b c : Nat} {A : Option Addr} (hb : W.heap[b]? = some (.cells #[.int .i64 r.f0.f0, .int .i64 r.f0.f1, .int .i64 r.f1.f0, .int .i64 r.f1.f1, .slice none 0 0, .slice A l.length c] 139 (0, 0))) (hok : ok b) (hl : l.length ≤ c) (hF : Kd.F (kN d) W ok A l.length l) :
    Kd.FK (kN (d + 1)) W ok (⟨r, [], l⟩ : S74) [.pointer (some ⟨b, 0, none⟩)] := fun W' hW => ⟨rfl, b, A, c, rfl, (hW b hok (blk_lt hb)).trans hb, hl, hF W' hW⟩
end Go.Proofs.Ytdcelpppgbmlaaa.P
