/- From the form's reading of an argument to the print's words: a slice of structs (of structs, of slices ..) is read. No condition. -/
import Derived.Test.YtdcelpppgbmlaaaSWAll
import Derived.Deep.Slices
import Derived.ChangeSame
import Derived.Deep.Strs
import Derived.Lib.SmallJoins
namespace Go.Proofs.Ytdcelpppgbmlaaa.P
open Go.RowKit Go.Deep Go.ChangeShapes Go.Proofs.YtdcelpppgbmlaaaW.PrintWords
structure Opens (P : Program) {α : Type} (d : Kd α) (t : TypeId) : Prop where
  op : ∀ {H : Type} {enc : TypeId × Value → H} {w : World} {base : Nat} {spare : Nat → Bool} {held : Bool} {fuel : Nat} {cs : List Value} {x : DataW H × List MemPlace}, DataW.trod enc P w base spare held fuel t cs = some x → ∃ v, d.K w v cs
section
variable {P : Program}
theorem opens_int {t : TypeId} {k : IntKind} (ht : P.underlying t = some (.int k)) : Opens P (Kd.int k) t :=
  ⟨fun h => by obtain ⟨n, rfl, _, _⟩ := DataW.trod_int ht h; exact ⟨n, rfl⟩⟩
theorem opens_iso {α β : Type} {d : Kd α} {f : β → α} {t : TypeId} (g : α → β) (hg : ∀ x, f (g x) = x) (h : Opens P d t) : Opens P (Kd.iso d f) t :=
  ⟨fun hx => by obtain ⟨v, hv⟩ := h.op hx; exact ⟨g v, by show d.K _ (f (g v)) _; rw [hg]; exact hv⟩⟩
theorem opens_row {α : Type} [Inhabited α] {d : Kd α} {t e : TypeId} (ht : P.underlying t = some (.slice e)) (hs : P.cellsOf e = d.sz) (h : Opens P d e) {H : Type} {enc : TypeId × Value → H} {w : World} {base : Nat} {spare : Nat → Bool} {held : Bool} {fuel : Nat} {cs : List Value} {x : DataW H × List MemPlace}
    (hx : DataW.trod enc P w base spare held fuel t cs = some x) : ∃ (A : Option Addr) (c : Nat) (l : List α), cs = [.slice A l.length c] ∧ l.length ≤ c ∧ d.C w A l.length l := by
  rcases open_slice ht hx with ⟨rfl, _⟩ | ⟨a, len, cap, m, n, D, Pl, rfl, _, hl, hm, hmm, _, hel⟩
  · exact ⟨none, 0, [], rfl, Nat.le_refl _, rfl, by simp, fun hn => absurd hn (by simp)⟩
  · have hlm : len ≤ m := by rw [hmm]; split <;> omega
    obtain ⟨f, hf⟩ := choose_lt (α := α) (n := len) (p := fun i v => ∃ cs', w.cells? base (a.add (i * P.cellsOf e)) (P.cellsOf e) = some cs' ∧ d.K w v cs') (fun i hi => by
      obtain ⟨cs', h1, h2⟩ := hel i (by omega)
      obtain ⟨v, hv⟩ := h.op h2
      exact ⟨v, cs', h1, hv⟩)
    have hlen : ((List.range len).map f).length = len := by simp
    refine ⟨some a, cap, (List.range len).map f, by rw [hlen], by rw [hlen]; exact hl, rfl, by rw [hlen]; exact Nat.le_trans hl hm, fun _ => ⟨a, rfl, fun j p hj => ?_⟩⟩
    have hjl : j < len := by
      have := (List.getElem?_eq_some_iff.1 hj).1
      rwa [hlen] at this
    have hp : f j = p := by
      rw [List.getElem?_map, List.getElem?_range hjl] at hj
      simpa using hj
    obtain ⟨cs', h1, h2⟩ := hf j hjl
    rw [hs] at h1
    obtain ⟨_, hcl, hcell⟩ := World.cells?_some h1
    refine ⟨cs', hcl, hp ▸ h2, fun i u hu => ?_⟩
    have hi : i < d.sz := by
      have := (List.getElem?_eq_some_iff.1 hu).1
      omega
    rw [← Go.Deep.add_add, hcell i hi]
    exact hu
theorem opens_struct2 {α β : Type} {a : Kd α} {b : Kd β} {t : TypeId} {f0 f1 : Field} (ht : P.underlying t = some (.struct #[f0, f1])) (hc : P.cellsOf t = a.sz + b.sz) (o0 : f0.offset = 0) (o1 : f1.offset = a.sz) (c0 : P.cellsOf f0.type = a.sz) (c1 : P.cellsOf f1.type = b.sz)
    (h0 : Opens P a f0.type) (h1 : Opens P b f1.type) : Opens P (Kd.pair a b) t :=
  ⟨fun {H enc w base spare held fuel cs x} hx => by
    obtain ⟨y0, y1, n, _, hl, e0, e1⟩ := trod_struct2 ht hx
    obtain ⟨v0, k0⟩ := h0.op e0
    obtain ⟨v1, k1⟩ := h1.op e1
    rw [o0, c0, List.drop_zero] at k0
    rw [o1, c1] at k1
    refine ⟨(v0, v1), cs.take a.sz, cs.drop a.sz, (List.take_append_drop _ _).symm, k0, ?_⟩
    have : (cs.drop a.sz).take b.sz = cs.drop a.sz := List.take_of_length_le (by rw [List.length_drop]; omega)
    rw [this] at k1
    exact k1⟩
end
end Go.Proofs.Ytdcelpppgbmlaaa.P
