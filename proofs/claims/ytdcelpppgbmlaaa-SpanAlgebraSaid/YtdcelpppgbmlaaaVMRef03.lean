/- Plain law: what the reference's package span computes (Contains, Insert, Points, wanted, Join, combined), as sets of instants. No condition. -/
import Derived.Test.YtdcelpppgbmlaaaVMSpan
import Derived.Test.YtdcelpppgbmlaaaVP0
import Derived.Test.YtdcelpppgbmlaaaVPRef01
import Derived.Test.YtdcelpppgbmlaaaVPRef03
namespace Go.Proofs.Ytdcelpppgbmlaaa.P
open Go.RowKit Go.Proofs.YtdcelpppgbmlaaaW.PrintWords
set_option linter.unusedSimpArgs false
set_option linter.unusedVariables false
theorem Ev.step' {α : Type} {g : Nat → Option α} {r : α} (h : Ev (fun k => g (k + 1)) r) : Ev g r := Ev.step (fun _ => rfl) h
theorem w64 {x : Int} (h0 : -9223372036854775808 ≤ x) (h1 : x ≤ 9223372036854775807) : wrap64 x = x := by unfold wrap64; omega
theorem w64n (n : Nat) (h : n < 9223372036854775807) : wrap64 ((n : Int) + 1) = ((n + 1 : Nat) : Int) := by rw [w64 (by omega) (by omega)]; rfl
theorem rd33 (l : List S33) (i : Nat) (h : i < l.length) : rd_T33 l (i : Int) = l[i] := by
  simp [rd_T33, List.getD_eq_getElem?_getD, List.getElem?_eq_getElem h]
theorem rdI (l : List Int) (i : Nat) (h : i < l.length) : rd l (i : Int) = l[i] := by
  simp [rd, List.getD_eq_getElem?_getD, List.getElem?_eq_getElem h]
theorem dec_eq {p q : Prop} [Decidable p] [Decidable q] (h : p ↔ q) : decide p = decide q := by simp [h]
theorem valid_eq (a b : Int) : bitemporalref01_Valid.f a b = some (decide (Vld ⟨a, b⟩)) := by
  unfold bitemporalref01_Valid.f
  by_cases h0 : a ≥ 0
  · by_cases h1 : a < b
    · rw [if_pos h0, if_pos h1]
      exact congrArg some (dec_eq ⟨fun h => ⟨h0, h1, h⟩, fun h => h.2.2⟩)
    · rw [if_pos h0, if_neg h1]
      exact congrArg some (decide_eq_false fun h => h1 h.2.1).symm
  · rw [if_neg h0]
    exact congrArg some (decide_eq_false fun h => h0 h.1).symm
def Asc (l : List Int) : Prop := l.Pairwise (· < ·)
theorem Asc.ext : ∀ {l m : List Int}, Asc l → Asc m → (∀ x, x ∈ l ↔ x ∈ m) → l = m
  | [], [], _, _, _ => rfl
  | [], y :: m, _, _, h => absurd ((h y).2 List.mem_cons_self) (by simp)
  | x :: l, [], _, _, h => absurd ((h x).1 List.mem_cons_self) (by simp)
  | x :: l, y :: m, hl, hm, h => by
    have h1 := List.pairwise_cons.1 hl
    have h2 := List.pairwise_cons.1 hm
    have e : x = y := by
      rcases List.mem_cons.1 ((h x).1 List.mem_cons_self) with rfl | hx
      · rfl
      · rcases List.mem_cons.1 ((h y).2 List.mem_cons_self) with rfl | hy
        · rfl
        · have := h1.1 y hy
          have := h2.1 x hx
          omega
    subst e
    rw [Asc.ext h1.2 h2.2 fun z => ?_]
    have hz := h z
    simp only [List.mem_cons] at hz
    constructor
    · intro hzl
      have := h1.1 z hzl
      rcases hz.1 (.inr hzl) with rfl | hz'
      · omega
      · exact hz'
    · intro hzm
      have := h2.1 z hzm
      rcases hz.2 (.inr hzm) with rfl | hz'
      · omega
      · exact hz'
def ins (n : Int) : List Int → List Int
  | [] => [n]
  | x :: r => if x < n then x :: ins n r else if x = n then x :: r else n :: x :: r
theorem mem_ins (n : Int) (l : List Int) (x : Int) : x ∈ ins n l ↔ x = n ∨ x ∈ l := by
  induction l with
  | nil => simp [ins]
  | cons y r ih =>
    unfold ins
    split
    · simp only [List.mem_cons, ih]
      constructor
      · rintro (h | h | h)
        · exact .inr (.inl h)
        · exact .inl h
        · exact .inr (.inr h)
      · rintro (h | h | h)
        · exact .inr (.inl h)
        · exact .inl h
        · exact .inr (.inr h)
    · split
      · rename_i h; subst h; simp
      · simp
theorem ins_asc (n : Int) {l : List Int} (h : Asc l) : Asc (ins n l) := by
  induction l with
  | nil => simp [ins, Asc]
  | cons y r ih =>
    have h1 := List.pairwise_cons.1 h
    unfold ins
    split
    · rename_i hy
      refine List.pairwise_cons.2 ⟨fun z hz => ?_, ih h1.2⟩
      rcases (mem_ins n r z).1 hz with rfl | hz
      · exact hy
      · exact h1.1 z hz
    · split
      · exact h
      · rename_i h2 h3
        refine List.pairwise_cons.2 ⟨fun z hz => ?_, h⟩
        rcases List.mem_cons.1 hz with rfl | hz
        · omega
        · have := h1.1 z hz; omega
theorem ins_length (n : Int) (l : List Int) : (ins n l).length ≤ l.length + 1 := by
  induction l with
  | nil => simp [ins]
  | cons y r ih =>
    unfold ins
    split
    · simp only [List.length_cons]; omega
    · split
      · simp only [List.length_cons]; omega
      · simp only [List.length_cons]; omega
def pts : List S33 → List Int → List Int
  | [], acc => acc
  | p :: r, acc => if Vld p then pts r (ins p.f1 (ins p.f0 acc)) else pts r acc
theorem pts_asc : ∀ (l : List S33) {acc : List Int}, Asc acc → Asc (pts l acc)
  | [], _, h => h
  | p :: r, acc, h => by
    unfold pts
    split
    · exact pts_asc r (ins_asc _ (ins_asc _ h))
    · exact pts_asc r h
theorem mem_pts : ∀ (l : List S33) (acc : List Int) (x : Int), x ∈ pts l acc ↔ x ∈ acc ∨ ∃ p ∈ l, Vld p ∧ (x = p.f0 ∨ x = p.f1)
  | [], acc, x => by simp [pts]
  | p :: r, acc, x => by
    unfold pts
    split
    · rename_i hv
      rw [mem_pts r, mem_ins, mem_ins]
      constructor
      · rintro ((h | h | h) | ⟨q, hq, h⟩)
        · exact .inr ⟨p, List.mem_cons_self, hv, .inr h⟩
        · exact .inr ⟨p, List.mem_cons_self, hv, .inl h⟩
        · exact .inl h
        · exact .inr ⟨q, List.mem_cons_of_mem _ hq, h⟩
      · rintro (h | ⟨q, hq, h1, h2⟩)
        · exact .inl (.inr (.inr h))
        · rcases List.mem_cons.1 hq with rfl | hq
          · rcases h2 with h2 | h2
            · exact .inl (.inr (.inl h2))
            · exact .inl (.inl h2)
          · exact .inr ⟨q, hq, h1, h2⟩
    · rename_i hv
      rw [mem_pts r]
      constructor
      · rintro (h | ⟨q, hq, h⟩)
        · exact .inl h
        · exact .inr ⟨q, List.mem_cons_of_mem _ hq, h⟩
      · rintro (h | ⟨q, hq, h1, h2⟩)
        · exact .inl h
        · rcases List.mem_cons.1 hq with rfl | hq
          · exact absurd h1 hv
          · exact .inr ⟨q, hq, h1, h2⟩
theorem pts_length : ∀ (l : List S33) (acc : List Int), (pts l acc).length ≤ acc.length + 2 * l.length
  | [], acc => by simp [pts]
  | p :: r, acc => by
    unfold pts
    split
    · have h1 := ins_length p.f0 acc
      have h2 := ins_length p.f1 (ins p.f0 acc)
      have h3 := pts_length r (ins p.f1 (ins p.f0 acc))
      simp only [List.length_cons]
      omega
    · have h3 := pts_length r acc
      simp only [List.length_cons]
      omega
end Go.Proofs.Ytdcelpppgbmlaaa.P
