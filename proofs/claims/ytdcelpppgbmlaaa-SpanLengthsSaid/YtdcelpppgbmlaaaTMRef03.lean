/- Plain law: what the reference's package span computes (Contains, Insert, Points, wanted, Join, combined), as sets of instants. No condition. -/
import Derived.Test.YtdcelpppgbmlaaaTMSpan
import Derived.Test.YtdcelpppgbmlaaaTPRef03c
namespace Go.Proofs.Ytdcelpppgbmlaaa.P
open Go.RowKit Go.Proofs.YtdcelpppgbmlaaaW.PrintWords
set_option linter.unusedSimpArgs false
set_option linter.unusedVariables false
theorem Ev.step' {α : Type} {g : Nat → Option α} {r : α} (h : Ev (fun k => g (k + 1)) r) : Ev g r := Ev.step (fun _ => rfl) h
theorem w64 {x : Int} (h0 : -9223372036854775808 ≤ x) (h1 : x ≤ 9223372036854775807) : wrap64 x = x := by unfold wrap64; omega
theorem w64n (n : Nat) (h : n < 9223372036854775807) : wrap64 ((n : Int) + 1) = ((n + 1 : Nat) : Int) := by rw [w64 (by omega) (by omega)]; rfl
theorem rd33 (l : List S33) (i : Nat) (h : i < l.length) : rd_T33 l (i : Int) = l[i] := by
  simp [rd_T33, List.getD_eq_getElem?_getD, List.getElem?_eq_getElem h]
theorem rdI (l : List Int) (i : Nat) (h : i < l.length) : rd l (i : Int) = l[i] := by
  simp [rd, List.getD_eq_getElem?_getD, List.getElem?_eq_getElem h]
theorem dec_eq {p q : Prop} [Decidable p] [Decidable q] (h : p ↔ q) : decide p = decide q := by simp [h]
theorem valid_eq (a b : Int) : bitemporalref01_Valid.f a b = some (decide (Vld ⟨a, b⟩)) := by
  unfold bitemporalref01_Valid.f
  by_cases h0 : a ≥ 0
  · by_cases h1 : a < b
    · rw [if_pos h0, if_pos h1]
      exact congrArg some (dec_eq ⟨fun h => ⟨h0, h1, h⟩, fun h => h.2.2⟩)
    · rw [if_pos h0, if_neg h1]
      exact congrArg some (decide_eq_false fun h => h1 h.2.1).symm
  · rw [if_neg h0]
    exact congrArg some (decide_eq_false fun h => h0 h.1).symm
theorem contains1_eq (a b t : Int) : bitemporalref01_Contains.f a b t = some (decide (InP ⟨a, b⟩ t)) := by
  unfold bitemporalref01_Contains.f
  rw [valid_eq, Option.bind_some]
  unfold InP
  by_cases hv : Vld ⟨a, b⟩
  · by_cases h1 : a ≤ t
    · simp [hv, h1]
    · simp [hv, h1]
  · simp [hv]
theorem ref03_Contains_loop (l : List S33) (t : Int) (hl : l.length < 9223372036854775807) : ∀ (n i : Nat), l.length - i = n → i ≤ l.length →
    Ev (fun k => bitemporalref03_Contains.l0 k l t (i : Int)) (decide (Mem (l.drop i) t)) := by
  intro n
  induction n with
  | zero =>
    intro i hn hi
    refine Ev.step' ?_
    have hge : ¬ ((i : Int) < (l.length : Int)) := by omega
    simp only [bitemporalref03_Contains.l0, hge, if_false]
    rw [List.drop_of_length_le (by omega)]
    exact Ev.now _
  | succ n ih =>
    intro i hn hi
    refine Ev.step' ?_
    have hlt : (i : Int) < (l.length : Int) := by omega
    have hi' : i < l.length := by omega
    have h0 : (0 : Int) ≤ (i : Int) := by omega
    simp only [bitemporalref03_Contains.l0, hlt, h0, if_true, rd33 l i hi', contains1_eq, Option.bind_some, w64n i (by omega)]
    rw [List.drop_eq_getElem_cons hi']
    by_cases hp : InP l[i] t
    · have : Mem (l[i] :: l.drop (i + 1)) t := Mem_cons.2 (.inl hp)
      simp only [show (⟨l[i].f0, l[i].f1⟩ : S33) = l[i] from rfl, hp, this, decide_true, if_true]
      exact Ev.now _
    · have he : decide (Mem (l[i] :: l.drop (i + 1)) t) = decide (Mem (l.drop (i + 1)) t) := dec_eq (by rw [Mem_cons]; simp [hp])
      simp only [show (⟨l[i].f0, l[i].f1⟩ : S33) = l[i] from rfl, hp, decide_false, he, Bool.false_eq_true, if_false]
      exact ih (i + 1) (by omega) (by omega)
theorem ref03_Contains_ev (l : List S33) (t : Int) (hl : l.length < 9223372036854775807) : Ev (fun k => bitemporalref03_Contains.f k l t) (decide (Mem l t)) := by
  have := ref03_Contains_loop l t hl l.length 0 (by omega) (by omega)
  simpa [bitemporalref03_Contains.f] using this
def Asc (l : List Int) : Prop := l.Pairwise (· < ·)
theorem Asc.ext : ∀ {l m : List Int}, Asc l → Asc m → (∀ x, x ∈ l ↔ x ∈ m) → l = m
  | [], [], _, _, _ => rfl
  | [], y :: m, _, _, h => absurd ((h y).2 List.mem_cons_self) (by simp)
  | x :: l, [], _, _, h => absurd ((h x).1 List.mem_cons_self) (by simp)
  | x :: l, y :: m, hl, hm, h => by
    have h1 := List.pairwise_cons.1 hl
    have h2 := List.pairwise_cons.1 hm
    have e : x = y := by
      rcases List.mem_cons.1 ((h x).1 List.mem_cons_self) with rfl | hx
      · rfl
      · rcases List.mem_cons.1 ((h y).2 List.mem_cons_self) with rfl | hy
        · rfl
        · have := h1.1 y hy
          have := h2.1 x hx
          omega
    subst e
    rw [Asc.ext h1.2 h2.2 fun z => ?_]
    have hz := h z
    simp only [List.mem_cons] at hz
    constructor
    · intro hzl
      have := h1.1 z hzl
      rcases hz.1 (.inr hzl) with rfl | hz'
      · omega
      · exact hz'
    · intro hzm
      have := h2.1 z hzm
      rcases hz.2 (.inr hzm) with rfl | hz'
      · omega
      · exact hz'
def ins (n : Int) : List Int → List Int
  | [] => [n]
  | x :: r => if x < n then x :: ins n r else if x = n then x :: r else n :: x :: r
theorem mem_ins (n : Int) (l : List Int) (x : Int) : x ∈ ins n l ↔ x = n ∨ x ∈ l := by
  induction l with
  | nil => simp [ins]
  | cons y r ih =>
    unfold ins
    split
    · simp only [List.mem_cons, ih]
      constructor
      · rintro (h | h | h)
        · exact .inr (.inl h)
        · exact .inl h
        · exact .inr (.inr h)
      · rintro (h | h | h)
        · exact .inr (.inl h)
        · exact .inl h
        · exact .inr (.inr h)
    · split
      · rename_i h; subst h; simp
      · simp
theorem ins_asc (n : Int) {l : List Int} (h : Asc l) : Asc (ins n l) := by
  induction l with
  | nil => simp [ins, Asc]
  | cons y r ih =>
    have h1 := List.pairwise_cons.1 h
    unfold ins
    split
    · rename_i hy
      refine List.pairwise_cons.2 ⟨fun z hz => ?_, ih h1.2⟩
      rcases (mem_ins n r z).1 hz with rfl | hz
      · exact hy
      · exact h1.1 z hz
    · split
      · exact h
      · rename_i h2 h3
        refine List.pairwise_cons.2 ⟨fun z hz => ?_, h⟩
        rcases List.mem_cons.1 hz with rfl | hz
        · omega
        · have := h1.1 z hz; omega
theorem ins_length (n : Int) (l : List Int) : (ins n l).length ≤ l.length + 1 := by
  induction l with
  | nil => simp [ins]
  | cons y r ih =>
    unfold ins
    split
    · simp only [List.length_cons]; omega
    · split
      · simp only [List.length_cons]; omega
      · simp only [List.length_cons]; omega
theorem ref03_Insert_copy (l : List Int) (hl : l.length < 1000000000) : ∀ (n i : Nat) (out : List Int), l.length - i = n → i ≤ l.length → out.length ≤ i + 1 →
    Ev (fun k => bitemporalref03_Insert.l1 k l out (i : Int)) (out ++ l.drop i) := by
  intro n
  induction n with
  | zero =>
    intro i out hn hi ho
    refine Ev.step' ?_
    have hge : ¬ ((i : Int) < (l.length : Int)) := by omega
    simp only [bitemporalref03_Insert.l1, hge, if_false]
    rw [List.drop_of_length_le (by omega), List.append_nil]
    exact Ev.now _
  | succ n ih =>
    intro i out hn hi ho
    refine Ev.step' ?_
    have hlt : (i : Int) < (l.length : Int) := by omega
    have hi' : i < l.length := by omega
    have h0 : (0 : Int) ≤ (i : Int) := by omega
    have hsz : out.length < 17592186044416 := by omega
    simp only [bitemporalref03_Insert.l1, hlt, h0, hsz, if_true, rdI l i hi', w64n i (by omega)]
    have := ih (i + 1) (out ++ [l[i]]) (by omega) (by omega) (by simp; omega)
    rw [List.append_assoc, List.singleton_append] at this
    rw [List.drop_eq_getElem_cons hi']
    exact this
theorem ref03_Insert_loop (l : List Int) (m : Int) (hl : l.length < 1000000000) : ∀ (n i : Nat) (out : List Int), l.length - i = n → i ≤ l.length → out.length = i →
    Ev (fun k => bitemporalref03_Insert.l0 k l m out (i : Int)) (out ++ ins m (l.drop i)) := by
  intro n
  induction n with
  | zero =>
    intro i out hn hi ho
    refine Ev.step' ?_
    have hge : ¬ ((i : Int) < (l.length : Int)) := by omega
    simp only [bitemporalref03_Insert.l0, hge, if_false]
    refine Ev.step' ?_
    have heq : (i : Int) = (l.length : Int) := by omega
    have hsz : out.length < 17592186044416 := by omega
    have hc := ref03_Insert_copy l hl 0 i (out ++ [m]) (by omega) (by omega) (by simp; omega)
    rw [List.drop_of_length_le (by omega), List.append_nil] at hc
    rw [List.drop_of_length_le (by omega)]
    rw [heq] at hc
    simp only [bitemporalref03_Insert.j1, heq, if_true]
    refine Ev.step' ?_
    simp only [bitemporalref03_Insert.j2, hsz, if_true]
    refine Ev.step' ?_
    simp only [bitemporalref03_Insert.j3]
    exact hc
  | succ n ih =>
    intro i out hn hi ho
    refine Ev.step' ?_
    have hlt : (i : Int) < (l.length : Int) := by omega
    have hi' : i < l.length := by omega
    have h0 : (0 : Int) ≤ (i : Int) := by omega
    have hsz : out.length < 17592186044416 := by omega
    rw [List.drop_eq_getElem_cons hi']
    by_cases hx : l[i] < m
    · simp only [bitemporalref03_Insert.l0, hlt, h0, hsz, if_true, rdI l i hi', hx, w64n i (by omega)]
      have := ih (i + 1) (out ++ [l[i]]) (by omega) (by omega) (by simp; omega)
      rw [List.append_assoc, List.singleton_append] at this
      unfold ins
      rw [if_pos hx]
      exact this
    · simp only [bitemporalref03_Insert.l0, hlt, h0, if_true, rdI l i hi', hx, if_false]
      refine Ev.step' ?_
      have hne : ¬ ((i : Int) = (l.length : Int)) := by omega
      unfold ins
      rw [if_neg hx]
      by_cases he : l[i] = m
      · rw [if_pos he]
        have hng : ¬ (l[i] > m) := by omega
        have hc := ref03_Insert_copy l hl (n + 1) i out (by omega) (by omega) (by omega)
        rw [List.drop_eq_getElem_cons hi'] at hc
        simp only [bitemporalref03_Insert.j1, hne, hlt, h0, if_true, if_false, rdI l i hi', hng, decide_false]
        refine Ev.step' ?_
        simp only [bitemporalref03_Insert.j2, Bool.false_eq_true, if_false]
        refine Ev.step' ?_
        simp only [bitemporalref03_Insert.j3]
        exact hc
      · rw [if_neg he]
        have hg : l[i] > m := by omega
        have hc := ref03_Insert_copy l hl (n + 1) i (out ++ [m]) (by omega) (by omega) (by simp; omega)
        rw [List.drop_eq_getElem_cons hi', List.append_assoc, List.singleton_append] at hc
        simp only [bitemporalref03_Insert.j1, hne, hlt, h0, if_true, if_false, rdI l i hi', hg, decide_true]
        refine Ev.step' ?_
        simp only [bitemporalref03_Insert.j2, hsz, if_true]
        refine Ev.step' ?_
        simp only [bitemporalref03_Insert.j3]
        exact hc
theorem ref03_Insert_ev (l : List Int) (m : Int) (hl : l.length < 1000000000) : Ev (fun k => bitemporalref03_Insert.f k l m) (ins m l) := by
  have := ref03_Insert_loop l m hl l.length 0 [] (by omega) (by omega) rfl
  simpa [bitemporalref03_Insert.f] using this
def pts : List S33 → List Int → List Int
  | [], acc => acc
  | p :: r, acc => if Vld p then pts r (ins p.f1 (ins p.f0 acc)) else pts r acc
theorem ref03_Points_loop (l : List S33) (hl : l.length < 100000000) : ∀ (n i : Nat) (acc : List Int), l.length - i = n → i ≤ l.length → acc.length ≤ 2 * i →
    Ev (fun k => bitemporalref03_Points.l0 k l acc (i : Int)) (pts (l.drop i) acc) := by
  intro n
  induction n with
  | zero =>
    intro i acc hn hi ha
    refine Ev.step' ?_
    have hge : ¬ ((i : Int) < (l.length : Int)) := by omega
    simp only [bitemporalref03_Points.l0, hge, if_false]
    rw [List.drop_of_length_le (by omega)]
    exact Ev.now _
  | succ n ih =>
    intro i acc hn hi ha
    refine Ev.step' ?_
    have hlt : (i : Int) < (l.length : Int) := by omega
    have hi' : i < l.length := by omega
    have h0 : (0 : Int) ≤ (i : Int) := by omega
    simp only [bitemporalref03_Points.l0, hlt, h0, if_true, rd33 l i hi', valid_eq, Option.bind_some, w64n i (by omega)]
    rw [List.drop_eq_getElem_cons hi']
    by_cases hv : Vld l[i]
    · have h1 := ins_length l[i].f0 acc
      have h2 := ins_length l[i].f1 (ins l[i].f0 acc)
      simp only [show (⟨l[i].f0, l[i].f1⟩ : S33) = l[i] from rfl, hv, decide_true, if_true, pts]
      refine Ev.bind (ref03_Insert_ev acc l[i].f0 (by omega)) ?_
      refine Ev.bind (ref03_Insert_ev _ l[i].f1 (by omega)) ?_
      exact ih (i + 1) _ (by omega) (by omega) (by omega)
    · simp only [show (⟨l[i].f0, l[i].f1⟩ : S33) = l[i] from rfl, hv, decide_false, Bool.false_eq_true, if_false, pts]
      exact ih (i + 1) _ (by omega) (by omega) (by omega)
theorem ref03_Points_ev (l : List S33) (hl : l.length < 100000000) : Ev (fun k => bitemporalref03_Points.f k l) (pts l []) := by
  have := ref03_Points_loop l hl l.length 0 [] (by omega) (by omega) (by simp)
  simpa [bitemporalref03_Points.f] using this
theorem pts_asc : ∀ (l : List S33) {acc : List Int}, Asc acc → Asc (pts l acc)
  | [], _, h => h
  | p :: r, acc, h => by
    unfold pts
    split
    · exact pts_asc r (ins_asc _ (ins_asc _ h))
    · exact pts_asc r h
theorem mem_pts : ∀ (l : List S33) (acc : List Int) (x : Int), x ∈ pts l acc ↔ x ∈ acc ∨ ∃ p ∈ l, Vld p ∧ (x = p.f0 ∨ x = p.f1)
  | [], acc, x => by simp [pts]
  | p :: r, acc, x => by
    unfold pts
    split
    · rename_i hv
      rw [mem_pts r, mem_ins, mem_ins]
      constructor
      · rintro ((h | h | h) | ⟨q, hq, h⟩)
        · exact .inr ⟨p, List.mem_cons_self, hv, .inr h⟩
        · exact .inr ⟨p, List.mem_cons_self, hv, .inl h⟩
        · exact .inl h
        · exact .inr ⟨q, List.mem_cons_of_mem _ hq, h⟩
      · rintro (h | ⟨q, hq, h1, h2⟩)
        · exact .inl (.inr (.inr h))
        · rcases List.mem_cons.1 hq with rfl | hq
          · rcases h2 with h2 | h2
            · exact .inl (.inr (.inl h2))
            · exact .inl (.inl h2)
          · exact .inr ⟨q, hq, h1, h2⟩
    · rename_i hv
      rw [mem_pts r]
      constructor
      · rintro (h | ⟨q, hq, h⟩)
        · exact .inl h
        · exact .inr ⟨q, List.mem_cons_of_mem _ hq, h⟩
      · rintro (h | ⟨q, hq, h1, h2⟩)
        · exact .inl h
        · rcases List.mem_cons.1 hq with rfl | hq
          · exact absurd h1 hv
          · exact .inr ⟨q, hq, h1, h2⟩
theorem pts_length : ∀ (l : List S33) (acc : List Int), (pts l acc).length ≤ acc.length + 2 * l.length
  | [], acc => by simp [pts]
  | p :: r, acc => by
    unfold pts
    split
    · have h1 := ins_length p.f0 acc
      have h2 := ins_length p.f1 (ins p.f0 acc)
      have h3 := pts_length r (ins p.f1 (ins p.f0 acc))
      simp only [List.length_cons]
      omega
    · have h3 := pts_length r acc
      simp only [List.length_cons]
      omega
theorem Mem_still {l : List S33} {a b t : Int} (h : ∀ x, (∃ p ∈ l, Vld p ∧ (x = p.f0 ∨ x = p.f1)) → x ≤ a ∨ b ≤ x) (h0 : a ≤ t) (h1 : t < b) : Mem l t ↔ Mem l a := by
  constructor
  · rintro ⟨p, hp, hv, h2, h3⟩
    refine ⟨p, hp, hv, ?_, ?_⟩
    · rcases h p.f0 ⟨p, hp, hv, .inl rfl⟩ with h4 | h4 <;> omega
    · omega
  · rintro ⟨p, hp, hv, h2, h3⟩
    refine ⟨p, hp, hv, by omega, ?_⟩
    rcases h p.f1 ⟨p, hp, hv, .inr rfl⟩ with h4 | h4 <;> omega
end Go.Proofs.Ytdcelpppgbmlaaa.P
