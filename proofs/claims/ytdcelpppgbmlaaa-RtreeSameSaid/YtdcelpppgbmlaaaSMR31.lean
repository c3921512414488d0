/- Plain law: the tree that Build makes, and what its methods answer. No program; no condition. -/
import Derived.Test.YtdcelpppgbmlaaaSMAll
import Derived.Test.YtdcelpppgbmlaaaSECheck
import Derived.Test.YtdcelpppgbmlaaaSEBuild31
namespace Go.Proofs.Ytdcelpppgbmlaaa.P
open Go.RowKit Go.Proofs.YtdcelpppgbmlaaaW.PrintWords
set_option linter.unusedSimpArgs false
set_option linter.unusedVariables false
def errP (l : List S51) (wd : Int) : Int := if wd < 2 ∨ wd > 64 then 6 else if l.length > 4096 then 5 else checkP [] l
theorem checkP_ok : ∀ (l : List S51) (seen : List Int), checkP seen l = 0 ↔ (∀ b ∈ l, SndR b.f0) ∧ (l.map (·.f1)).Nodup ∧ ∀ b ∈ l, b.f1 ∉ seen
  | [], seen => by simp [checkP]
  | x :: l, seen => by
    rw [checkP]
    by_cases h1 : SndR x.f0
    · rw [if_pos h1]
      by_cases h2 : x.f1 ∈ seen
      · rw [if_pos h2]
        refine ⟨fun h => (by cases h), fun h => absurd h2 (h.2.2 x List.mem_cons_self)⟩
      · rw [if_neg h2, checkP_ok l]
        rw [List.map_cons, List.nodup_cons]
        constructor
        · rintro ⟨a, b, c⟩
          refine ⟨fun y hy => ?_, ⟨fun hm => ?_, b⟩, fun y hy => ?_⟩
          · rcases List.mem_cons.1 hy with rfl | hy
            · exact h1
            · exact a y hy
          · obtain ⟨y, hy, e⟩ := List.mem_map.1 hm
            exact c y hy (by rw [e]; simp)
          · rcases List.mem_cons.1 hy with rfl | hy
            · exact h2
            · exact fun hs => c y hy (List.mem_append_left _ hs)
        · rintro ⟨a, ⟨b, c⟩, d⟩
          refine ⟨fun y hy => a y (List.mem_cons_of_mem _ hy), c, fun y hy hs => ?_⟩
          rcases List.mem_append.1 hs with hs | hs
          · exact d y (List.mem_cons_of_mem _ hy) hs
          · exact b (List.mem_map.2 ⟨y, hy, List.mem_singleton.1 hs⟩)
    · rw [if_neg h1]
      exact ⟨fun h => (by cases h), fun h => absurd (h.1 x List.mem_cons_self) h1⟩
theorem checkP_perm {l m : List S51} (p : l.Perm m) (h : checkP [] l = 0) : checkP [] m = 0 := by
  obtain ⟨a, b, c⟩ := (checkP_ok l []).1 h
  exact (checkP_ok m []).2 ⟨fun x hx => a x (p.mem_iff.2 hx), (p.map _).nodup_iff.1 b, fun x hx => by simp⟩
theorem errP_zero {l : List S51} {wd : Int} : errP l wd = 0 ↔ 2 ≤ wd ∧ wd ≤ 64 ∧ l.length ≤ 4096 ∧ checkP [] l = 0 := by
  unfold errP
  by_cases h1 : wd < 2 ∨ wd > 64
  · rw [if_pos h1]
    exact ⟨fun h => (by cases h), fun h => (by omega)⟩
  · rw [if_neg h1]
    by_cases h2 : l.length > 4096
    · rw [if_pos h2]
      exact ⟨fun h => (by cases h), fun h => (by omega)⟩
    · rw [if_neg h2]
      exact ⟨fun h => ⟨by omega, by omega, by omega, h⟩, fun h => h.2.2.2⟩
theorem climbP_le (w : Nat) : ∀ (n D : Nat) (l : List S74), (climbP w n l D).2 ≤ D + n
  | 0, D, l => Nat.le_refl _
  | n + 1, D, l => by
    rw [climbP]
    split
    · have := climbP_le w n (D + 1) (aboveP w l); omega
    · show D ≤ _; omega
theorem orderedP_ne {l : List S51} (h : l ≠ []) : orderedP l ≠ [] := fun e => h (by
  have := (orderedP_law l).2.length_eq
  rw [e] at this
  exact List.eq_nil_of_length_eq_zero this.symm)
theorem treeP_law {wd : Nat} (hw : 1 < wd) {l : List S51} (hne : l ≠ []) : ∃ e, Uni e (treeP wd l).1 ∧ (treeP wd l).2 = e + 1 ∧ boxesOf e (treeP wd l).1 = orderedP l ∧ e ≤ l.length := by
  have ho := orderedP_ne hne
  have hl := (orderedP_law l).2.length_eq
  obtain ⟨u1, u2⟩ := leavesP_uni (w := wd) (by omega) (orderedP l)
  have hlen : (leavesP wd (orderedP l)).length = (pieces wd (orderedP l)).length := List.length_map _
  have hp := pieces_length hw (orderedP l).length (orderedP l) (Nat.le_refl _)
  have h0 : 0 < (orderedP l).length := List.length_pos_iff.2 ho
  obtain ⟨e, e1, e2, e3⟩ := climbP_uni hw (leavesP wd (orderedP l)).length 0 1 (leavesP wd (orderedP l)) u1 (fun e => by rw [e] at hlen; simp at hlen; omega) (by omega)
  have ht : treeP wd l = climbP wd (leavesP wd (orderedP l)).length (leavesP wd (orderedP l)) 1 := by unfold treeP; rw [if_neg ho]
  have hle := climbP_le wd (leavesP wd (orderedP l)).length 1 (leavesP wd (orderedP l))
  rw [← ht] at e1 e2 e3 hle
  rw [Nat.zero_add] at e1 e3
  exact ⟨e, e1, by omega, by rw [e3, u2], by omega⟩
abbrev RT := Option (Option (Nat × S74) × Nat × Nat)
def rootOf (l : List S51) (wd : Nat) : Option (Nat × S74) := if l = [] then none else some ((treeP wd l).2 - 1, (treeP wd l).1)
def rtOf (l : List S51) (wd : Int) : RT := if errP l wd = 0 then some (rootOf l wd.toNat, l.length, (treeP wd.toNat l).2) else none
def rtLen : RT → Nat
  | none => 0
  | some (_, n, _) => n
def rtDepth : RT → Nat
  | none => 0
  | some (_, _, d) => d
def rtRoot : RT → Option (Nat × S74)
  | none => none
  | some (x, _, _) => x
def rtBounds (T : RT) : Option S41 := (rtRoot T).map fun x => x.2.f0
def rtVisits (T : RT) (r : S41) : Nat := match rtRoot T with
  | none => 0
  | some (d, x) => if SndR r then visitsOf r d x else 0
def rtHits (T : RT) (r : S41) : List S51 := match rtRoot T with
  | none => []
  | some (d, x) => if SndR r then hits r d x else []
def rtSearch (T : RT) (r : S41) : List Int := ((rtHits T r).map (·.f1)).mergeSort fun x y => decide (x ≤ y)
def rtStab (T : RT) (v s : Int) : List Int := if v < 0 ∨ v ≥ 1099511627776 ∨ s < 0 ∨ s ≥ 1099511627776 then [] else rtSearch T ⟨⟨v, v + 1⟩, ⟨s, s + 1⟩⟩
structure Fine (l : List S51) (T : RT) : Prop where
  len : rtLen T = l.length
  snd : ∀ b ∈ l, SndR b.f0
  nd : (l.map (·.f1)).Nodup
  nil : l = [] → rtRoot T = none ∧ rtDepth T = 0
  root : l ≠ [] → ∃ d x, rtRoot T = some (d, x) ∧ rtDepth T = d + 1 ∧ Uni d x ∧ boxesOf d x = orderedP l ∧ d ≤ l.length
theorem rtOf_fine {l : List S51} {wd : Int} (h : errP l wd = 0) : Fine l (rtOf l wd) := by
  obtain ⟨h1, h2, h3, h4⟩ := errP_zero.1 h
  obtain ⟨a, b, _⟩ := (checkP_ok l []).1 h4
  have e : rtOf l wd = some (rootOf l wd.toNat, l.length, (treeP wd.toNat l).2) := by unfold rtOf; rw [if_pos h]
  refine ⟨by rw [e]; rfl, a, b, fun hn => ?_, fun hn => ?_⟩
  · rw [e, hn]; exact ⟨rfl, rfl⟩
  · obtain ⟨d, d1, d2, d3, d4⟩ := treeP_law (wd := wd.toNat) (by omega) hn
    refine ⟨d, (treeP wd.toNat l).1, ?_, by rw [e]; exact d2, d1, d3, d4⟩
    rw [e]
    show rootOf l wd.toNat = _
    unfold rootOf
    rw [if_neg hn, d2, Nat.add_sub_cancel]
theorem Fine.sndB {l : List S51} {T : RT} (h : Fine l T) {d : Nat} {x : S74} (e : boxesOf d x = orderedP l) : SndB d x := fun b hb => h.snd b ((orderedP_law l).2.mem_iff.1 (e ▸ hb))
theorem Fine.mem {l : List S51} {T : RT} (h : Fine l T) (r : S41) : rtHits T r = if SndR r then (orderedP l).filter fun b => decide (Ovr b.f0 r) else [] := by
  by_cases hn : l = []
  · unfold rtHits
    rw [(h.nil hn).1, hn]
    show [] = _
    rw [show orderedP [] = [] from rfl, List.filter_nil]
    split <;> rfl
  · obtain ⟨d, x, e1, _, e2, e3, _⟩ := h.root hn
    unfold rtHits
    rw [e1]
    show (if SndR r then hits r d x else []) = _
    rw [hits_eq r e2 (h.sndB e3), e3]
theorem Ovr.snd {a r : S41} (h : Ovr a r) : SndR r := ⟨h.1.2.1, h.2.2.1⟩
theorem Fine.hits {l : List S51} {T : RT} (h : Fine l T) (r : S41) : rtHits T r = (orderedP l).filter fun b => decide (Ovr b.f0 r) := by
  rw [h.mem]
  split
  · rfl
  · rename_i hn
    refine (List.filter_eq_nil_iff.2 fun b _ => ?_).symm
    simp only [decide_eq_true_eq]
    exact fun ho => hn ho.snd
theorem mergeSort_asc (l : List Int) : (l.mergeSort fun x y => decide (x ≤ y)).Pairwise (· ≤ ·) := by
  have := List.pairwise_mergeSort (le := fun x y : Int => decide (x ≤ y)) (fun a b c h1 h2 => decide_eq_true (Int.le_trans (of_decide_eq_true h1) (of_decide_eq_true h2))) (fun a b => by simp; omega) l
  exact this.imp fun h => of_decide_eq_true h
def foundP (l : List S51) (r : S41) : List Int := putAll (((orderedP l).filter fun b => decide (Ovr b.f0 r)).map (·.f1))
theorem nodup_filter_map {l : List S51} (h : (l.map (·.f1)).Nodup) (p : S51 → Bool) : ((l.filter p).map (·.f1)).Nodup := h.sublist ((List.filter_sublist (l := l) (p := p)).map _)
theorem Fine.search {l : List S51} {T : RT} (h : Fine l T) (r : S41) : rtSearch T r = foundP l r := by
  unfold rtSearch foundP
  rw [h.hits]
  refine sorted_eq_putAll ?_ (List.mergeSort_perm _ _) (mergeSort_asc _)
  exact nodup_filter_map ((((orderedP_law l).2.map (·.f1)).nodup_iff).2 h.nd) _
theorem foundP_perm {l m : List S51} (p : l.Perm m) (r : S41) : foundP l r = foundP m r := by
  unfold foundP
  rw [BAsc.eq (orderedP_law l).1 (orderedP_law m).1 ((orderedP_law l).2.trans (p.trans (orderedP_law m).2.symm))]
theorem Fine.bounds {l : List S51} {T : RT} (h : Fine l T) : rtBounds T = if l = [] then none else some (around ((orderedP l).map (·.f0))) := by
  by_cases hn : l = []
  · unfold rtBounds
    rw [(h.nil hn).1, if_pos hn]
    rfl
  · obtain ⟨d, x, e1, _, e2, e3, _⟩ := h.root hn
    unfold rtBounds
    rw [e1, if_neg hn]
    show some x.f0 = _
    rw [e2.rect, e3]
theorem Fine.visits_le {l : List S51} {T : RT} (h : Fine l T) {d : Nat} {x : S74} (e1 : rtRoot T = some (d, x)) (r : S41) : visitsOf r d x ≤ (l.length + 1) * l.length := by
  by_cases hn : l = []
  · rw [(h.nil hn).1] at e1; cases e1
  · obtain ⟨d', x', e1', _, e2, e3, e4⟩ := h.root hn
    rw [e1] at e1'
    cases e1'
    have h1 := P.visits_le r e2
    rw [e3, (orderedP_law l).2.length_eq] at h1
    exact Nat.le_trans h1 (Nat.mul_le_mul_right _ (by omega))
end Go.Proofs.Ytdcelpppgbmlaaa.P
