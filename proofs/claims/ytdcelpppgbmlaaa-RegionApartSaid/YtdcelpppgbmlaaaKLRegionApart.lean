/- Plain law: the law RegionApart answers true, whatever it is given. No condition. -/
import Derived.Test.YtdcelpppgbmlaaaKMAll
import Derived.Test.YtdcelpppgbmlaaaKPLaw05f
namespace Go.Proofs.Ytdcelpppgbmlaaa.P
open Go.RowKit Go.Proofs.YtdcelpppgbmlaaaW.PrintWords Go.Proofs.YtdcelpppgbmlaaaW.PrintMore
set_option linter.unusedSimpArgs false
set_option linter.unusedVariables false
theorem RegionApart_inner (R : List S41) (hR : R.length < 100000) (hp : R.Pairwise fun r q => ¬ Ovr r q) (a b : S41) (i : Nat) (hi : i < R.length)
    (hnext : Ev (fun k => bitemporallaw05_RegionApart.l0 k R ((i + 1 : Nat) : Int) a.f0.f0 a.f0.f1 a.f1.f0 a.f1.f1 b.f0.f0 b.f0.f1 b.f1.f0 b.f1.f1) true) :
    ∀ (n j : Nat), i - j = n → j ≤ i → Ev (fun k => bitemporallaw05_RegionApart.l1 k R (i : Int) (j : Int) a.f0.f0 a.f0.f1 a.f1.f0 a.f1.f1 b.f0.f0 b.f0.f1 b.f1.f0 b.f1.f1) true := by
  intro n
  induction n with
  | zero =>
    intro j hn hj
    refine Ev.step' ?_
    have hge : ¬ ((j : Int) < (i : Int)) := by omega
    simp only [bitemporallaw05_RegionApart.l1, hge, if_false, w64n i (by omega)]
    exact hnext
  | succ n ih =>
    intro j hn hj
    refine Ev.step' ?_
    have hlt : (j : Int) < (i : Int) := by omega
    have h0 : (0 : Int) ≤ (j : Int) := by omega
    have h1 : (j : Int) < (R.length : Int) := by omega
    have h2 : (0 : Int) ≤ (i : Int) := by omega
    have h3 : (i : Int) < (R.length : Int) := by omega
    have hno : ¬ Ovr (R[j]'(by omega)) R[i] := List.pairwise_iff_getElem.1 hp j i (by omega) hi (by omega)
    simp only [bitemporallaw05_RegionApart.l1, hlt, h0, h1, h2, h3, if_true, rd41 R j (by omega), rd41 R i hi, ref05_Overlaps_eq, Option.bind_some, hno, decide_false, Bool.false_eq_true, if_false, w64n j (by omega)]
    exact ih (j + 1) (by omega) (by omega)
theorem RegionApart_outer (R : List S41) (hR : R.length < 100000) (hp : R.Pairwise fun r q => ¬ Ovr r q) (hs : ∀ r ∈ R, Vld r.f0 ∧ Vld r.f1) (a b : S41) :
    ∀ (n i : Nat), R.length - i = n → i ≤ R.length → Ev (fun k => bitemporallaw05_RegionApart.l0 k R (i : Int) a.f0.f0 a.f0.f1 a.f1.f0 a.f1.f1 b.f0.f0 b.f0.f1 b.f1.f0 b.f1.f1) true := by
  intro n
  induction n with
  | zero =>
    intro i hn hi
    refine Ev.step' ?_
    have hge : ¬ ((i : Int) < (R.length : Int)) := by omega
    simp only [bitemporallaw05_RegionApart.l0, hge, if_false, region_Overlaps_eq, ref05_Overlaps_eq, Option.bind_some, beq_self_eq_true, if_true]
    obtain ⟨x, x1, x2, x3⟩ := region_Intersect_ev [a] [b] (by simp)
    refine Ev.bind (show Ev (fun k => region_Intersect.f k [⟨⟨a.f0.f0, a.f0.f1⟩, ⟨a.f1.f0, a.f1.f1⟩⟩] [⟨⟨b.f0.f0, b.f0.f1⟩, ⟨b.f1.f0, b.f1.f1⟩⟩]) x from x1) ?_
    have hd : decide (Ovr a b) = decide ((x.length : Int) > 0) := dec_eq (by
      rw [← x2.meets]
      constructor
      · intro h; have := List.length_pos_iff.2 h; omega
      · intro h e; rw [e] at h; simp at h)
    simp only [hd, beq_self_eq_true, if_true]
    exact awakes5
  | succ n ih =>
    intro i hn hi
    refine Ev.step' ?_
    have hlt : (i : Int) < (R.length : Int) := by omega
    have hi' : i < R.length := by omega
    have h0 : (0 : Int) ≤ (i : Int) := by omega
    have hv := hs R[i] (List.getElem_mem hi')
    simp only [bitemporallaw05_RegionApart.l0, hlt, h0, if_true, rd41 R i hi', sound_of, Option.bind_some, hv, and_self, decide_true]
    exact RegionApart_inner R hR hp a b i hi' (ih (i + 1) (by omega) (by omega)) i 0 (by omega) (by omega)
theorem RegionApart_ev (l : List S41) (a b : S41) : Ev (fun k => bitemporallaw05_RegionApart.f k l a.f0.f0 a.f0.f1 a.f1.f0 a.f1.f1 b.f0.f0 b.f0.f1 b.f1.f0 b.f1.f1) true := by
  simp only [bitemporallaw05_RegionApart.f]
  by_cases hl : (l.length : Int) > 12
  · simp only [hl, if_true]
    exact awakes5
  · have hl' := long_of12 hl
    simp only [hl, if_false]
    obtain ⟨R, r1, r2, r3⟩ := region_Of_ev l (by omega)
    have hR : R.length ≤ 575 := Nat.le_trans r3 (Nat.le_trans (regMax_mono (show l.length ≤ 12 by omega)) (by decide))
    refine Ev.bind r1 ?_
    have hno : ¬ ((R.length : Int) > 576) := by omega
    simp only [hno, if_false]
    exact RegionApart_outer R (by omega) r2.sound.2 r2.sound.1 a b R.length 0 (by omega) (by omega)
theorem RegionApart_pure (l : List S41) (a0 a1 a2 a3 b0 b1 b2 b3 : Int) : ∃ k, bitemporallaw05_RegionApart.f k l a0 a1 a2 a3 b0 b1 b2 b3 = some true := (RegionApart_ev l ⟨⟨a0, a1⟩, ⟨a2, a3⟩⟩ ⟨⟨b0, b1⟩, ⟨b2, b3⟩⟩).rounds
end Go.Proofs.Ytdcelpppgbmlaaa.P
