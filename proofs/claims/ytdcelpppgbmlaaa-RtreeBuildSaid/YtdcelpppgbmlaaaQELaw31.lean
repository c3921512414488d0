/- The reference's tree beside the code's: what both answer is one. No condition but that a list holds at most 200 boxes. -/
import Derived.Test.YtdcelpppgbmlaaaQEWorks31
namespace Go.Proofs.Ytdcelpppgbmlaaa.P
open Go.RowKit Go.Shelf Go.Proofs.YtdcelpppgbmlaaaW.PrintWords Go.Proofs.YtdcelpppgbmlaaaW.PrintLast Go.Proofs.YtdcelpppgbmlaaaW.PrintMore
set_option linter.unusedSimpArgs false
set_option linter.unusedVariables false
structure X31 where
  wd : Int
  bx : List S51
  root : S74
  dp : Nat
def refOf (l : List S51) (wd : Int) : X31 := if errP l wd = 0 then ⟨wd, orderedP l, (treeP wd.toNat l).1, (treeP wd.toNat l).2⟩ else ⟨0, [], z74, 0⟩
def refC (W : World) (A1 A4 A5 : Option Addr) (X : X31) : Prop := Kd.C k51 W A1 X.bx.length X.bx ∧ Kd.C k51 W A4 X.root.f1.length X.root.f1 ∧ Kd.C k74 W A5 X.root.f2.length X.root.f2
theorem refC_below {W W' : World} {A1 A4 A5 : Option Addr} {X : X31} (h : refC W A1 A4 A5 X) (hb : Below W.heap.size W W') : refC W' A1 A4 A5 X := ⟨Kd.C_below h.1 hb, Kd.C_below h.2.1 hb, Kd.C_below h.2.2 hb⟩
abbrev refV (A1 : Option Addr) (c1 : Nat) (A4 : Option Addr) (c4 : Nat) (A5 : Option Addr) (c5 : Nat) (X : X31) : Value :=
  .agg #[.int .i64 X.wd, .slice A1 X.bx.length c1, .int .i64 X.root.f0.f0.f0, .int .i64 X.root.f0.f0.f1, .int .i64 X.root.f0.f1.f0, .int .i64 X.root.f0.f1.f1, .slice A4 X.root.f1.length c4, .slice A5 X.root.f2.length c5, .int .i64 (X.dp : Int)]
theorem refOf_err {l : List S51} {wd : Int} (h : errP l wd ≠ 0) : refOf l wd = ⟨0, [], z74, 0⟩ := by unfold refOf; rw [if_neg h]
theorem refOf_ok {l : List S51} {wd : Int} (h : errP l wd = 0) : refOf l wd = ⟨wd, orderedP l, (treeP wd.toNat l).1, (treeP wd.toNat l).2⟩ := by unfold refOf; rw [if_pos h]
theorem rtOf_err {l : List S51} {wd : Int} (h : errP l wd ≠ 0) : rtOf l wd = none := by unfold rtOf; rw [if_neg h]
theorem ok31 {l : List S51} (hl : l.length ≤ 200) (wd : Int) : Ok31 (rtOf l wd) := by
  by_cases h : errP l wd = 0
  · exact .inr ⟨l, hl, rtOf_fine h⟩
  · exact .inl (rtOf_err h)
theorem ref_Build (A0 : Option Addr) (c0 : Nat) (l : List S51) (wd : Int) (hl : l.length ≤ 200) (w : World) (hr0 : Kd.C k51 w A0 l.length l) (hc0 : l.length ≤ c0) :
    Calls Try.prog 86 #[.slice A0 l.length c0, .int .i64 wd] w fun e w' => (∃ A1 c1 A4 c4 A5 c5, e = .returned (.tuple #[refV A1 c1 A4 c4 A5 c5 (refOf l wd), .int .i64 (errP l wd)]) ∧ ((refOf l wd).bx.length ≤ c1 ∧ (refOf l wd).root.f1.length ≤ c4 ∧ (refOf l wd).root.f2.length ≤ c5) ∧ refC w' A1 A4 A5 (refOf l wd)) ∧ Below w.heap.size w w' := by
  obtain ⟨kc, hk⟩ := (Check_ev l wd (by omega)).rounds
  by_cases h : errP l wd = 0
  · obtain ⟨h1, h2, h3, h4⟩ := errP_zero.1 h
    obtain ⟨wn, rfl⟩ : ∃ wn : Nat, wd = (wn : Int) := ⟨wd.toNat, by omega⟩
    obtain ⟨ko, ho⟩ := (ordered_ev l (by omega)).rounds
    rw [h] at hk
    rw [refOf_ok h, h, Int.toNat_natCast]
    refine (R31_Build.calls_ok A0 c0 l wn (by omega) (by omega) (by omega) w hr0 hc0 hk ho).mono ?_
    rintro e w' ⟨⟨A1, c1, A4, c4, A5, c5, rfl, a1, a2, a3, a4, a5, a6⟩, hB⟩
    exact ⟨⟨A1, c1, A4, c4, A5, c5, rfl, ⟨a1, a3, a5⟩, a2, a4, a6⟩, hB⟩
  · rw [refOf_err h]
    refine (R31_Build.calls_err A0 c0 l wd (errP l wd) w hr0 hc0 hk h).mono ?_
    rintro e w' ⟨rfl, hB⟩
    exact ⟨⟨none, 0, none, 0, none, 0, rfl, ⟨Nat.le_refl _, Nat.le_refl _, Nat.le_refl _⟩, Kd.C_nil _ _, Kd.C_nil _ _, Kd.C_nil _ _⟩, hB⟩
theorem ref_len {l : List S51} {wd : Int} : rtLen (rtOf l wd) = (refOf l wd).bx.length := by
  by_cases h : errP l wd = 0
  · rw [refOf_ok h, (rtOf_fine h).len]
    exact (orderedP_law l).2.length_eq.symm
  · rw [refOf_err h, rtOf_err h]
    rfl
theorem ref_depth {l : List S51} {wd : Int} : rtDepth (rtOf l wd) = (refOf l wd).dp := by
  by_cases h : errP l wd = 0
  · rw [refOf_ok h]
    unfold rtOf
    rw [if_pos h]
    rfl
  · rw [refOf_err h, rtOf_err h]
    rfl
theorem ref_bounds {l : List S51} {wd : Int} : rtBounds (rtOf l wd) = if (refOf l wd).bx = [] then none else some (around ((refOf l wd).bx.map (·.f0))) := by
  by_cases h : errP l wd = 0
  · rw [refOf_ok h, (rtOf_fine h).bounds]
    by_cases hn : l = []
    · rw [if_pos hn, if_pos (by rw [hn]; rfl)]
    · rw [if_neg hn, if_neg (orderedP_ne hn)]
  · rw [refOf_err h, rtOf_err h]
    rfl
theorem ref_search {l : List S51} {wd : Int} (r : S41) : rtSearch (rtOf l wd) r = (((refOf l wd).bx.filter fun b => decide (Ovr b.f0 r)).map (·.f1)).foldl putP [] := by
  by_cases h : errP l wd = 0
  · rw [refOf_ok h, (rtOf_fine h).search]
    rfl
  · rw [refOf_err h, rtOf_err h]
    unfold rtSearch
    simp [rtHits, rtRoot]
theorem ptIn_iff {v s : Int} (hv : ¬ (v < 0 ∨ v ≥ 1099511627776 ∨ s < 0 ∨ s ≥ 1099511627776)) {b : S41} (hb : SndR b) : Ovr b ⟨⟨v, v + 1⟩, ⟨s, s + 1⟩⟩ ↔ PtIn v s b := by
  unfold Ovr Ovp PtIn
  unfold SndR Vld FV at hb
  unfold Vld FV
  simp only
  obtain ⟨⟨b1, b2, b3⟩, b4, b5, b6⟩ := hb
  constructor
  · rintro ⟨⟨_, _, h1, h2⟩, _, _, h3, h4⟩
    omega
  · rintro ⟨h1, h2, h3, h4⟩
    refine ⟨⟨⟨b1, b2, b3⟩, ⟨?_, ?_, ?_⟩, ?_, ?_⟩, ⟨b4, b5, b6⟩, ⟨?_, ?_, ?_⟩, ?_, ?_⟩ <;> omega
theorem ptIn_out {v s : Int} (hv : v < 0 ∨ v ≥ 1099511627776 ∨ s < 0 ∨ s ≥ 1099511627776) {b : S41} (hb : SndR b) : ¬ PtIn v s b := by
  unfold PtIn
  unfold SndR Vld FV at hb
  omega
theorem ref_stab {l : List S51} {wd : Int} (v s : Int) : rtStab (rtOf l wd) v s = (((refOf l wd).bx.filter fun b => decide (PtIn v s b.f0)).map (·.f1)).foldl putP [] := by
  by_cases h : errP l wd = 0
  · have hf := rtOf_fine h
    have hsnd : ∀ b ∈ orderedP l, SndR b.f0 := fun b hb => hf.snd b ((orderedP_law l).2.mem_iff.1 hb)
    rw [refOf_ok h]
    unfold rtStab
    split
    · rename_i hv
      have : ((orderedP l).filter fun b => decide (PtIn v s b.f0)) = [] := List.filter_eq_nil_iff.2 fun b hb => by
        simp only [decide_eq_true_eq]
        exact ptIn_out hv (hsnd b hb)
      rw [this]
      rfl
    · rename_i hv
      rw [hf.search]
      unfold foundP putAll
      rw [List.filter_congr (q := fun b => decide (PtIn v s b.f0)) (fun b hb => decide_eq_decide.2 (ptIn_iff hv (hsnd b hb)))]
  · rw [refOf_err h, rtOf_err h]
    unfold rtStab rtSearch
    split <;> simp [rtHits, rtRoot]
theorem refOf_bxlen {l : List S51} (hl : l.length ≤ 200) (wd : Int) : (refOf l wd).bx.length ≤ 200 := by
  by_cases h : errP l wd = 0
  · rw [refOf_ok h]
    show (orderedP l).length ≤ 200
    rw [(orderedP_law l).2.length_eq]
    exact hl
  · rw [refOf_err h]
    exact Nat.zero_le _
theorem ref88 {l : List S51} (hl : l.length ≤ 200) (wd : Int) (A1 : Option Addr) (c1 : Nat) (A4 : Option Addr) (c4 : Nat) (A5 : Option Addr) (c5 : Nat) (w : World) (hc : (refOf l wd).bx.length ≤ c1 ∧ (refOf l wd).root.f1.length ≤ c4 ∧ (refOf l wd).root.f2.length ≤ c5) (hX : refC w A1 A4 A5 (refOf l wd)) :
    Calls Try.prog 88 #[refV A1 c1 A4 c4 A5 c5 (refOf l wd)] w fun e w' => e = .returned (.tuple #[.agg #[.int .i64 (orZ (rtBounds (rtOf l wd))).f0.f0, .int .i64 (orZ (rtBounds (rtOf l wd))).f0.f1, .int .i64 (orZ (rtBounds (rtOf l wd))).f1.f0, .int .i64 (orZ (rtBounds (rtOf l wd))).f1.f1], .bool (rtBounds (rtOf l wd)).isSome]) ∧ Below w.heap.size w w' := by
  obtain ⟨k, hk⟩ := (Bounds_ev (refOf l wd).wd (refOf l wd).bx (refOf l wd).root.f0.f0.f0 (refOf l wd).root.f0.f0.f1 (refOf l wd).root.f0.f1.f0 (refOf l wd).root.f0.f1.f1 (refOf l wd).root.f1 (refOf l wd).root.f2 ((refOf l wd).dp : Int) (by have := refOf_bxlen hl wd; omega) (rtBounds (rtOf l wd)) ref_bounds).rounds
  exact R31_Bounds.calls k _ A1 c1 _ _ _ _ _ A4 c4 _ A5 c5 _ _ _ _ _ _ _ w hX.1 hc.1 hX.2.1 hc.2.1 hX.2.2 hc.2.2 hk
theorem ref92 {l : List S51} (hl : l.length ≤ 200) (wd : Int) (r : S41) (A1 : Option Addr) (c1 : Nat) (A4 : Option Addr) (c4 : Nat) (A5 : Option Addr) (c5 : Nat) (w : World) (hc : (refOf l wd).bx.length ≤ c1 ∧ (refOf l wd).root.f1.length ≤ c4 ∧ (refOf l wd).root.f2.length ≤ c5) (hX : refC w A1 A4 A5 (refOf l wd)) :
    Calls Try.prog 92 #[refV A1 c1 A4 c4 A5 c5 (refOf l wd), .agg #[.int .i64 r.f0.f0, .int .i64 r.f0.f1, .int .i64 r.f1.f0, .int .i64 r.f1.f1]] w fun e w' => (∃ A c, e = .returned (.slice A (rtSearch (rtOf l wd) r).length c) ∧ (rtSearch (rtOf l wd) r).length ≤ c ∧ Kd.C (Kd.int .i64) w' A (rtSearch (rtOf l wd) r).length (rtSearch (rtOf l wd) r)) ∧ Below w.heap.size w w' := by
  obtain ⟨k, hk⟩ := (Search0_ev r (refOf l wd).bx (by have := refOf_bxlen hl wd; omega) _ 0 [] rfl (Nat.zero_le _) (Nat.le_refl _)).rounds
  rw [List.drop_zero, ← ref_search r] at hk
  refine (R31_Search.calls k (refOf l wd).wd A1 c1 (refOf l wd).bx (refOf l wd).root.f0.f0.f0 (refOf l wd).root.f0.f0.f1 (refOf l wd).root.f0.f1.f0 (refOf l wd).root.f0.f1.f1 A4 c4 _ A5 c5 _ ((refOf l wd).dp : Int) r.f0.f0 r.f0.f1 r.f1.f0 r.f1.f1 (rtSearch (rtOf l wd) r) w hX.1 hc.1 hX.2.1 hc.2.1 hX.2.2 hc.2.2 hk).mono ?_
  rintro e w' ⟨v0, e0, hR, hB⟩
  obtain ⟨A, c, rfl, hc, hC⟩ := Kd.R_reads hR
  exact ⟨⟨A, c, e0, hc, hC⟩, hB⟩
theorem ref96 {l : List S51} (hl : l.length ≤ 200) (wd : Int) (a b : Int) (A1 : Option Addr) (c1 : Nat) (A4 : Option Addr) (c4 : Nat) (A5 : Option Addr) (c5 : Nat) (w : World) (hc : (refOf l wd).bx.length ≤ c1 ∧ (refOf l wd).root.f1.length ≤ c4 ∧ (refOf l wd).root.f2.length ≤ c5) (hX : refC w A1 A4 A5 (refOf l wd)) :
    Calls Try.prog 96 #[refV A1 c1 A4 c4 A5 c5 (refOf l wd), .int .i64 a, .int .i64 b] w fun e w' => (∃ A c, e = .returned (.slice A (rtStab (rtOf l wd) a b).length c) ∧ (rtStab (rtOf l wd) a b).length ≤ c ∧ Kd.C (Kd.int .i64) w' A (rtStab (rtOf l wd) a b).length (rtStab (rtOf l wd) a b)) ∧ Below w.heap.size w w' := by
  obtain ⟨k, hk⟩ := (Stab0_ev a b (refOf l wd).bx (by have := refOf_bxlen hl wd; omega) _ 0 [] rfl (Nat.zero_le _) (Nat.le_refl _)).rounds
  rw [List.drop_zero, ← ref_stab a b] at hk
  refine (R31_Stab.calls k (refOf l wd).wd A1 c1 (refOf l wd).bx (refOf l wd).root.f0.f0.f0 (refOf l wd).root.f0.f0.f1 (refOf l wd).root.f0.f1.f0 (refOf l wd).root.f0.f1.f1 A4 c4 _ A5 c5 _ ((refOf l wd).dp : Int) a b (rtStab (rtOf l wd) a b) w hX.1 hc.1 hX.2.1 hc.2.1 hX.2.2 hc.2.2 hk).mono ?_
  rintro e w' ⟨v0, e0, hR, hB⟩
  obtain ⟨A, c, rfl, hc, hC⟩ := Kd.R_reads hR
  exact ⟨⟨A, c, e0, hc, hC⟩, hB⟩
theorem ref_visits {l : List S51} (hl : l.length ≤ 200) (wd : Int) (r : S41) : Ev (fun k => R31_Visits.f k (refOf l wd).wd (refOf l wd).bx (refOf l wd).root.f0.f0.f0 (refOf l wd).root.f0.f0.f1 (refOf l wd).root.f0.f1.f0 (refOf l wd).root.f0.f1.f1 (refOf l wd).root.f1 (refOf l wd).root.f2 ((refOf l wd).dp : Int) r.f0.f0 r.f0.f1 r.f1.f0 r.f1.f1) ((rtVisits (rtOf l wd) r : Nat) : Int) := by
  by_cases h : errP l wd = 0
  · have hf := rtOf_fine h
    by_cases hn : l = []
    · have h0 : (((refOf l wd).bx.length : Nat) : Int) = 0 := by rw [refOf_ok h, hn]; rfl
      simp only [R31_Visits.f, h0, if_true]
      rw [show rtVisits (rtOf l wd) r = 0 by unfold rtVisits; rw [(hf.nil hn).1]]
      exact Ev.now _
    · have h0 : ¬ (((refOf l wd).bx.length : Nat) : Int) = 0 := by
        rw [refOf_ok h]
        have := List.length_pos_iff.2 (orderedP_ne hn)
        show ¬ (((orderedP l).length : Nat) : Int) = 0
        omega
      obtain ⟨d, x, e1, _, e2, e3, _⟩ := hf.root hn
      have hx : x = (treeP wd.toNat l).1 := by
        have h_ : rtRoot (rtOf l wd) = some ((treeP wd.toNat l).2 - 1, (treeP wd.toNat l).1) := by
          unfold rtOf
          rw [if_pos h]
          show rootOf l wd.toNat = _
          unfold rootOf
          rw [if_neg hn]
        rw [h_] at e1
        cases e1
        rfl
      have hg := hf.good d x e1
      simp only [R31_Visits.f, h0, if_false, Valid31_eq, Option.bind_some]
      have hv : rtVisits (rtOf l wd) r = if SndR r then visitsOf r d x else 0 := by unfold rtVisits; rw [e1]
      rw [hv, refOf_ok h, ← hx]
      by_cases hs : SndR r
      · simp only [hs, decide_true, if_true]
        have hle := hf.visits_le e1 r
        have hm := Nat.mul_le_mul (Nat.succ_le_succ hl) hl
        have := visits_ev r l.length (by omega) d x hg.1 hg.2 (Nat.lt_of_le_of_lt (Nat.le_trans hle hm) (by decide))
        refine Ev.bind this ?_
        exact Ev.now _
      · simp only [hs, decide_false, Bool.false_eq_true, if_false]
        exact Ev.now _
  · rw [refOf_err h, rtOf_err h]
    have h0 : ((([] : List S51).length : Nat) : Int) = 0 := rfl
    simp only [R31_Visits.f, h0, if_true]
    exact Ev.now _
theorem ref94 {l : List S51} (hl : l.length ≤ 200) (wd : Int) (r : S41) (A1 : Option Addr) (c1 : Nat) (A4 : Option Addr) (c4 : Nat) (A5 : Option Addr) (c5 : Nat) (w : World) (hc : (refOf l wd).bx.length ≤ c1 ∧ (refOf l wd).root.f1.length ≤ c4 ∧ (refOf l wd).root.f2.length ≤ c5) (hX : refC w A1 A4 A5 (refOf l wd)) :
    Calls Try.prog 94 #[refV A1 c1 A4 c4 A5 c5 (refOf l wd), .agg #[.int .i64 r.f0.f0, .int .i64 r.f0.f1, .int .i64 r.f1.f0, .int .i64 r.f1.f1]] w fun e w' => e = .returned (.int .i64 (rtVisits (rtOf l wd) r : Nat)) ∧ Below w.heap.size w w' := by
  obtain ⟨k, hk⟩ := (ref_visits hl wd r).rounds
  exact R31_Visits.calls k (refOf l wd).wd A1 c1 (refOf l wd).bx (refOf l wd).root.f0.f0.f0 (refOf l wd).root.f0.f0.f1 (refOf l wd).root.f0.f1.f0 (refOf l wd).root.f0.f1.f1 A4 c4 _ A5 c5 _ ((refOf l wd).dp : Int) r.f0.f0 r.f0.f1 r.f1.f0 r.f1.f1 _ w hX.1 hc.1 hX.2.1 hc.2.1 hX.2.2 hc.2.2 hk
theorem Ok31.search_len {T : RT} (h : Ok31 T) (r : S41) : (rtSearch T r).length ≤ 200 := by
  unfold rtSearch
  rw [List.length_mergeSort, List.length_map]
  rcases h with rfl | ⟨l, hl, hf⟩
  · exact Nat.zero_le _
  · rw [hf.hits]
    exact Nat.le_trans (List.length_filter_le _ _) (by rw [(orderedP_law l).2.length_eq]; exact hl)
theorem Ok31.stab_len {T : RT} (h : Ok31 T) (a b : Int) : (rtStab T a b).length ≤ 200 := by
  unfold rtStab
  split
  · exact Nat.zero_le _
  · exact h.search_len _
theorem ints_same (L : List Int) (hL : L.length ≤ 200) (A : Option Addr) (c : Nat) (A2 : Option Addr) (c2 : Nat) (w : World) (h1 : L.length ≤ c ∧ Kd.C (Kd.int .i64) w A L.length L) (h2 : L.length ≤ c2 ∧ Kd.C (Kd.int .i64) w A2 L.length L) : Calls Try.prog 91 #[.slice A L.length c, .slice A2 L.length c2] w fun e w' => e = .returned (.bool true) ∧ Below w.heap.size w w' :=
  (ints_calls A c L A2 c2 L w (by omega) h1.2 h1.1 h2.2 h2.1).mono fun e w' h => ⟨by rw [h.1]; simp, h.2⟩
theorem row_below {L : List Int} {A : Option Addr} {c : Nat} {w w' : World} (h : L.length ≤ c ∧ Kd.C (Kd.int .i64) w A L.length L) (hb : Below w.heap.size w w') : L.length ≤ c ∧ Kd.C (Kd.int .i64) w' A L.length L := ⟨h.1, Kd.C_below h.2 hb⟩
theorem rtK_isSome {l : List S51} {wd : Int} {w : World} {p : Option Addr} (h : rtK w (.pointer p) (rtOf l wd)) : p.isSome = (errP l wd == 0) := by
  by_cases he : errP l wd = 0
  · have e : rtOf l wd = some (rootOf l wd.toNat, l.length, (treeP wd.toNat l).2) := by unfold rtOf; rw [if_pos he]
    rw [e] at h
    obtain ⟨tb, rv, e2, _⟩ := h
    cases e2
    rw [he]
    rfl
  · rw [rtOf_err he] at h
    have h' : Value.pointer p = .pointer none := h
    cases h'
    simpa using he
end Go.Proofs.Ytdcelpppgbmlaaa.P
