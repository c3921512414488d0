/- rtree.Build: the error, or the tree. No condition but that numbers are ints and lists are not too long. -/
import Derived.Test.YtdcelpppgbmlaaaSEExam
import Derived.Test.YtdcelpppgbmlaaaSEClone
import Derived.Test.YtdcelpppgbmlaaaSECmpBox
namespace Go.Proofs.Ytdcelpppgbmlaaa.P
open Go.RowKit Go.Shelf Go.Proofs.YtdcelpppgbmlaaaW.PrintWords Go.Proofs.YtdcelpppgbmlaaaW.PrintLast Go.Proofs.YtdcelpppgbmlaaaW.PrintMore
set_option linter.unusedSimpArgs false
set_option linter.unusedVariables false
theorem heap51 : Kd.Heap k51 := ⟨fun _ h => h⟩
theorem C51_F {w : World} {A : Option Addr} {n : Nat} {l : List S51} (h : Kd.C k51 w A n l) : Kd.F k51 w (fun k => k < w.heap.size) A n l := Kd.C_F heap51 h
theorem leaves_ord (P0 : Nat → Prop) (A : Option Addr) (c : Nat) (l : List S51) (wd : Nat) (hw1 : 2 ≤ wd) (hw2 : wd ≤ 64) (hl : l.length < 100000) (hne : l ≠ []) (w : World) (hr0 : Kd.F k51 w P0 A l.length (orderedP l)) (hc0 : l.length ≤ c) :
    Calls Try.prog 126 #[.slice A l.length c, .int .i64 (wd : Int)] w fun e w' => ∃ v0_ : Value, e = .returned v0_ ∧ Kd.N (kN 0) 125 w' w.heap.size (fun k => P0 k ∨ w.heap.size ≤ k) v0_ (leavesP wd (orderedP l)) ∧ Below w.heap.size w w' := by
  have hol := (orderedP_law l).2.length_eq
  have hlen : 0 < l.length := List.length_pos_iff.2 hne
  obtain ⟨ad, cs, rfl, _⟩ := Kd.C_get (Kd.F_now hr0) z51 0 (by omega) (by omega)
  rw [← hol] at hr0 hc0 ⊢
  exact rtree_leaves.calls P0 ad c (orderedP l) wd hw1 hw2 (by omega) (orderedP_ne hne) w hr0 hc0
theorem above_any (d : Nat) (P0 : Nat → Prop) (A : Option Addr) (c : Nat) (l : List S74) (wd : Nat) (hw1 : 2 ≤ wd) (hw2 : wd ≤ 64) (hl : l.length < 100000) (hne : l ≠ []) (w : World) (hr0 : Kd.F (kN d) w P0 A l.length l) (hc0 : l.length ≤ c) :
    Calls Try.prog 127 #[.slice A l.length c, .int .i64 (wd : Int)] w fun e w' => ∃ v0_ : Value, e = .returned v0_ ∧ Kd.N (kN (d + 1)) 125 w' w.heap.size (fun k => P0 k ∨ w.heap.size ≤ k) v0_ (aboveP wd l) ∧ Below w.heap.size w w' := by
  have hlen : 0 < l.length := List.length_pos_iff.2 hne
  obtain ⟨ad, cs, rfl, _⟩ := Kd.C_get (Kd.F_now hr0) z74 0 (by omega) (by omega)
  exact rtree_above.calls d P0 ad c l wd hw1 hw2 hl hne w hr0 hc0
set_option maxHeartbeats 4000000 in
set_option maxRecDepth 100000 in
theorem rtree_Build.calls (A0 : Option Addr) (c0 : Nat) (l : List S51) (wd : Int) (hl : l.length < 1000000000) (hwf : ∀ b ∈ l, (Lit.int .i64 b.f1).wf = true) (w : World) (hr0 : Kd.C k51 w A0 l.length l) (hc0 : l.length ≤ c0) :
    Calls Try.prog 56 #[.slice A0 l.length c0, .int .i64 wd] w fun e w' => ∃ v, e = .returned (.tuple #[v, .int .i64 (errP l wd)]) ∧ rtK w' v (rtOf l wd) ∧ Below w.heap.size w w' := by
  by_cases h1 : wd < 2
  · have he : errP l wd = 6 := by unfold errP; rw [if_pos (.inl h1)]
    have ht : rtOf l wd = none := by unfold rtOf; rw [he]; rfl
    rw [he, ht]
    go_enter Try.func56, Try.ntmps56
    go_wp2_with (fail)
    go_ret2
    exact ⟨_, rfl, rfl, Below.refl _ _⟩
  by_cases h2 : wd > 64
  · have he : errP l wd = 6 := by unfold errP; rw [if_pos (.inr h2)]
    have ht : rtOf l wd = none := by unfold rtOf; rw [he]; rfl
    rw [he, ht]
    go_enter Try.func56, Try.ntmps56
    go_wp2_with (fail)
    go_ret2
    exact ⟨_, rfl, rfl, Below.refl _ _⟩
  by_cases h3 : l.length > 4096
  · have he : errP l wd = 5 := by unfold errP; rw [if_neg (by omega), if_pos h3]
    have ht : rtOf l wd = none := by unfold rtOf; rw [he]; rfl
    have h3' : (l.length : Int) > 4096 := by omega
    rw [he, ht]
    go_enter Try.func56, Try.ntmps56
    go_wp2_with (fail)
    go_ret2
    exact ⟨_, rfl, rfl, Below.refl _ _⟩
  have h3' : ¬ (l.length : Int) > 4096 := by omega
  have he : errP l wd = checkP [] l := by unfold errP; rw [if_neg (by omega), if_neg h3]
  have HCK := Aside0.mk (rtree_check.calls _ A0 c0 l (by omega) hwf w (C51_F hr0) hc0)
  by_cases h4 : checkP [] l = 0
  · have ht : rtOf l wd = some (rootOf l wd.toNat, l.length, (treeP wd.toNat l).2) := by unfold rtOf; rw [he, if_pos h4]
    rw [he, ht, h4]
    obtain ⟨wn, rfl⟩ : ∃ wn : Nat, wd = (wn : Int) := ⟨wd.toNat, by omega⟩
    rw [Int.toNat_natCast]
    rw [h4] at HCK
    clear he ht h4
    have hw1 : 2 ≤ wn := by omega
    have hw2 : wn ≤ 64 := by omega
    by_cases hn : l = []
    · subst hn
      have hn0 : (([] : List S51).length : Int) = 0 := rfl
      go_enter Try.func56, Try.ntmps56
      go_wp2_with (go_at_call 122; refine HCK.out.mono ?_; rintro e w3 ⟨rfl, hB⟩; have HB := Aside0.mk hB; clear hB)
      go_ret2
      exact ⟨_, rfl, ⟨w3.heap.size, .pointer none, rfl, blk_new w3 _, rfl⟩, HB.out.trans (below_alloc (Below.refl _ _) _ |>.mono HB.out.size)⟩
    · have hlen : 0 < l.length := List.length_pos_iff.2 hn
      have hn0 : ¬ (l.length : Int) = 0 := by omega
      have hn1 : ((l.length : Int) == 0) = false := by simp; omega
      obtain ⟨ad, rfl⟩ : ∃ ad, A0 = some ad := by
        obtain ⟨ad, cs, e, _⟩ := Kd.C_get hr0 z51 0 (by omega) (by omega)
        exact ⟨ad, e⟩
      have HR := Aside0.mk hr0
      have HN := Aside0.mk (And.intro hn hlen)
      clear hr0 hn hlen
      go_enter Try.func56, Try.ntmps56
      go_wp2_with (first
        | (go_at_call 122; refine HCK.out.mono ?_; rintro e w1 ⟨rfl, hB1⟩; have HB1 := Aside0.mk hB1; clear hB1)
        | (go_at_call 123; refine (cloneBox (fun _ => True) ad c0 l (by omega) HN.out.1 _ (Kd.C_alloc (Kd.C_below HR.out HB1.out) _)).mono ?_; rintro e w2 ⟨v, rfl, hR2, hB2⟩; obtain ⟨A2, c2, rfl⟩ := Kd.R_slice hR2; have HR2 := Aside0.mk hR2; have HB2 := Aside0.mk hB2; clear hR2 hB2)
        | (go_at_call 124; refine (sortBox_calls (fun _ => True) _ l (by omega) _ w2 HB2.out HR2.out).mono ?_
           rintro e w3 ⟨rfl, hR3, hB3, _⟩
           have hg3 := blk_below (blk_new w1 (.cells #[.pointer none, .int .i64 (l.length : Int), .int .i64 0] 127)) hB3
           have HF3 : Aside0 (Kd.F k51 w3 (fun k => k ≠ w1.heap.size) A2 l.length (orderedP l)) := ⟨Kd.F_mono (Kd.N_F (Kd.R_N (Kd.R_types hR3 hg3 (by decide)))) (fun k hk => hk.2)⟩
           have HG3 := Aside0.mk (And.intro hg3 (And.intro hB3 (Kd.R_reads' hR3).2.1))
           clear hR3 hB3 hg3)
        | (go_at_call 126; refine (leaves_ord (fun k => k ≠ w1.heap.size) A2 c2 l wn hw1 hw2 (by omega) HN.out.1 w3 HF3.out HG3.out.2.2).mono ?_
           rintro e w4 ⟨v4, rfl, hN4, hB4⟩
           obtain ⟨A4, c4, rfl⟩ := Kd.N_slice hN4
           have hg4 := blk_below HG3.out.1 hB4
           have s2 : w4.cell? ⟨w1.heap.size, 2, none⟩ = some (.int .i64 0) := (blk_cell hg4 2).trans rfl
           have f2 : w4.frozen? ⟨w1.heap.size, 2, none⟩ = false := blk_frozen hg4 2
           have HN4 := Aside0.mk hN4
           have HG4 := Aside0.mk (And.intro hg4 (And.intro hB4 (Kd.N_reads' hN4).2.1))
           clear hN4 hB4 hg4)
        | fail)
      have hne := orderedP_ne HN.out.1
      have hlv : (leavesP wn (orderedP l)).length ≤ l.length ∧ leavesP wn (orderedP l) ≠ [] := by
        have h_ := pieces_length (w := wn) (by omega) (orderedP l).length (orderedP l) (Nat.le_refl _)
        have h2_ := (orderedP_law l).2.length_eq
        have h3_ : 0 < (orderedP l).length := List.length_pos_iff.2 hne
        refine ⟨?_, fun e => ?_⟩
        · unfold leavesP; rw [List.length_map]; omega
        · have := congrArg List.length e
          unfold leavesP at this
          rw [List.length_map, List.length_nil] at this
          omega
      have htr : climbP wn (leavesP wn (orderedP l)).length (leavesP wn (orderedP l)) 1 = treeP wn l := by unfold treeP; rw [if_neg hne]
      obtain ⟨g, hg⟩ : ∃ g, g = w1.heap.size := ⟨_, rfl⟩
      have hgw : w.heap.size ≤ g := by rw [hg]; exact HB1.out.size
      have hg3 : g < w3.heap.size := by rw [hg]; exact blk_lt HG3.out.1
      obtain ⟨W5, hW5⟩ : ∃ W5, W5 = w4.setCell ⟨w1.heap.size, 2, none⟩ (.int .i64 1) := ⟨_, rfl⟩
      have HP5 : Aside0 (W5.heap[g]? = some (.cells #[.pointer none, .int .i64 (l.length : Int), .int .i64 (1 : Int)] 127 (0, 0))) := ⟨by rw [hW5, hg]; exact blk_set HG4.out.1 2 _⟩
      have HF5 : Aside0 (Kd.F (kN 0) W5 (fun k => k ≠ g) A4 (leavesP wn (orderedP l)).length (leavesP wn (orderedP l))) := ⟨by
        rw [hW5, ← hg]
        refine Kd.F_far (Kd.F_mono (Kd.N_F HN4.out) (fun k hk => hk.elim (fun h => by rw [hg]; exact h) (fun h => by show k ≠ g; omega))) (fun k hk => hk) _⟩
      have HB5 : Aside0 (Below w.heap.size w W5) := ⟨by
        rw [hW5, ← hg]
        have b1 := HB1.out.trans ((below_alloc (Below.refl w1.heap.size w1) (.cells #[.pointer none, .int .i64 (l.length : Int), .int .i64 0] 127)).mono HB1.out.size)
        have b2 := (b1.trans (HG3.out.2.1.mono b1.size)).trans (HG4.out.2.1.mono (by have := HG3.out.2.1.size; have := b1.size; omega))
        exact b2.setCell (p := ⟨g, 2, none⟩) hgw _⟩
      have hc4 := HG4.out.2.2
      rw [← hW5, ← hg]
      have HX := Aside0.mk (And.intro hlv htr)
      have hlv1 := hlv.1
      have hl6 : l.length ≤ 4096 := by omega
      clear hW5 hlv htr hne HG4 HN4 HG3 HF3 HR2 HB2 HB1 HCK s2 f2 hg3
      generalize leavesP wn (orderedP l) = lv0 at HX HF5 hc4 hlv1 ⊢
      clear hg
      go_loopw [9] (fun v wr => ∃ (A : Option Addr) (c : Nat) (lv : List S74) (d fuel : Nat), v = .slice A lv.length c ∧ lv.length ≤ c ∧ lv.length ≤ 5000 ∧ d + lv.length ≤ 10000 ∧ Aside0 (lv ≠ [] ∧ climbP wn fuel lv (d + 1) = treeP wn l ∧ lv.length ≤ fuel) ∧ Aside0 (Kd.F (kN d) wr (fun k => k ≠ g) A lv.length lv) ∧ Aside0 (wr.heap[g]? = some (.cells #[.pointer none, .int .i64 (l.length : Int), .int .i64 ((d + 1 : Nat) : Int)] 127 (0, 0))) ∧ Aside0 (Below w.heap.size w wr)) (fun v _ => match v with | .slice _ n _ => n | _ => 0)
      case atStart => exact ⟨A4, c4, lv0, 0, lv0.length, rfl, hc4, by omega, by omega, ⟨HX.out.1.2, HX.out.2, Nat.le_refl _⟩, HF5, HP5, HB5⟩
      case round =>
        clear HX HF5 HP5 HB5
        obtain ⟨A, c, lv, d, fuel, rfl, hcl, hl1, hl2, hLV, hF, hP, hB⟩ := hrel
        by_cases h1x : 1 < lv.length
        · have h1' : (1 : Int) < (lv.length : Int) := by omega
          obtain ⟨fu, rfl⟩ : ∃ fu, fuel = fu + 1 := ⟨fuel - 1, by have := hLV.out.2.2; omega⟩
          have hpl := pieces_length (w := wn) (by omega) lv.length lv (Nat.le_refl _)
          have hal : (aboveP wn lv).length = (pieces wn lv).length := List.length_map _
          have hcl2 : climbP wn fu (aboveP wn lv) (d + 1 + 1) = treeP wn l := by
            have h_ := hLV.out.2.1
            rw [climbP, if_pos h1x] at h_
            exact h_
          have HH := Aside0.mk (And.intro hpl (And.intro hal hcl2))
          have HJ := Aside0.mk (And.intro h1x (And.intro hl1 (And.intro hl2 hlv1)))
          have HFU := Aside0.mk hLV.out.2.2
          have hdw : wrap64 (((d + 1 : Nat) : Int) + 1) = ((d + 1 + 1 : Nat) : Int) := w64k (d + 1) (by omega)
          clear hpl hal hcl2 h1x hl1 hl2 hlv1 hc4
          go_wp2_with (go_at_call 127; refine (above_any d (fun k => k ≠ g) A c lv wn hw1 hw2 (by have := HJ.out; omega) hLV.out.1 _ hF.out hcl).mono ?_; rintro e w5 ⟨v9, rfl, hN5, hB5⟩; obtain ⟨A9, c9, rfl⟩ := Kd.N_slice hN5; have hP5 := blk_below hP.out hB5; have q2 : w5.cell? ⟨g, 2, none⟩ = some (.int .i64 ((d + 1 : Nat) : Int)) := (blk_cell hP5 2).trans rfl; have f2 : w5.frozen? ⟨g, 2, none⟩ = false := blk_frozen hP5 2; have HP5 := Aside0.mk hP5; have HN5 := Aside0.mk hN5; have HB5 := Aside0.mk hB5; clear hP5 hN5 hB5)
          obtain ⟨j1, j2, j3, j4⟩ := HJ.out
          obtain ⟨⟨k1, k2, k3⟩, k4, k5⟩ := HH.out
          have k6 := k2 j1
          have k7 := k3 (by omega)
          have hwr : g < wr.heap.size := blk_lt hP.out
          refine ⟨⟨A9, c9, aboveP wn lv, d + 1, fu, rfl, (Kd.N_reads' HN5.out).2.1, by omega, by omega, ⟨fun e => by have h_ := congrArg List.length e; rw [k4, List.length_nil] at h_; omega, k5, by have := HFU.out; omega⟩, ⟨?_⟩, ⟨?_⟩, ⟨(hB.out.trans (HB5.out.mono hB.out.size)).setCell (p := ⟨g, 2, none⟩) hgw _⟩⟩, by show (aboveP wn lv).length < lv.length; omega⟩
          · exact Kd.F_far (Kd.F_mono (Kd.N_F HN5.out) (fun k hk => hk.elim id (fun h => by show k ≠ g; omega))) (fun k hk => hk) _
          · rw [show wrap64 ((d : Int) + 1 + 1) = ((d + 1 + 1 : Nat) : Int) by unfold wrap64; omega]
            exact blk_set HP5.out 2 _
        · have h1' : ¬ (1 : Int) < (lv.length : Int) := by omega
          obtain ⟨x, hx⟩ : ∃ x, lv = [x] := by
            cases lv with
            | nil => exact absurd rfl hLV.out.1
            | cons x t => exact ⟨x, by rw [List.eq_nil_of_length_eq_zero (l := t) (by rw [List.length_cons] at h1x; omega)]⟩
          have hlen1 : lv.length = 1 := by rw [hx]; rfl
          have h01 : (0 : Int) < (lv.length : Int) := by omega
          have htr : treeP wn l = (x, d + 1) := by
            rw [← hLV.out.2.1, hx]
            cases fuel with
            | zero => rfl
            | succ n => rw [climbP, if_neg (by simp)]; rfl
          obtain ⟨ad2, b, rfl, y0, hKx, B4, B5, d4, d5, hbx⟩ := at_kNA (Kd.F_now hF.out) 0 (by omega) (by omega)
          rw [Addr.add_zero'] at y0
          have hHX : (lv[0]'(by omega)) = x := by simp [hx]
          have HFx := Kd.F_get hF.out z74 0 (by omega) (by omega)
          have s0 : wr.cell? ⟨g, 0, none⟩ = some (.pointer none) := (blk_cell hP.out 0).trans rfl
          have f0 : wr.frozen? ⟨g, 0, none⟩ = false := blk_frozen hP.out 0
          have HTR := Aside0.mk htr
          have HK := Aside0.mk (And.intro hHX HFx)
          have Y0 := Aside0.mk y0
          clear htr hx hHX HFx hKx hbx
          go_wp2_with (fail)
          go_ret2
          obtain ⟨ad3, cs, e3, hcl, hFK, hcc, _⟩ := HK.out.2
          cases e3
          rw [kN_sz] at hcl hcc
          obtain ⟨c1, rfl⟩ := List.length_eq_one_iff.1 hcl
          have hc1 := hcc 0 c1 rfl
          simp only [show ((0 : Int).toNat * 1 + 0) = 0 from rfl, Addr.add_zero'] at hc1
          have hcb : c1 = nodeV b := by rw [Y0.out] at hc1; exact (Option.some.inj hc1).symm
          rw [hcb] at hFK
          have hKf := hFK (wr.setCell ⟨g, 0, none⟩ (nodeV b)) (fun k hk _ => Below.heap_setCell wr ⟨g, 0, none⟩ (nodeV b) k hk)
          have hgd : lv.getD (0 : Int).toNat z74 = x := by
            rw [show (0 : Int).toNat = 0 from rfl, List.getD_eq_getElem?_getD, List.getElem?_eq_getElem (by omega), Option.getD_some, HK.out.1]
          rw [hgd] at hKf
          refine ⟨_, rfl, ⟨g, nodeV b, rfl, ?_, ?_⟩, hB.out.setCell (p := ⟨g, 0, none⟩) hgw _⟩
          · rw [HTR.out]
            exact blk_set hP.out 0 _
          · unfold rootOf
            rw [if_neg HN.out.1, HTR.out, Nat.add_sub_cancel]
            exact ⟨b, rfl, hKf⟩
  · have ht : rtOf l wd = none := by unfold rtOf; rw [he, if_neg h4]
    rw [he, ht]
    have hne : (checkP [] l == 0) = false := by simpa using h4
    generalize checkP [] l = er at HCK hne ⊢
    clear h4 hr0
    go_enter Try.func56, Try.ntmps56
    go_wp2_with (go_at_call 122; refine HCK.out.mono ?_; rintro e w3 ⟨rfl, hB⟩; have HB := Aside0.mk hB; clear hB)
    go_ret2
    exact ⟨_, rfl, rfl, HB.out⟩
end Go.Proofs.Ytdcelpppgbmlaaa.P
