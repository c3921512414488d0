/- The law RtreeSame of package bitemporallaw31 answers true. No condition. -/
import Derived.Test.YtdcelpppgbmlaaaSELaw31
namespace Go.Proofs.Ytdcelpppgbmlaaa.P
open Go.RowKit Go.Shelf Go.Proofs.YtdcelpppgbmlaaaW.PrintWords Go.Proofs.YtdcelpppgbmlaaaW.PrintLast Go.Proofs.YtdcelpppgbmlaaaW.PrintMore
set_option linter.unusedSimpArgs false
set_option linter.unusedVariables false
attribute [local go_sem high] eqA41
theorem errP_same {l m : List S51} (p : l.Perm m) {a b : Int} (ha : 0 ≤ a) (hb : 0 ≤ b) (h : errP l (2 + a % 63) = 0) : errP m (2 + b % 63) = 0 := by
  obtain ⟨_, _, h3, h4⟩ := errP_zero.1 h
  exact errP_zero.2 ⟨by omega, by omega, p.length_eq ▸ h3, checkP_perm p h4⟩
theorem search_same {l m : List S51} {T U : RT} (p : l.Perm m) (h : Fine l T) (k : Fine m U) (r : S41) : rtSearch U r = rtSearch T r := by
  rw [h.search, k.search, foundP_perm p]
theorem stab_same {l m : List S51} {T U : RT} (p : l.Perm m) (h : Fine l T) (k : Fine m U) (v s : Int) : rtStab U v s = rtStab T v s := by
  unfold rtStab
  rw [search_same p h k]
theorem bounds_same {l m : List S51} {T U : RT} (p : l.Perm m) (h : Fine l T) (k : Fine m U) : rtBounds U = rtBounds T := by
  rw [h.bounds, k.bounds, BAsc.eq (orderedP_law l).1 (orderedP_law m).1 ((orderedP_law l).2.trans (p.trans (orderedP_law m).2.symm))]
  by_cases hn : l = []
  · rw [if_pos hn, if_pos (by subst hn; exact List.nil_perm.1 p)]
  · rw [if_neg hn, if_neg (fun e => hn (by subst e; exact List.perm_nil.1 p))]
theorem len_same {l m : List S51} {T U : RT} (p : l.Perm m) (h : Fine l T) (k : Fine m U) : rtLen U = rtLen T := by
  rw [h.len, k.len, p.length_eq]
theorem take_rev {l : List S51} {j : Nat} (h : j < l.length) : l.reverse.take (j + 1) = l.reverse.take j ++ [rd_T51 l ((l.length : Int) - 1 - j)] := by
  rw [List.take_succ_eq_append_getElem (by simpa using h), List.getElem_reverse]
  congr 2
  have e : ((l.length : Int) - 1 - j).toNat = l.length - 1 - j := by omega
  unfold rd_T51
  rw [e, List.getD_eq_getElem?_getD, List.getElem?_eq_getElem (by omega)]
  rfl
theorem search_as (v : Value) (T : RT) (h : Ok31 T) (r : S41) (L : List Int) (hL : rtSearch T r = L) (w : World) (hT : rtK w v T) :
    Calls Try.prog 59 #[v, .agg #[.int .i64 r.f0.f0, .int .i64 r.f0.f1, .int .i64 r.f1.f0, .int .i64 r.f1.f1]] w fun e w' => (∃ A c, e = .returned (.slice A L.length c) ∧ L.length ≤ c ∧ Kd.C (Kd.int .i64) w' A L.length L) ∧ Below w.heap.size w w' := by
  subst hL
  exact search_calls v T h r w hT
theorem stab_as (v : Value) (T : RT) (h : Ok31 T) (a b : Int) (L : List Int) (hL : rtStab T a b = L) (w : World) (hT : rtK w v T) :
    Calls Try.prog 95 #[v, .int .i64 a, .int .i64 b] w fun e w' => (∃ A c, e = .returned (.slice A L.length c) ∧ L.length ≤ c ∧ Kd.C (Kd.int .i64) w' A L.length L) ∧ Below w.heap.size w w' := by
  subst hL
  exact stab_calls v T h a b w hT
theorem len_as (v : Value) (T : RT) (n : Nat) (hn : rtLen T = n) (w : World) (hT : rtK w v T) : Calls Try.prog 89 #[v] w fun e w' => e = .returned (.int .i64 (n : Int)) ∧ Below w.heap.size w w' := by
  subst hn
  exact rtree_Len.calls v T w hT
theorem bounds_as (v : Value) (T : RT) (B : Option S41) (hB : rtBounds T = B) (w : World) (hT : rtK w v T) : Calls Try.prog 87 #[v] w fun e w' => e = .returned (.tuple #[.agg #[.int .i64 (orZ B).f0.f0, .int .i64 (orZ B).f0.f1, .int .i64 (orZ B).f1.f0, .int .i64 (orZ B).f1.f1], .bool B.isSome]) ∧ Below w.heap.size w w' := by
  subst hB
  exact rtree_Bounds.calls v T w hT
set_option maxHeartbeats 4000000 in
set_option maxRecDepth 100000 in
theorem L31_RtreeSame.calls (A0 : Option Addr) (c0 : Nat) (l : List S51) (a b : Int) (r : S41) (hwf : ∀ b ∈ l, (Lit.int .i64 b.f1).wf = true) (ha : 0 ≤ a ∧ a < 256) (hb : 0 ≤ b ∧ b < 256) (w : World) (hr0 : Kd.C k51 w A0 l.length l) (hc0 : l.length ≤ c0) :
    Calls Try.prog 21 #[.slice A0 l.length c0, .int .u8 a, .int .u8 b, .agg #[.int .i64 r.f0.f0, .int .i64 r.f0.f1, .int .i64 r.f1.f0, .int .i64 r.f1.f1]] w fun e w' => e = .returned (.bool true) ∧ Below w.heap.size w w' := by
  have hu41 := Try.underlying41
  have hu39 := Try.underlying39
  have HR := Aside0.mk hr0
  have HWF := Aside0.mk hwf
  have HA := Aside0.mk (And.intro ha.1 hb.1)
  have HB0 : Aside0 (Below w.heap.size w (w.alloc (.cells #[.int .i64 r.f0.f0, .int .i64 r.f0.f1, .int .i64 r.f1.f0, .int .i64 r.f1.f1] 41))) := ⟨below_alloc (Below.refl _ _) _⟩
  have HP0 : Aside0 ((w.alloc (.cells #[.int .i64 r.f0.f0, .int .i64 r.f0.f1, .int .i64 r.f1.f0, .int .i64 r.f1.f1] 41)).heap[w.heap.size]? = some (.cells #[.int .i64 r.f0.f0, .int .i64 r.f0.f1, .int .i64 r.f1.f0, .int .i64 r.f1.f1] 41 (0, 0))) := ⟨blk_new w _⟩
  clear hr0 hwf
  by_cases hl : l.length ≤ 200
  · have hl' : ¬ (l.length : Int) > 200 := by omega
    go_enter Try.func21, Try.ntmps21
    go_wp2_with (fail)
    go_loopw [9, 25] (fun v i wr => ∃ j : Nat, j ≤ l.length ∧ i = .int .i64 j ∧ Aside0 (Kd.R k51 51 wr (w.alloc (.cells #[.int .i64 r.f0.f0, .int .i64 r.f0.f1, .int .i64 r.f1.f0, .int .i64 r.f1.f1] 41)).heap.size (fun _ => True) v (l.reverse.take j)) ∧ Aside0 (Below (w.alloc (.cells #[.int .i64 r.f0.f0, .int .i64 r.f0.f1, .int .i64 r.f1.f0, .int .i64 r.f1.f1] 41)).heap.size (w.alloc (.cells #[.int .i64 r.f0.f0, .int .i64 r.f0.f1, .int .i64 r.f1.f0, .int .i64 r.f1.f1] 41)) wr)) (fun _ i _ => l.length - (intOf i).toNat)
    case atStart => exact ⟨0, Nat.zero_le _, rfl, ⟨Kd.R_nil _ _ _ _ _⟩, ⟨Below.refl _ _⟩⟩
    case round =>
      obtain ⟨j, hj, rfl, HV, HB1⟩ := hrel
      rcases Nat.lt_or_ge j l.length with hlt | hge
      · obtain ⟨ji, hji⟩ : ∃ ji : Int, ji = (l.length : Int) - 1 - j := ⟨_, rfl⟩
        have hw1 : IntKind.i64.wrap ((l.length : Int) - 1) = (l.length : Int) - 1 := by rw [i64_w]; unfold Go.RowKit.wrap64; omega
        have hw2 : IntKind.i64.wrap ((l.length : Int) - 1 - j) = ji := by rw [i64_w, hji]; unfold Go.RowKit.wrap64; omega
        have hj0 : 0 ≤ ji := by omega
        have hj1 : ji < l.length := by omega
        obtain ⟨ad, e, hx0, hx1, hx2, hx3, hx4⟩ := at_T51 (Kd.C_below HR.out (HB0.out.trans (HB1.out.mono HB0.out.size))) ji hj0 hj1
        cases e
        have hlt' : (j : Int) < l.length := by omega
        have HT := Aside0.mk (take_rev hlt)
        rw [← hji] at HT
        obtain ⟨x, hx⟩ : ∃ x, x = rd_T51 l ji := ⟨_, rfl⟩
        rw [← hx] at hx0 hx1 hx2 hx3 hx4 HT
        clear hx hji
        have HJ : Aside0 ((l.reverse.take j).length ≤ 200) := ⟨by rw [List.length_take]; omega⟩
        go_wp2_with (at_builtin; refine Kd.R_append k51 (w0 := (w.alloc (.cells #[.int .i64 r.f0.f0, .int .i64 r.f0.f1, .int .i64 r.f1.f0, .int .i64 r.f1.f1] 41))) (w.alloc (.cells #[.int .i64 r.f0.f0, .int .i64 r.f0.f1, .int .i64 r.f1.f0, .int .i64 r.f1.f1] 41)).heap.size rfl (.tmp 28) (.tmp 37) 39 51 (.agg #[.int .i64 0, .int .i64 0, .int .i64 0, .int .i64 0, .int .i64 0]) 40 rfl hu39 info51 rfl (by decide) (by omega) _ _ x [.int .i64 x.f0.f0.f0, .int .i64 x.f0.f0.f1, .int .i64 x.f0.f1.f0, .int .i64 x.f0.f1.f1, .int .i64 x.f1] (fun _ => True) (fun _ => False) rfl rfl (k51_mkM _ _ _ x) (fun _ hk => hk.elim) (fun _ _ => trivial) HV.out HB1.out HB1.out.size (by have := HJ.out; omega) ?_; intro v1 w3 HV3 HB3 hg3 hat3)
        refine ⟨⟨j + 1, by omega, by simp, ⟨by rw [HT.out]; exact HV3⟩, ⟨HB3⟩⟩, ?_⟩
        simp [intOf]; omega
      · have hjn : j = l.length := by omega
        subst hjn
        have HV' := HV.out
        rw [List.take_of_length_le (by simp)] at HV'
        obtain ⟨A9, c9, rfl, hc9, hC9⟩ := Kd.R_reads HV'
        clear HV HV'
        obtain ⟨m, hm⟩ : ∃ m, m = l.reverse := ⟨_, rfl⟩
        rw [← hm] at hC9 hc9 ⊢
        have HPM : Aside0 (l.Perm m) := ⟨by rw [hm]; exact (List.reverse_perm l).symm⟩
        have hml : m.length ≤ 200 := by rw [← HPM.out.length_eq]; exact hl
        have HWM : Aside0 (∀ b ∈ m, (Lit.int .i64 b.f1).wf = true) := ⟨fun b hb_ => HWF.out b (HPM.out.mem_iff.2 hb_)⟩
        have HP1 := Aside0.mk (blk_below HP0.out HB1.out)
        have HBW := Aside0.mk (HB0.out.trans (HB1.out.mono HB0.out.size))
        have HC9 := Aside0.mk hC9
        have HR1 := Aside0.mk (Kd.C_below HR.out HBW.out)
        clear hm hC9 HB1 HP0 HB0 HR
        by_cases he : errP l (2 + a % 63) = 0
        · have he2 := errP_same HPM.out HA.out.1 HA.out.2 he
          have HF := Aside0.mk (rtOf_fine he)
          have HG := Aside0.mk (rtOf_fine he2)
          have HOK : Aside0 (Ok31 (rtOf l (2 + a % 63))) := ⟨.inr ⟨l, hl, HF.out⟩⟩
          have HOKU : Aside0 (Ok31 (rtOf m (2 + b % 63))) := ⟨.inr ⟨m, hml, HG.out⟩⟩
          have HSR := Aside0.mk (fun r => search_same HPM.out HF.out HG.out r)
          have HSS := Aside0.mk (fun v s => stab_same HPM.out HF.out HG.out v s)
          have HBD := Aside0.mk (bounds_same HPM.out HF.out HG.out)
          have HLN := Aside0.mk (len_same HPM.out HF.out HG.out)
          have he' : (errP l (2 + a % 63) == 0) = true := by simpa using he
          have he2' : (errP m (2 + b % 63) == 0) = true := by simpa using he2
          clear HF HG
          have TK1 := Aside0.mk True.intro
          have TK2 := TK1
          have TK3 := TK1
          have TK4 := TK1
          go_wp2_with (first
            | (go_at_call 56; clear TK1; refine (rtree_Build.calls A0 c0 l (2 + a % 63) (Nat.lt_of_le_of_lt hl (by decide)) HWF.out _ HR1.out hc0).mono ?_; rintro e w3 ⟨v, rfl, hT, hB⟩; obtain ⟨p, rfl⟩ := rtK_ptr hT; have HBW := Aside0.mk (HBW.out.trans (hB.mono HBW.out.size)); have HT := Aside0.mk hT; have HC9 := Aside0.mk (Kd.C_below HC9.out hB); have HP1 := Aside0.mk (blk_below HP1.out hB); clear hB hT)
            | (go_at_call 56; clear TK2; refine (rtree_Build.calls A9 c9 m (2 + b % 63) (Nat.lt_of_le_of_lt hml (by decide)) HWM.out _ HC9.out hc9).mono ?_; rintro e w4 ⟨v, rfl, hU, hB⟩; obtain ⟨q, rfl⟩ := rtK_ptr hU; have HBW := Aside0.mk (HBW.out.trans (hB.mono HBW.out.size)); have HT := Aside0.mk (rtK_below HT.out hB); have HU := Aside0.mk hU; have HP1 := Aside0.mk (blk_below HP1.out hB); clear hB hU)
            | (go_at_call 87; clear TK3; refine (rtree_Bounds.calls _ _ _ HT.out).mono ?_; rintro e w5 ⟨rfl, hB⟩; have HBW := Aside0.mk (HBW.out.trans (hB.mono HBW.out.size)); have HT := Aside0.mk (rtK_below HT.out hB); have HU := Aside0.mk (rtK_below HU.out hB); have HP1 := Aside0.mk (blk_below HP1.out hB); clear hB)
            | (go_at_call 87; clear TK4; refine (bounds_as _ _ _ HBD.out _ (rtK_below HU.out (below_alloc (Below.refl _ _) _))).mono ?_; rintro e w6 ⟨rfl, hB⟩; have HB6 := Aside0.mk hB; clear hB)
            | fail)
          obtain ⟨bb, hbb⟩ : ∃ bb, bb = orZ (rtBounds (rtOf l (2 + a % 63))) := ⟨_, rfl⟩
          obtain ⟨W2, hW2⟩ : ∃ W2, W2 = w6.alloc (.cells #[.int .i64 (orZ (rtBounds (rtOf l (2 + a % 63)))).f0.f0, .int .i64 (orZ (rtBounds (rtOf l (2 + a % 63)))).f0.f1, .int .i64 (orZ (rtBounds (rtOf l (2 + a % 63)))).f1.f0, .int .i64 (orZ (rtBounds (rtOf l (2 + a % 63)))).f1.f1] 41) := ⟨_, rfl⟩
          rw [← hW2]
          have hB5 : Below w5.heap.size w5 w6 := (below_alloc (Below.refl _ _) _).trans (HB6.out.mono (by simp))
          have hB8 : Below w6.heap.size w6 W2.drew := by rw [hW2]; exact (below_alloc (Below.refl _ _) _).trans (below_drew (Below.refl _ _))
          have hBB := hB5.trans (hB8.mono hB5.size)
          have hPr : W2.drew.heap[w.heap.size]? = some (.cells #[.int .i64 r.f0.f0, .int .i64 r.f0.f1, .int .i64 r.f1.f0, .int .i64 r.f1.f1] 41 (0, 0)) := blk_below HP1.out hBB
          have hP15 : W2.drew.heap[w5.heap.size]? = some (.cells #[.int .i64 (orZ (rtBounds (rtOf l (2 + a % 63)))).f0.f0, .int .i64 (orZ (rtBounds (rtOf l (2 + a % 63)))).f0.f1, .int .i64 (orZ (rtBounds (rtOf l (2 + a % 63)))).f1.f0, .int .i64 (orZ (rtBounds (rtOf l (2 + a % 63)))).f1.f1] 41 (0, 0)) := blk_below (blk_below (blk_new w5 _) HB6.out) hB8
          have hP17 : W2.drew.heap[w6.heap.size]? = some (.cells #[.int .i64 (orZ (rtBounds (rtOf l (2 + a % 63)))).f0.f0, .int .i64 (orZ (rtBounds (rtOf l (2 + a % 63)))).f0.f1, .int .i64 (orZ (rtBounds (rtOf l (2 + a % 63)))).f1.f0, .int .i64 (orZ (rtBounds (rtOf l (2 + a % 63)))).f1.f1] 41 (0, 0)) := by rw [hW2]; exact blk_new w6 _
          rw [← hbb] at hP15 hP17
          obtain ⟨g15, hg15⟩ : ∃ g, g = w5.heap.size := ⟨_, rfl⟩
          obtain ⟨g17, hg17⟩ : ∃ g, g = w6.heap.size := ⟨_, rfl⟩
          rw [← hg15] at hP15 ⊢
          rw [← hg17] at hP17 ⊢
          have p0 : W2.drew.cell? ⟨w.heap.size, 0, none⟩ = some (.int .i64 r.f0.f0) := (blk_cell hPr 0).trans rfl
          have p1 : W2.drew.cell? ⟨w.heap.size, 1, none⟩ = some (.int .i64 r.f0.f1) := (blk_cell hPr 1).trans rfl
          have p2 : W2.drew.cell? ⟨w.heap.size, 2, none⟩ = some (.int .i64 r.f1.f0) := (blk_cell hPr 2).trans rfl
          have p3 : W2.drew.cell? ⟨w.heap.size, 3, none⟩ = some (.int .i64 r.f1.f1) := (blk_cell hPr 3).trans rfl
          have s0 : W2.drew.cell? ⟨g15, 0, none⟩ = some (.int .i64 bb.f0.f0) := (blk_cell hP15 0).trans rfl
          have s1 : W2.drew.cell? ⟨g15, 1, none⟩ = some (.int .i64 bb.f0.f1) := (blk_cell hP15 1).trans rfl
          have s2 : W2.drew.cell? ⟨g15, 2, none⟩ = some (.int .i64 bb.f1.f0) := (blk_cell hP15 2).trans rfl
          have s3 : W2.drew.cell? ⟨g15, 3, none⟩ = some (.int .i64 bb.f1.f1) := (blk_cell hP15 3).trans rfl
          have t0 : W2.drew.cell? ⟨g17, 0, none⟩ = some (.int .i64 bb.f0.f0) := (blk_cell hP17 0).trans rfl
          have t1 : W2.drew.cell? ⟨g17, 1, none⟩ = some (.int .i64 bb.f0.f1) := (blk_cell hP17 1).trans rfl
          have t2 : W2.drew.cell? ⟨g17, 2, none⟩ = some (.int .i64 bb.f1.f0) := (blk_cell hP17 2).trans rfl
          have t3 : W2.drew.cell? ⟨g17, 3, none⟩ = some (.int .i64 bb.f1.f1) := (blk_cell hP17 3).trans rfl
          have HT := Aside0.mk (rtK_below HT.out hBB)
          have HU := Aside0.mk (rtK_below HU.out hBB)
          have HBW := Aside0.mk (HBW.out.trans (hBB.mono HBW.out.size))
          clear hW2 hB5 hB8 hBB hP15 hP17 hPr hg15 hg17 hbb
          refine start_ (n := 47) (S := fun w' => w'.cell? ⟨w.heap.size, 0, none⟩ = some (.int .i64 r.f0.f0) ∧ w'.cell? ⟨w.heap.size, 1, none⟩ = some (.int .i64 r.f0.f1) ∧ w'.cell? ⟨w.heap.size, 2, none⟩ = some (.int .i64 r.f1.f0) ∧ w'.cell? ⟨w.heap.size, 3, none⟩ = some (.int .i64 r.f1.f1) ∧ w'.cell? ⟨g15, 0, none⟩ = some (.int .i64 bb.f0.f0) ∧ w'.cell? ⟨g15, 1, none⟩ = some (.int .i64 bb.f0.f1) ∧ w'.cell? ⟨g15, 2, none⟩ = some (.int .i64 bb.f1.f0) ∧ w'.cell? ⟨g15, 3, none⟩ = some (.int .i64 bb.f1.f1) ∧ w'.cell? ⟨g17, 0, none⟩ = some (.int .i64 bb.f0.f0) ∧ w'.cell? ⟨g17, 1, none⟩ = some (.int .i64 bb.f0.f1) ∧ w'.cell? ⟨g17, 2, none⟩ = some (.int .i64 bb.f1.f0) ∧ w'.cell? ⟨g17, 3, none⟩ = some (.int .i64 bb.f1.f1)) (ds := []) #[false, false, false, false, false, false, false, false, false, false, false, false, false, false, false, false, false, false, false, false, false, false, false, false, false, false, false, false, false, false, false, false, false, false, false, false, false, false, false, false, false, false, false, false, false, false, false] (by kernel_rfl) rfl rfl ⟨p0, p1, p2, p3, s0, s1, s2, s3, t0, t1, t2, t3⟩ (fun hHeld => ?_)
          refine pure_ (i := 0) (N := some 82) (v := ?_) (a' := ?_) #[true, false, false, false, false, false, false, false, false, false, false, false, false, false, false, false, false, false, false, false, false, false, false, false, false, false, false, false, false, false, false, false, false, false, false, false, false, false, false, false, false, false, false, false, false, false, false] rfl rfl (by kernel_rfl) (fun _ _ _ h => h) (Or.inl ⟨by rfl, ?_⟩) ?_ ?_
          rotate_left
          · intro w'
            go_simp
            with_reducible rfl
          rotate_left
          · simp only [Act.put, List.setIfInBounds_toArray, List.set_cons_zero, List.set_cons_succ, i64_w, i32_w]
            rfl
          refine pure_ (i := 3) (N := some 85) (v := ?_) (a' := ?_) #[true, false, false, true, false, false, false, false, false, false, false, false, false, false, false, false, false, false, false, false, false, false, false, false, false, false, false, false, false, false, false, false, false, false, false, false, false, false, false, false, false, false, false, false, false, false, false] rfl rfl (by kernel_rfl) (fun _ _ _ h => h) (Or.inl ⟨by rfl, ?_⟩) ?_ ?_
          rotate_left
          · intro w'
            go_simp
            with_reducible rfl
          rotate_left
          · simp only [Act.put, List.setIfInBounds_toArray, List.set_cons_zero, List.set_cons_succ, i64_w, i32_w]
            rfl
          refine take_ (i := 1) (N := some 83) (v := ?_) (a' := ?_) #[true, true, false, true, false, false, false, false, false, false, false, false, false, false, false, false, false, false, false, false, false, false, false, false, false, false, false, false, false, false, false, false, false, false, false, false, false, false, false, false, false, false, false, false, false, false, false] rfl rfl (by kernel_rfl) (fun _ _ _ h => h) (Or.inl ⟨by rfl, ?_⟩) hHeld ?_ ?_
          rotate_left
          · rintro w' ⟨s0, s1, s2, s3, s4, s5, s6, s7, s8, s9, s10, s11⟩
            go_simp
            with_reducible rfl
          rotate_left
          · simp only [Act.put, List.setIfInBounds_toArray, List.set_cons_zero, List.set_cons_succ, i64_w, i32_w]
            rfl
          refine take_ (i := 4) (N := some 86) (v := ?_) (a' := ?_) #[true, true, false, true, true, false, false, false, false, false, false, false, false, false, false, false, false, false, false, false, false, false, false, false, false, false, false, false, false, false, false, false, false, false, false, false, false, false, false, false, false, false, false, false, false, false, false] rfl rfl (by kernel_rfl) (fun _ _ _ h => h) (Or.inl ⟨by rfl, ?_⟩) hHeld ?_ ?_
          rotate_left
          · rintro w' ⟨s0, s1, s2, s3, s4, s5, s6, s7, s8, s9, s10, s11⟩
            go_simp
            with_reducible rfl
          rotate_left
          · simp only [Act.put, List.setIfInBounds_toArray, List.set_cons_zero, List.set_cons_succ, i64_w, i32_w]
            rfl
          refine one_ (i := 2) (N := some 84) #[true, true, true, true, true, false, false, false, false, false, false, false, false, false, false, false, false, false, false, false, false, false, false, false, false, false, false, false, false, false, false, false, false, false, false, false, false, false, false, false, false, false, false, false, false, false, false] rfl rfl (by kernel_rfl) (by decide) (fun K hK => ?_)
          refine goes_ Try.func59 (by kernel_rfl) rfl #[.pointer p, .agg #[.int .i64 r.f0.f0, .int .i64 r.f0.f1, .int .i64 r.f1.f0, .int .i64 r.f1.f1]] (by rfl) rfl rfl (by simp only [List.map_toArray, List.map_cons, List.map_nil]; rfl) ?_
          with_reducible refine (search_calls _ (rtOf l (2 + a % 63)) HOK.out r _ HT.out).mono ?_
          rintro e w2_ ⟨⟨A_, c_, rfl, hc_, hC_⟩, hB⟩
          refine ⟨_, rfl, ?_⟩
          have HBK := Aside0.mk hB
          clear hB
          have HBW := Aside0.mk (HBW.out.trans (HBK.out.mono HBW.out.size))
          have HT := Aside0.mk (rtK_below HT.out HBK.out)
          have HU := Aside0.mk (rtK_below HU.out HBK.out)
          have HS := Aside0.mk (And.intro hc_ hC_)
          clear hc_ hC_
          refine hK.out _ _ ⟨(pw_cell_below HBK.out hHeld.1), (pw_cell_below HBK.out hHeld.2.1), (pw_cell_below HBK.out hHeld.2.2.1), (pw_cell_below HBK.out hHeld.2.2.2.1), (pw_cell_below HBK.out hHeld.2.2.2.2.1), (pw_cell_below HBK.out hHeld.2.2.2.2.2.1), (pw_cell_below HBK.out hHeld.2.2.2.2.2.2.1), (pw_cell_below HBK.out hHeld.2.2.2.2.2.2.2.1), (pw_cell_below HBK.out hHeld.2.2.2.2.2.2.2.2.1), (pw_cell_below HBK.out hHeld.2.2.2.2.2.2.2.2.2.1), (pw_cell_below HBK.out hHeld.2.2.2.2.2.2.2.2.2.2.1), (pw_cell_below HBK.out hHeld.2.2.2.2.2.2.2.2.2.2.2)⟩ (fun hHeld => ?_)
          clear hK K
          refine norm_ (a' := ?_) ?_ ?_
          rotate_left
          · show Act.put _ (some 84) _ = _
            simp only [Act.put, List.setIfInBounds_toArray, List.set_cons_zero, List.set_cons_succ, i64_w, i32_w]
            rfl
          refine one_ (i := 5) (N := some 87) #[true, true, true, true, true, true, false, false, false, false, false, false, false, false, false, false, false, false, false, false, false, false, false, false, false, false, false, false, false, false, false, false, false, false, false, false, false, false, false, false, false, false, false, false, false, false, false] rfl rfl (by kernel_rfl) (by decide) (fun K hK => ?_)
          refine goes_ Try.func59 (by kernel_rfl) rfl #[.pointer q, .agg #[.int .i64 r.f0.f0, .int .i64 r.f0.f1, .int .i64 r.f1.f0, .int .i64 r.f1.f1]] (by rfl) rfl rfl (by simp only [List.map_toArray, List.map_cons, List.map_nil]; rfl) ?_
          with_reducible refine (search_as _ (rtOf m (2 + b % 63)) HOKU.out r _ (HSR.out r) _ HU.out).mono ?_
          rintro e w5_ ⟨⟨B_, d_, rfl, hc_, hC_⟩, hB⟩
          refine ⟨_, rfl, ?_⟩
          have HBK := Aside0.mk hB
          clear hB
          have HBW := Aside0.mk (HBW.out.trans (HBK.out.mono HBW.out.size))
          have HT := Aside0.mk (rtK_below HT.out HBK.out)
          have HU := Aside0.mk (rtK_below HU.out HBK.out)
          have HS := Aside0.mk (row_below HS.out HBK.out)
          have HS2 := Aside0.mk (And.intro hc_ hC_)
          clear hc_ hC_
          refine hK.out _ _ ⟨(pw_cell_below HBK.out hHeld.1), (pw_cell_below HBK.out hHeld.2.1), (pw_cell_below HBK.out hHeld.2.2.1), (pw_cell_below HBK.out hHeld.2.2.2.1), (pw_cell_below HBK.out hHeld.2.2.2.2.1), (pw_cell_below HBK.out hHeld.2.2.2.2.2.1), (pw_cell_below HBK.out hHeld.2.2.2.2.2.2.1), (pw_cell_below HBK.out hHeld.2.2.2.2.2.2.2.1), (pw_cell_below HBK.out hHeld.2.2.2.2.2.2.2.2.1), (pw_cell_below HBK.out hHeld.2.2.2.2.2.2.2.2.2.1), (pw_cell_below HBK.out hHeld.2.2.2.2.2.2.2.2.2.2.1), (pw_cell_below HBK.out hHeld.2.2.2.2.2.2.2.2.2.2.2)⟩ (fun hHeld => ?_)
          clear hK K
          refine norm_ (a' := ?_) ?_ ?_
          rotate_left
          · show Act.put _ (some 87) _ = _
            simp only [Act.put, List.setIfInBounds_toArray, List.set_cons_zero, List.set_cons_succ, i64_w, i32_w]
            rfl
          refine one_ (i := 6) (N := some 88) #[true, true, true, true, true, true, true, false, false, false, false, false, false, false, false, false, false, false, false, false, false, false, false, false, false, false, false, false, false, false, false, false, false, false, false, false, false, false, false, false, false, false, false, false, false, false, false] rfl rfl (by kernel_rfl) (by decide) (fun K hK => ?_)
          refine goes_ Try.func91 (by kernel_rfl) rfl #[.slice A_ (rtSearch (rtOf l (2 + a % 63)) r).length c_, .slice B_ (rtSearch (rtOf l (2 + a % 63)) r).length d_] (by rfl) rfl rfl (by simp only [List.map_toArray, List.map_cons, List.map_nil]; rfl) ?_
          with_reducible refine (ints_same _ (HOK.out.search_len r) A_ c_ B_ d_ _ HS.out HS2.out).mono ?_
          rintro e w6_ ⟨rfl, hB⟩
          refine ⟨_, rfl, ?_⟩
          have HBK := Aside0.mk hB
          clear hB
          have HBW := Aside0.mk (HBW.out.trans (HBK.out.mono HBW.out.size))
          have HT := Aside0.mk (rtK_below HT.out HBK.out)
          have HU := Aside0.mk (rtK_below HU.out HBK.out)
          refine hK.out _ _ ⟨(pw_cell_below HBK.out hHeld.1), (pw_cell_below HBK.out hHeld.2.1), (pw_cell_below HBK.out hHeld.2.2.1), (pw_cell_below HBK.out hHeld.2.2.2.1), (pw_cell_below HBK.out hHeld.2.2.2.2.1), (pw_cell_below HBK.out hHeld.2.2.2.2.2.1), (pw_cell_below HBK.out hHeld.2.2.2.2.2.2.1), (pw_cell_below HBK.out hHeld.2.2.2.2.2.2.2.1), (pw_cell_below HBK.out hHeld.2.2.2.2.2.2.2.2.1), (pw_cell_below HBK.out hHeld.2.2.2.2.2.2.2.2.2.1), (pw_cell_below HBK.out hHeld.2.2.2.2.2.2.2.2.2.2.1), (pw_cell_below HBK.out hHeld.2.2.2.2.2.2.2.2.2.2.2)⟩ (fun hHeld => ?_)
          clear hK K
          refine norm_ (a' := ?_) ?_ ?_
          rotate_left
          · show Act.put _ (some 88) _ = _
            simp only [Act.put, List.setIfInBounds_toArray, List.set_cons_zero, List.set_cons_succ, i64_w, i32_w]
            rfl
          refine pure_ (i := 7) (N := some 89) (v := ?_) (a' := ?_) #[true, true, true, true, true, true, true, true, false, false, false, false, false, false, false, false, false, false, false, false, false, false, false, false, false, false, false, false, false, false, false, false, false, false, false, false, false, false, false, false, false, false, false, false, false, false, false] rfl rfl (by kernel_rfl) (fun _ _ _ h => h) (Or.inl ⟨by rfl, ?_⟩) ?_ ?_
          rotate_left
          · intro w'
            go_simp
            with_reducible rfl
          rotate_left
          · simp only [Act.put, List.setIfInBounds_toArray, List.set_cons_zero, List.set_cons_succ, i64_w, i32_w]
            rfl
          refine pure_ (i := 8) (N := some 90) (v := ?_) (a' := ?_) #[true, true, true, true, true, true, true, true, true, false, false, false, false, false, false, false, false, false, false, false, false, false, false, false, false, false, false, false, false, false, false, false, false, false, false, false, false, false, false, false, false, false, false, false, false, false, false] rfl rfl (by kernel_rfl) (fun _ _ _ h => h) (Or.inl ⟨by rfl, ?_⟩) ?_ ?_
          rotate_left
          · intro w'
            go_simp
            with_reducible rfl
          rotate_left
          · simp only [Act.put, List.setIfInBounds_toArray, List.set_cons_zero, List.set_cons_succ, i64_w, i32_w]
            rfl
          refine pure_ (i := 9) (N := some 91) (v := ?_) (a' := ?_) #[true, true, true, true, true, true, true, true, true, true, false, false, false, false, false, false, false, false, false, false, false, false, false, false, false, false, false, false, false, false, false, false, false, false, false, false, false, false, false, false, false, false, false, false, false, false, false] rfl rfl (by kernel_rfl) (fun _ _ _ h => h) (Or.inl ⟨by rfl, ?_⟩) ?_ ?_
          rotate_left
          · intro w'
            go_simp
            with_reducible rfl
          rotate_left
          · simp only [Act.put, List.setIfInBounds_toArray, List.set_cons_zero, List.set_cons_succ, i64_w, i32_w]
            rfl
          refine pure_ (i := 10) (N := some 92) (v := ?_) (a' := ?_) #[true, true, true, true, true, true, true, true, true, true, true, false, false, false, false, false, false, false, false, false, false, false, false, false, false, false, false, false, false, false, false, false, false, false, false, false, false, false, false, false, false, false, false, false, false, false, false] rfl rfl (by kernel_rfl) (fun _ _ _ h => h) (Or.inl ⟨by rfl, ?_⟩) ?_ ?_
          rotate_left
          · intro w'
            go_simp
            with_reducible rfl
          rotate_left
          · simp only [Act.put, List.setIfInBounds_toArray, List.set_cons_zero, List.set_cons_succ, i64_w, i32_w]
            rfl
          refine pure_ (i := 12) (N := some 94) (v := ?_) (a' := ?_) #[true, true, true, true, true, true, true, true, true, true, true, false, true, false, false, false, false, false, false, false, false, false, false, false, false, false, false, false, false, false, false, false, false, false, false, false, false, false, false, false, false, false, false, false, false, false, false] rfl rfl (by kernel_rfl) (fun _ _ _ h => h) (Or.inl ⟨by rfl, ?_⟩) ?_ ?_
          rotate_left
          · intro w'
            go_simp
            with_reducible rfl
          rotate_left
          · simp only [Act.put, List.setIfInBounds_toArray, List.set_cons_zero, List.set_cons_succ, i64_w, i32_w]
            rfl
          refine pure_ (i := 13) (N := some 95) (v := ?_) (a' := ?_) #[true, true, true, true, true, true, true, true, true, true, true, false, true, true, false, false, false, false, false, false, false, false, false, false, false, false, false, false, false, false, false, false, false, false, false, false, false, false, false, false, false, false, false, false, false, false, false] rfl rfl (by kernel_rfl) (fun _ _ _ h => h) (Or.inl ⟨by rfl, ?_⟩) ?_ ?_
          rotate_left
          · intro w'
            go_simp
            with_reducible rfl
          rotate_left
          · simp only [Act.put, List.setIfInBounds_toArray, List.set_cons_zero, List.set_cons_succ, i64_w, i32_w]
            rfl
          refine pure_ (i := 16) (N := some 98) (v := ?_) (a' := ?_) #[true, true, true, true, true, true, true, true, true, true, true, false, true, true, false, false, true, false, false, false, false, false, false, false, false, false, false, false, false, false, false, false, false, false, false, false, false, false, false, false, false, false, false, false, false, false, false] rfl rfl (by kernel_rfl) (fun _ _ _ h => h) (Or.inl ⟨by rfl, ?_⟩) ?_ ?_
          rotate_left
          · intro w'
            go_simp
            with_reducible rfl
          rotate_left
          · simp only [Act.put, List.setIfInBounds_toArray, List.set_cons_zero, List.set_cons_succ, i64_w, i32_w]
            rfl
          refine pure_ (i := 17) (N := some 99) (v := ?_) (a' := ?_) #[true, true, true, true, true, true, true, true, true, true, true, false, true, true, false, false, true, true, false, false, false, false, false, false, false, false, false, false, false, false, false, false, false, false, false, false, false, false, false, false, false, false, false, false, false, false, false] rfl rfl (by kernel_rfl) (fun _ _ _ h => h) (Or.inl ⟨by rfl, ?_⟩) ?_ ?_
          rotate_left
          · intro w'
            go_simp
            with_reducible rfl
          rotate_left
          · simp only [Act.put, List.setIfInBounds_toArray, List.set_cons_zero, List.set_cons_succ, i64_w, i32_w]
            rfl
          refine pure_ (i := 18) (N := some 100) (v := ?_) (a' := ?_) #[true, true, true, true, true, true, true, true, true, true, true, false, true, true, false, false, true, true, true, false, false, false, false, false, false, false, false, false, false, false, false, false, false, false, false, false, false, false, false, false, false, false, false, false, false, false, false] rfl rfl (by kernel_rfl) (fun _ _ _ h => h) (Or.inl ⟨by rfl, ?_⟩) ?_ ?_
          rotate_left
          · intro w'
            go_simp
            with_reducible rfl
          rotate_left
          · simp only [Act.put, List.setIfInBounds_toArray, List.set_cons_zero, List.set_cons_succ, i64_w, i32_w]
            rfl
          refine pure_ (i := 20) (N := some 102) (v := ?_) (a' := ?_) #[true, true, true, true, true, true, true, true, true, true, true, false, true, true, false, false, true, true, true, false, true, false, false, false, false, false, false, false, false, false, false, false, false, false, false, false, false, false, false, false, false, false, false, false, false, false, false] rfl rfl (by kernel_rfl) (fun _ _ _ h => h) (Or.inl ⟨by rfl, ?_⟩) ?_ ?_
          rotate_left
          · intro w'
            go_simp
            with_reducible rfl
          rotate_left
          · simp only [Act.put, List.setIfInBounds_toArray, List.set_cons_zero, List.set_cons_succ, i64_w, i32_w]
            rfl
          refine pure_ (i := 21) (N := some 103) (v := ?_) (a' := ?_) #[true, true, true, true, true, true, true, true, true, true, true, false, true, true, false, false, true, true, true, false, true, true, false, false, false, false, false, false, false, false, false, false, false, false, false, false, false, false, false, false, false, false, false, false, false, false, false] rfl rfl (by kernel_rfl) (fun _ _ _ h => h) (Or.inl ⟨by rfl, ?_⟩) ?_ ?_
          rotate_left
          · intro w'
            go_simp
            with_reducible rfl
          rotate_left
          · simp only [Act.put, List.setIfInBounds_toArray, List.set_cons_zero, List.set_cons_succ, i64_w, i32_w]
            rfl
          refine take_ (i := 11) (N := some 93) (v := ?_) (a' := ?_) #[true, true, true, true, true, true, true, true, true, true, true, true, true, true, false, false, true, true, true, false, true, true, false, false, false, false, false, false, false, false, false, false, false, false, false, false, false, false, false, false, false, false, false, false, false, false, false] rfl rfl (by kernel_rfl) (fun _ _ _ h => h) (Or.inl ⟨by rfl, ?_⟩) hHeld ?_ ?_
          rotate_left
          · rintro w' ⟨s0, s1, s2, s3, s4, s5, s6, s7, s8, s9, s10, s11⟩
            go_simp
            with_reducible rfl
          rotate_left
          · simp only [Act.put, List.setIfInBounds_toArray, List.set_cons_zero, List.set_cons_succ, i64_w, i32_w]
            rfl
          refine take_ (i := 14) (N := some 96) (v := ?_) (a' := ?_) #[true, true, true, true, true, true, true, true, true, true, true, true, true, true, true, false, true, true, true, false, true, true, false, false, false, false, false, false, false, false, false, false, false, false, false, false, false, false, false, false, false, false, false, false, false, false, false] rfl rfl (by kernel_rfl) (fun _ _ _ h => h) (Or.inl ⟨by rfl, ?_⟩) hHeld ?_ ?_
          rotate_left
          · rintro w' ⟨s0, s1, s2, s3, s4, s5, s6, s7, s8, s9, s10, s11⟩
            go_simp
            with_reducible rfl
          rotate_left
          · simp only [Act.put, List.setIfInBounds_toArray, List.set_cons_zero, List.set_cons_succ, i64_w, i32_w]
            rfl
          refine take_ (i := 19) (N := some 101) (v := ?_) (a' := ?_) #[true, true, true, true, true, true, true, true, true, true, true, true, true, true, true, false, true, true, true, true, true, true, false, false, false, false, false, false, false, false, false, false, false, false, false, false, false, false, false, false, false, false, false, false, false, false, false] rfl rfl (by kernel_rfl) (fun _ _ _ h => h) (Or.inl ⟨by rfl, ?_⟩) hHeld ?_ ?_
          rotate_left
          · rintro w' ⟨s0, s1, s2, s3, s4, s5, s6, s7, s8, s9, s10, s11⟩
            go_simp
            with_reducible rfl
          rotate_left
          · simp only [Act.put, List.setIfInBounds_toArray, List.set_cons_zero, List.set_cons_succ, i64_w, i32_w]
            rfl
          refine take_ (i := 22) (N := some 104) (v := ?_) (a' := ?_) #[true, true, true, true, true, true, true, true, true, true, true, true, true, true, true, false, true, true, true, true, true, true, true, false, false, false, false, false, false, false, false, false, false, false, false, false, false, false, false, false, false, false, false, false, false, false, false] rfl rfl (by kernel_rfl) (fun _ _ _ h => h) (Or.inl ⟨by rfl, ?_⟩) hHeld ?_ ?_
          rotate_left
          · rintro w' ⟨s0, s1, s2, s3, s4, s5, s6, s7, s8, s9, s10, s11⟩
            go_simp
            with_reducible rfl
          rotate_left
          · simp only [Act.put, List.setIfInBounds_toArray, List.set_cons_zero, List.set_cons_succ, i64_w, i32_w]
            rfl
          refine one_ (i := 15) (N := some 97) #[true, true, true, true, true, true, true, true, true, true, true, true, true, true, true, true, true, true, true, true, true, true, true, false, false, false, false, false, false, false, false, false, false, false, false, false, false, false, false, false, false, false, false, false, false, false, false] rfl rfl (by kernel_rfl) (by decide) (fun K hK => ?_)
          refine goes_ Try.func95 (by kernel_rfl) rfl #[.pointer p, .int .i64 r.f0.f0, .int .i64 r.f1.f0] (by rfl) rfl rfl (by simp only [List.map_toArray, List.map_cons, List.map_nil]; rfl) ?_
          with_reducible refine (stab_calls _ (rtOf l (2 + a % 63)) HOK.out r.f0.f0 r.f1.f0 _ HT.out).mono ?_
          rintro e w15_ ⟨⟨C_, k_, rfl, hc_, hC_⟩, hB⟩
          refine ⟨_, rfl, ?_⟩
          have HBK := Aside0.mk hB
          clear hB
          have HBW := Aside0.mk (HBW.out.trans (HBK.out.mono HBW.out.size))
          have HT := Aside0.mk (rtK_below HT.out HBK.out)
          have HU := Aside0.mk (rtK_below HU.out HBK.out)
          have HS := Aside0.mk (And.intro hc_ hC_)
          clear hc_ hC_
          refine hK.out _ _ ⟨(pw_cell_below HBK.out hHeld.1), (pw_cell_below HBK.out hHeld.2.1), (pw_cell_below HBK.out hHeld.2.2.1), (pw_cell_below HBK.out hHeld.2.2.2.1), (pw_cell_below HBK.out hHeld.2.2.2.2.1), (pw_cell_below HBK.out hHeld.2.2.2.2.2.1), (pw_cell_below HBK.out hHeld.2.2.2.2.2.2.1), (pw_cell_below HBK.out hHeld.2.2.2.2.2.2.2.1), (pw_cell_below HBK.out hHeld.2.2.2.2.2.2.2.2.1), (pw_cell_below HBK.out hHeld.2.2.2.2.2.2.2.2.2.1), (pw_cell_below HBK.out hHeld.2.2.2.2.2.2.2.2.2.2.1), (pw_cell_below HBK.out hHeld.2.2.2.2.2.2.2.2.2.2.2)⟩ (fun hHeld => ?_)
          clear hK K
          refine norm_ (a' := ?_) ?_ ?_
          rotate_left
          · show Act.put _ (some 97) _ = _
            simp only [Act.put, List.setIfInBounds_toArray, List.set_cons_zero, List.set_cons_succ, i64_w, i32_w]
            rfl
          refine one_ (i := 23) (N := some 105) #[true, true, true, true, true, true, true, true, true, true, true, true, true, true, true, true, true, true, true, true, true, true, true, true, false, false, false, false, false, false, false, false, false, false, false, false, false, false, false, false, false, false, false, false, false, false, false] rfl rfl (by kernel_rfl) (by decide) (fun K hK => ?_)
          refine goes_ Try.func95 (by kernel_rfl) rfl #[.pointer q, .int .i64 r.f0.f0, .int .i64 r.f1.f0] (by rfl) rfl rfl (by simp only [List.map_toArray, List.map_cons, List.map_nil]; rfl) ?_
          with_reducible refine (stab_as _ (rtOf m (2 + b % 63)) HOKU.out r.f0.f0 r.f1.f0 _ (HSS.out _ _) _ HU.out).mono ?_
          rintro e w23_ ⟨⟨D_, m_, rfl, hc_, hC_⟩, hB⟩
          refine ⟨_, rfl, ?_⟩
          have HBK := Aside0.mk hB
          clear hB
          have HBW := Aside0.mk (HBW.out.trans (HBK.out.mono HBW.out.size))
          have HT := Aside0.mk (rtK_below HT.out HBK.out)
          have HU := Aside0.mk (rtK_below HU.out HBK.out)
          have HS := Aside0.mk (row_below HS.out HBK.out)
          have HS2 := Aside0.mk (And.intro hc_ hC_)
          clear hc_ hC_
          refine hK.out _ _ ⟨(pw_cell_below HBK.out hHeld.1), (pw_cell_below HBK.out hHeld.2.1), (pw_cell_below HBK.out hHeld.2.2.1), (pw_cell_below HBK.out hHeld.2.2.2.1), (pw_cell_below HBK.out hHeld.2.2.2.2.1), (pw_cell_below HBK.out hHeld.2.2.2.2.2.1), (pw_cell_below HBK.out hHeld.2.2.2.2.2.2.1), (pw_cell_below HBK.out hHeld.2.2.2.2.2.2.2.1), (pw_cell_below HBK.out hHeld.2.2.2.2.2.2.2.2.1), (pw_cell_below HBK.out hHeld.2.2.2.2.2.2.2.2.2.1), (pw_cell_below HBK.out hHeld.2.2.2.2.2.2.2.2.2.2.1), (pw_cell_below HBK.out hHeld.2.2.2.2.2.2.2.2.2.2.2)⟩ (fun hHeld => ?_)
          clear hK K
          refine norm_ (a' := ?_) ?_ ?_
          rotate_left
          · show Act.put _ (some 105) _ = _
            simp only [Act.put, List.setIfInBounds_toArray, List.set_cons_zero, List.set_cons_succ, i64_w, i32_w]
            rfl
          refine one_ (i := 24) (N := some 106) #[true, true, true, true, true, true, true, true, true, true, true, true, true, true, true, true, true, true, true, true, true, true, true, true, true, false, false, false, false, false, false, false, false, false, false, false, false, false, false, false, false, false, false, false, false, false, false] rfl rfl (by kernel_rfl) (by decide) (fun K hK => ?_)
          refine goes_ Try.func91 (by kernel_rfl) rfl #[.slice C_ (rtStab (rtOf l (2 + a % 63)) r.f0.f0 r.f1.f0).length k_, .slice D_ (rtStab (rtOf l (2 + a % 63)) r.f0.f0 r.f1.f0).length m_] (by rfl) rfl rfl (by simp only [List.map_toArray, List.map_cons, List.map_nil]; rfl) ?_
          with_reducible refine (ints_same _ (HOK.out.stab_len _ _) C_ k_ D_ m_ _ HS.out HS2.out).mono ?_
          rintro e w24_ ⟨rfl, hB⟩
          refine ⟨_, rfl, ?_⟩
          have HBK := Aside0.mk hB
          clear hB
          have HBW := Aside0.mk (HBW.out.trans (HBK.out.mono HBW.out.size))
          have HT := Aside0.mk (rtK_below HT.out HBK.out)
          have HU := Aside0.mk (rtK_below HU.out HBK.out)
          refine hK.out _ _ ⟨(pw_cell_below HBK.out hHeld.1), (pw_cell_below HBK.out hHeld.2.1), (pw_cell_below HBK.out hHeld.2.2.1), (pw_cell_below HBK.out hHeld.2.2.2.1), (pw_cell_below HBK.out hHeld.2.2.2.2.1), (pw_cell_below HBK.out hHeld.2.2.2.2.2.1), (pw_cell_below HBK.out hHeld.2.2.2.2.2.2.1), (pw_cell_below HBK.out hHeld.2.2.2.2.2.2.2.1), (pw_cell_below HBK.out hHeld.2.2.2.2.2.2.2.2.1), (pw_cell_below HBK.out hHeld.2.2.2.2.2.2.2.2.2.1), (pw_cell_below HBK.out hHeld.2.2.2.2.2.2.2.2.2.2.1), (pw_cell_below HBK.out hHeld.2.2.2.2.2.2.2.2.2.2.2)⟩ (fun hHeld => ?_)
          clear hK K
          refine norm_ (a' := ?_) ?_ ?_
          rotate_left
          · show Act.put _ (some 106) _ = _
            simp only [Act.put, List.setIfInBounds_toArray, List.set_cons_zero, List.set_cons_succ, i64_w, i32_w]
            rfl
          refine pure_ (i := 25) (N := some 107) (v := ?_) (a' := ?_) #[true, true, true, true, true, true, true, true, true, true, true, true, true, true, true, true, true, true, true, true, true, true, true, true, true, true, false, false, false, false, false, false, false, false, false, false, false, false, false, false, false, false, false, false, false, false, false] rfl rfl (by kernel_rfl) (fun _ _ _ h => h) (Or.inl ⟨by rfl, ?_⟩) ?_ ?_
          rotate_left
          · intro w'
            go_simp
            with_reducible rfl
          rotate_left
          · simp only [Act.put, List.setIfInBounds_toArray, List.set_cons_zero, List.set_cons_succ, i64_w, i32_w]
            rfl
          refine pure_ (i := 26) (N := some 108) (v := ?_) (a' := ?_) #[true, true, true, true, true, true, true, true, true, true, true, true, true, true, true, true, true, true, true, true, true, true, true, true, true, true, true, false, false, false, false, false, false, false, false, false, false, false, false, false, false, false, false, false, false, false, false] rfl rfl (by kernel_rfl) (fun _ _ _ h => h) (Or.inl ⟨by rfl, ?_⟩) ?_ ?_
          rotate_left
          · intro w'
            go_simp
            with_reducible rfl
          rotate_left
          · simp only [Act.put, List.setIfInBounds_toArray, List.set_cons_zero, List.set_cons_succ, i64_w, i32_w]
            rfl
          refine take_ (i := 27) (N := some 109) (v := ?_) (a' := ?_) #[true, true, true, true, true, true, true, true, true, true, true, true, true, true, true, true, true, true, true, true, true, true, true, true, true, true, true, true, false, false, false, false, false, false, false, false, false, false, false, false, false, false, false, false, false, false, false] rfl rfl (by kernel_rfl) (fun _ _ _ h => h) (Or.inl ⟨by rfl, ?_⟩) hHeld ?_ ?_
          rotate_left
          · rintro w' ⟨s0, s1, s2, s3, s4, s5, s6, s7, s8, s9, s10, s11⟩
            go_simp
            with_reducible rfl
          rotate_left
          · simp only [Act.put, List.setIfInBounds_toArray, List.set_cons_zero, List.set_cons_succ, i64_w, i32_w]
            rfl
          refine take_ (i := 28) (N := some 110) (v := ?_) (a' := ?_) #[true, true, true, true, true, true, true, true, true, true, true, true, true, true, true, true, true, true, true, true, true, true, true, true, true, true, true, true, true, false, false, false, false, false, false, false, false, false, false, false, false, false, false, false, false, false, false] rfl rfl (by kernel_rfl) (fun _ _ _ h => h) (Or.inl ⟨by rfl, ?_⟩) hHeld ?_ ?_
          rotate_left
          · rintro w' ⟨s0, s1, s2, s3, s4, s5, s6, s7, s8, s9, s10, s11⟩
            go_simp
            with_reducible rfl
          rotate_left
          · simp only [Act.put, List.setIfInBounds_toArray, List.set_cons_zero, List.set_cons_succ, i64_w, i32_w]
            rfl
          refine pure_ (i := 29) (N := some 111) (v := ?_) (a' := ?_) #[true, true, true, true, true, true, true, true, true, true, true, true, true, true, true, true, true, true, true, true, true, true, true, true, true, true, true, true, true, true, false, false, false, false, false, false, false, false, false, false, false, false, false, false, false, false, false] rfl rfl (by kernel_rfl) (fun _ _ _ h => h) (Or.inl ⟨by rfl, ?_⟩) ?_ ?_
          rotate_left
          · intro w'
            go_simp
            with_reducible rfl
          rotate_left
          · simp only [Act.put, List.setIfInBounds_toArray, List.set_cons_zero, List.set_cons_succ, i64_w, i32_w]
            rfl
          refine pure_ (i := 30) (N := some 112) (v := ?_) (a' := ?_) #[true, true, true, true, true, true, true, true, true, true, true, true, true, true, true, true, true, true, true, true, true, true, true, true, true, true, true, true, true, true, true, false, false, false, false, false, false, false, false, false, false, false, false, false, false, false, false] rfl rfl (by kernel_rfl) (fun _ _ _ h => h) (Or.inl ⟨by rfl, ?_⟩) ?_ ?_
          rotate_left
          · intro w'
            go_simp
            with_reducible rfl
          rotate_left
          · simp only [Act.put, List.setIfInBounds_toArray, List.set_cons_zero, List.set_cons_succ, i64_w, i32_w]
            rfl
          refine pure_ (i := 31) (N := some 113) (v := ?_) (a' := ?_) #[true, true, true, true, true, true, true, true, true, true, true, true, true, true, true, true, true, true, true, true, true, true, true, true, true, true, true, true, true, true, true, true, false, false, false, false, false, false, false, false, false, false, false, false, false, false, false] rfl rfl (by kernel_rfl) (fun _ _ _ h => h) (Or.inl ⟨by rfl, ?_⟩) ?_ ?_
          rotate_left
          · intro w'
            go_simp
            with_reducible rfl
          rotate_left
          · simp only [Act.put, List.setIfInBounds_toArray, List.set_cons_zero, List.set_cons_succ, i64_w, i32_w]
            rfl
          refine pure_ (i := 32) (N := some 114) (v := ?_) (a' := ?_) #[true, true, true, true, true, true, true, true, true, true, true, true, true, true, true, true, true, true, true, true, true, true, true, true, true, true, true, true, true, true, true, true, true, false, false, false, false, false, false, false, false, false, false, false, false, false, false] rfl rfl (by kernel_rfl) (fun _ _ _ h => h) (Or.inl ⟨by rfl, ?_⟩) ?_ ?_
          rotate_left
          · intro w'
            go_simp
            with_reducible rfl
          rotate_left
          · simp only [Act.put, List.setIfInBounds_toArray, List.set_cons_zero, List.set_cons_succ, i64_w, i32_w]
            rfl
          refine pure_ (i := 33) (N := some 115) (v := ?_) (a' := ?_) #[true, true, true, true, true, true, true, true, true, true, true, true, true, true, true, true, true, true, true, true, true, true, true, true, true, true, true, true, true, true, true, true, true, true, false, false, false, false, false, false, false, false, false, false, false, false, false] rfl rfl (by kernel_rfl) (fun _ _ _ h => h) (Or.inl ⟨by rfl, ?_⟩) ?_ ?_
          rotate_left
          · intro w'
            go_simp
            with_reducible rfl
          rotate_left
          · simp only [Act.put, List.setIfInBounds_toArray, List.set_cons_zero, List.set_cons_succ, i64_w, i32_w]
            rfl
          refine pure_ (i := 34) (N := some 116) (v := ?_) (a' := ?_) #[true, true, true, true, true, true, true, true, true, true, true, true, true, true, true, true, true, true, true, true, true, true, true, true, true, true, true, true, true, true, true, true, true, true, true, false, false, false, false, false, false, false, false, false, false, false, false] rfl rfl (by kernel_rfl) (fun _ _ _ h => h) (Or.inl ⟨by rfl, ?_⟩) ?_ ?_
          rotate_left
          · intro w'
            go_simp
            with_reducible rfl
          rotate_left
          · simp only [Act.put, List.setIfInBounds_toArray, List.set_cons_zero, List.set_cons_succ, i64_w, i32_w]
            rfl
          refine pure_ (i := 35) (N := some 117) (v := ?_) (a' := ?_) #[true, true, true, true, true, true, true, true, true, true, true, true, true, true, true, true, true, true, true, true, true, true, true, true, true, true, true, true, true, true, true, true, true, true, true, true, false, false, false, false, false, false, false, false, false, false, false] rfl rfl (by kernel_rfl) (fun _ _ _ h => h) (Or.inl ⟨by rfl, ?_⟩) ?_ ?_
          rotate_left
          · intro w'
            go_simp
            with_reducible rfl
          rotate_left
          · simp only [Act.put, List.setIfInBounds_toArray, List.set_cons_zero, List.set_cons_succ, i64_w, i32_w]
            rfl
          refine pure_ (i := 36) (N := some 118) (v := ?_) (a' := ?_) #[true, true, true, true, true, true, true, true, true, true, true, true, true, true, true, true, true, true, true, true, true, true, true, true, true, true, true, true, true, true, true, true, true, true, true, true, true, false, false, false, false, false, false, false, false, false, false] rfl rfl (by kernel_rfl) (fun _ _ _ h => h) (Or.inl ⟨by rfl, ?_⟩) ?_ ?_
          rotate_left
          · intro w'
            go_simp
            with_reducible rfl
          rotate_left
          · simp only [Act.put, List.setIfInBounds_toArray, List.set_cons_zero, List.set_cons_succ, i64_w, i32_w]
            rfl
          refine pure_ (i := 37) (N := some 119) (v := ?_) (a' := ?_) #[true, true, true, true, true, true, true, true, true, true, true, true, true, true, true, true, true, true, true, true, true, true, true, true, true, true, true, true, true, true, true, true, true, true, true, true, true, true, false, false, false, false, false, false, false, false, false] rfl rfl (by kernel_rfl) (fun _ _ _ h => h) (Or.inl ⟨by rfl, ?_⟩) ?_ ?_
          rotate_left
          · intro w'
            go_simp
            with_reducible rfl
          rotate_left
          · simp only [Act.put, List.setIfInBounds_toArray, List.set_cons_zero, List.set_cons_succ, i64_w, i32_w]
            rfl
          refine pure_ (i := 39) (N := some 121) (v := ?_) (a' := ?_) #[true, true, true, true, true, true, true, true, true, true, true, true, true, true, true, true, true, true, true, true, true, true, true, true, true, true, true, true, true, true, true, true, true, true, true, true, true, true, false, true, false, false, false, false, false, false, false] rfl rfl (by kernel_rfl) (fun _ _ _ h => h) (Or.inl ⟨by rfl, ?_⟩) ?_ ?_
          rotate_left
          · intro w'
            go_simp
            with_reducible rfl
          rotate_left
          · simp only [Act.put, List.setIfInBounds_toArray, List.set_cons_zero, List.set_cons_succ, i64_w, i32_w]
            rfl
          refine one_ (i := 38) (N := some 120) #[true, true, true, true, true, true, true, true, true, true, true, true, true, true, true, true, true, true, true, true, true, true, true, true, true, true, true, true, true, true, true, true, true, true, true, true, true, true, true, true, false, false, false, false, false, false, false] rfl rfl (by kernel_rfl) (by decide) (fun K hK => ?_)
          refine goes_ Try.func89 (by kernel_rfl) rfl #[.pointer p] (by rfl) rfl rfl (by simp only [List.map_toArray, List.map_cons, List.map_nil]; rfl) ?_
          with_reducible refine (rtree_Len.calls _ _ _ HT.out).mono ?_
          rintro e w38_ ⟨rfl, hB⟩
          refine ⟨_, rfl, ?_⟩
          have HBK := Aside0.mk hB
          clear hB
          have HBW := Aside0.mk (HBW.out.trans (HBK.out.mono HBW.out.size))
          have HT := Aside0.mk (rtK_below HT.out HBK.out)
          have HU := Aside0.mk (rtK_below HU.out HBK.out)
          refine hK.out _ _ ⟨(pw_cell_below HBK.out hHeld.1), (pw_cell_below HBK.out hHeld.2.1), (pw_cell_below HBK.out hHeld.2.2.1), (pw_cell_below HBK.out hHeld.2.2.2.1), (pw_cell_below HBK.out hHeld.2.2.2.2.1), (pw_cell_below HBK.out hHeld.2.2.2.2.2.1), (pw_cell_below HBK.out hHeld.2.2.2.2.2.2.1), (pw_cell_below HBK.out hHeld.2.2.2.2.2.2.2.1), (pw_cell_below HBK.out hHeld.2.2.2.2.2.2.2.2.1), (pw_cell_below HBK.out hHeld.2.2.2.2.2.2.2.2.2.1), (pw_cell_below HBK.out hHeld.2.2.2.2.2.2.2.2.2.2.1), (pw_cell_below HBK.out hHeld.2.2.2.2.2.2.2.2.2.2.2)⟩ (fun hHeld => ?_)
          clear hK K
          refine norm_ (a' := ?_) ?_ ?_
          rotate_left
          · show Act.put _ (some 120) _ = _
            simp only [Act.put, List.setIfInBounds_toArray, List.set_cons_zero, List.set_cons_succ, i64_w, i32_w]
            rfl
          refine one_ (i := 40) (N := some 122) #[true, true, true, true, true, true, true, true, true, true, true, true, true, true, true, true, true, true, true, true, true, true, true, true, true, true, true, true, true, true, true, true, true, true, true, true, true, true, true, true, true, false, false, false, false, false, false] rfl rfl (by kernel_rfl) (by decide) (fun K hK => ?_)
          refine goes_ Try.func89 (by kernel_rfl) rfl #[.pointer q] (by rfl) rfl rfl (by simp only [List.map_toArray, List.map_cons, List.map_nil]; rfl) ?_
          with_reducible refine (len_as _ _ _ HLN.out _ HU.out).mono ?_
          rintro e w40_ ⟨rfl, hB⟩
          refine ⟨_, rfl, ?_⟩
          have HBK := Aside0.mk hB
          clear hB
          have HBW := Aside0.mk (HBW.out.trans (HBK.out.mono HBW.out.size))
          have HT := Aside0.mk (rtK_below HT.out HBK.out)
          have HU := Aside0.mk (rtK_below HU.out HBK.out)
          refine hK.out _ _ ⟨(pw_cell_below HBK.out hHeld.1), (pw_cell_below HBK.out hHeld.2.1), (pw_cell_below HBK.out hHeld.2.2.1), (pw_cell_below HBK.out hHeld.2.2.2.1), (pw_cell_below HBK.out hHeld.2.2.2.2.1), (pw_cell_below HBK.out hHeld.2.2.2.2.2.1), (pw_cell_below HBK.out hHeld.2.2.2.2.2.2.1), (pw_cell_below HBK.out hHeld.2.2.2.2.2.2.2.1), (pw_cell_below HBK.out hHeld.2.2.2.2.2.2.2.2.1), (pw_cell_below HBK.out hHeld.2.2.2.2.2.2.2.2.2.1), (pw_cell_below HBK.out hHeld.2.2.2.2.2.2.2.2.2.2.1), (pw_cell_below HBK.out hHeld.2.2.2.2.2.2.2.2.2.2.2)⟩ (fun hHeld => ?_)
          clear hK K
          refine norm_ (a' := ?_) ?_ ?_
          rotate_left
          · show Act.put _ (some 122) _ = _
            simp only [Act.put, List.setIfInBounds_toArray, List.set_cons_zero, List.set_cons_succ, i64_w, i32_w]
            rfl
          refine pure_ (i := 41) (N := some 123) (v := ?_) (a' := ?_) #[true, true, true, true, true, true, true, true, true, true, true, true, true, true, true, true, true, true, true, true, true, true, true, true, true, true, true, true, true, true, true, true, true, true, true, true, true, true, true, true, true, true, false, false, false, false, false] rfl rfl (by kernel_rfl) (fun _ _ _ h => h) (Or.inl ⟨by rfl, ?_⟩) ?_ ?_
          rotate_left
          · intro w'
            go_simp
            with_reducible rfl
          rotate_left
          · simp only [Act.put, List.setIfInBounds_toArray, List.set_cons_zero, List.set_cons_succ, i64_w, i32_w]
            rfl
          refine pure_ (i := 42) (N := some 124) (v := ?_) (a' := ?_) #[true, true, true, true, true, true, true, true, true, true, true, true, true, true, true, true, true, true, true, true, true, true, true, true, true, true, true, true, true, true, true, true, true, true, true, true, true, true, true, true, true, true, true, false, false, false, false] rfl rfl (by kernel_rfl) (fun _ _ _ h => h) (Or.inl ⟨by rfl, ?_⟩) ?_ ?_
          rotate_left
          · intro w'
            go_simp
            with_reducible rfl
          rotate_left
          · simp only [Act.put, List.setIfInBounds_toArray, List.set_cons_zero, List.set_cons_succ, i64_w, i32_w]
            rfl
          refine pure_ (i := 43) (N := some 125) (v := ?_) (a' := ?_) #[true, true, true, true, true, true, true, true, true, true, true, true, true, true, true, true, true, true, true, true, true, true, true, true, true, true, true, true, true, true, true, true, true, true, true, true, true, true, true, true, true, true, true, true, false, false, false] rfl rfl (by kernel_rfl) (fun _ _ _ h => h) (Or.inl ⟨by rfl, ?_⟩) ?_ ?_
          rotate_left
          · intro w'
            go_simp
            with_reducible rfl
          rotate_left
          · simp only [Act.put, List.setIfInBounds_toArray, List.set_cons_zero, List.set_cons_succ, i64_w, i32_w]
            rfl
          refine one_ (i := 44) (N := some 126) #[true, true, true, true, true, true, true, true, true, true, true, true, true, true, true, true, true, true, true, true, true, true, true, true, true, true, true, true, true, true, true, true, true, true, true, true, true, true, true, true, true, true, true, true, true, false, false] rfl rfl (by kernel_rfl) (by decide) (fun K hK => ?_)
          refine goes_ Try.func85 (by kernel_rfl) rfl #[] (by rfl) rfl rfl (by simp only [List.map_toArray, List.map_nil]) ?_
          with_reducible refine (works31.calls _).mono ?_
          rintro e w44_ ⟨rfl, hB⟩
          refine ⟨_, rfl, ?_⟩
          have HBK := Aside0.mk hB
          clear hB
          have HBW := Aside0.mk (HBW.out.trans (HBK.out.mono HBW.out.size))
          have HT := Aside0.mk (rtK_below HT.out HBK.out)
          have HU := Aside0.mk (rtK_below HU.out HBK.out)
          refine hK.out _ _ ⟨(pw_cell_below HBK.out hHeld.1), (pw_cell_below HBK.out hHeld.2.1), (pw_cell_below HBK.out hHeld.2.2.1), (pw_cell_below HBK.out hHeld.2.2.2.1), (pw_cell_below HBK.out hHeld.2.2.2.2.1), (pw_cell_below HBK.out hHeld.2.2.2.2.2.1), (pw_cell_below HBK.out hHeld.2.2.2.2.2.2.1), (pw_cell_below HBK.out hHeld.2.2.2.2.2.2.2.1), (pw_cell_below HBK.out hHeld.2.2.2.2.2.2.2.2.1), (pw_cell_below HBK.out hHeld.2.2.2.2.2.2.2.2.2.1), (pw_cell_below HBK.out hHeld.2.2.2.2.2.2.2.2.2.2.1), (pw_cell_below HBK.out hHeld.2.2.2.2.2.2.2.2.2.2.2)⟩ (fun hHeld => ?_)
          clear hK K
          refine norm_ (a' := ?_) ?_ ?_
          rotate_left
          · show Act.put _ (some 126) _ = _
            simp only [Act.put, List.setIfInBounds_toArray, List.set_cons_zero, List.set_cons_succ, i64_w, i32_w]
            rfl
          refine pure_ (i := 45) (N := some 127) (v := ?_) (a' := ?_) #[true, true, true, true, true, true, true, true, true, true, true, true, true, true, true, true, true, true, true, true, true, true, true, true, true, true, true, true, true, true, true, true, true, true, true, true, true, true, true, true, true, true, true, true, true, true, false] rfl rfl (by kernel_rfl) (fun _ _ _ h => h) (Or.inl ⟨by rfl, ?_⟩) ?_ ?_
          rotate_left
          · intro w'
            go_simp
            with_reducible rfl
          rotate_left
          · simp only [Act.put, List.setIfInBounds_toArray, List.set_cons_zero, List.set_cons_succ, i64_w, i32_w]
            rfl
          refine pure_ (i := 46) (N := some 8) (v := ?_) (a' := ?_) #[true, true, true, true, true, true, true, true, true, true, true, true, true, true, true, true, true, true, true, true, true, true, true, true, true, true, true, true, true, true, true, true, true, true, true, true, true, true, true, true, true, true, true, true, true, true, true] rfl rfl (by kernel_rfl) (fun _ _ _ h => h) (Or.inl ⟨by rfl, ?_⟩) ?_ ?_
          rotate_left
          · intro w'
            go_simp
            with_reducible rfl
          rotate_left
          · simp only [Act.put, List.setIfInBounds_toArray, List.set_cons_zero, List.set_cons_succ, i64_w, i32_w]
            rfl
          refine done_ (by kernel_rfl) ?_
          go_wp2_with (fail)
          go_ret
          exact ⟨rfl, HBW.out⟩
        · have he2 : errP m (2 + b % 63) ≠ 0 := fun e => he (errP_same HPM.out.symm HA.out.2 HA.out.1 e)
          have he' : (errP l (2 + a % 63) == 0) = false := by simpa using he
          have he2' : (errP m (2 + b % 63) == 0) = false := by simpa using he2
          have hn1 : (errP l (2 + a % 63) != 0) = true := by simpa using he
          have hn2 : (errP m (2 + b % 63) != 0) = true := by simpa using he2
          have TK1 := Aside0.mk True.intro
          have TK2 := TK1
          go_wp2_with (first
            | (go_at_call 56; clear TK1; refine (rtree_Build.calls A0 c0 l (2 + a % 63) (Nat.lt_of_le_of_lt hl (by decide)) HWF.out _ HR1.out hc0).mono ?_; rintro e w3 ⟨v, rfl, hT, hB⟩; obtain ⟨p, rfl⟩ := rtK_ptr hT; have HBW := Aside0.mk (HBW.out.trans (hB.mono HBW.out.size)); have HT := Aside0.mk hT; have HC9 := Aside0.mk (Kd.C_below HC9.out hB); clear hB hT)
            | (go_at_call 56; clear TK2; refine (rtree_Build.calls A9 c9 m (2 + b % 63) (Nat.lt_of_le_of_lt hml (by decide)) HWM.out _ HC9.out hc9).mono ?_; rintro e w4 ⟨v, rfl, hU, hB⟩; obtain ⟨q, rfl⟩ := rtK_ptr hU; have HBW := Aside0.mk (HBW.out.trans (hB.mono HBW.out.size)); clear hB hU)
            | (go_at_call 85; refine (works31.calls _).mono ?_; rintro e w5 ⟨rfl, hB⟩; have HBW := Aside0.mk (HBW.out.trans (hB.mono HBW.out.size)); clear hB)
            | fail)
          go_ret
          exact ⟨rfl, HBW.out⟩
  · have hl' : (l.length : Int) > 200 := by omega
    go_enter Try.func21, Try.ntmps21
    go_wp2_with (go_at_call 85; refine (works31.calls _).mono ?_; rintro e w3 ⟨rfl, hB⟩; have HB := Aside0.mk hB; clear hB)
    go_ret
    exact ⟨rfl, HB0.out.trans (HB.out.mono HB0.out.size)⟩
end Go.Proofs.Ytdcelpppgbmlaaa.P
