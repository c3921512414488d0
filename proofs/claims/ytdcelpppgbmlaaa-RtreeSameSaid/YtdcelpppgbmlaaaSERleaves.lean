/- rtree.leaves: a range over slices.Chunk. -/
import Derived.Test.YtdcelpppgbmlaaaSEPack
import Derived.Test.YtdcelpppgbmlaaaSMAll
import Derived.Test.YtdcelpppgbmlaaaSPRtree
import Derived.RangeFuncBox
import Derived.Test.YtdcelpppgbmlaaaSERound
namespace Go.Proofs.Ytdcelpppgbmlaaa.P
open Go.RowKit Go.Shelf Go.Proofs.YtdcelpppgbmlaaaW.PrintWords Go.Proofs.YtdcelpppgbmlaaaW.PrintLast Go.Proofs.YtdcelpppgbmlaaaW.PrintMore
set_option linter.unusedSimpArgs false
set_option linter.unusedVariables false
attribute [local go_sem] Oper.semAt_some
theorem chunkB_stops (F : Fence) (n : Nat) (h212 : F.fn 212) (hro : F.round = none) (hn : 1 ≤ n) (Bs Bw : Nat) (ad : Addr) (len cap wd : Nat) (hlen : len < 1000000000) (hcap : len ≤ cap) (hwd : 1 ≤ wd) (hwd2 : wd < 1000000000) (w : World) (hs : w.heap[Bs]? = some (.cells #[.slice (some ad) len cap] 39 (0, 0))) (hw : w.heap[Bw]? = some (.cells #[.int .i64 (wd : Int)] 3 (0, 0))) :
    SeqStopsK F n Try.prog 212 #[.pointer (some ⟨Bs, 0, none⟩), .pointer (some ⟨Bw, 0, none⟩)] (fun x : {i : Nat // i < len} => #[pieceV ad 5 len wd x.1]) (KpB Bs Bw) (fun ys => Starts len wd (ys.map (·.1))) (fun _ => True) len w := fun l J Jx W hW hJ hJx hY h0 =>
  chunkB1_in F n h212 hro hn l Bs Bw ad len cap wd hlen hcap hwd hwd2 J Jx W hJ hY (blk_below hs hW) (blk_below hw hW) h0
abbrev cells139 (r : S41) (v4 v5 : Value) : Array Value := #[.int .i64 r.f0.f0, .int .i64 r.f0.f1, .int .i64 r.f1.f0, .int .i64 r.f1.f1, v4, v5]
theorem w64k (n : Nat) (h : n < 4611686018427387904) : wrap64 ((n : Int) + 1) = ((n + 1 : Nat) : Int) := by unfold wrap64; omega
theorem rtree_join_eq (a b : S41) : rtree_join.f a.f0.f0 a.f0.f1 a.f1.f0 a.f1.f1 b.f0.f0 b.f0.f1 b.f1.f0 b.f1.f1 = some ((joinR a b).f0.f0, (joinR a b).f0.f1, (joinR a b).f1.f0, (joinR a b).f1.f1) := by
  unfold rtree_join.f rtree_hull.f mn mx joinR hullP
  simp only [Option.bind_some, Option.some.injEq, Prod.mk.injEq]
  refine ⟨?_, ?_, ?_, ?_⟩ <;> omega
set_option maxRecDepth 100000 in
set_option maxHeartbeats 1000000 in
theorem rtree_leaves.calls (P0 : Nat → Prop) (ad : Addr) (c : Nat) (l : List S51) (wd : Nat) (hw1 : 2 ≤ wd) (hw2 : wd ≤ 64) (hl : l.length < 100000) (hne : l ≠ []) (w : World) (hr0 : Kd.F k51 w P0 (some ad) l.length l) (hc0 : l.length ≤ c) :
    Calls Try.prog 126 #[.slice (some ad) l.length c, .int .i64 (wd : Int)] w fun e w' => ∃ v0_ : Value, e = .returned v0_ ∧ Kd.N (kN 0) 125 w' w.heap.size (fun k => P0 k ∨ w.heap.size ≤ k) v0_ (leavesP wd l) ∧ Below w.heap.size w w' := by
  refine (callsIn_wide (n := 6)).1 ?_
  replace hr0 := Aside0.mk hr0
  have h1w : (1 : Int) ≤ (wd : Int) := by omega
  refine callsIn_of_wp_marks Try.func126 rfl trivial ?_ rfl
  simp only [Try.ntmps126, List.size_toArray, List.length_cons, List.length_nil, Nat.reduceAdd, Nat.reduceSub, Array.replicate_succ, Array.replicate_zero, List.push_toArray, List.append_toArray, List.nil_append, List.cons_append]
  have hfn : Fence.wide.fn 165 := trivial
  gi_wp2_with (gi_at_call 165; refine (chunkB_in Fence.wide _ trivial rfl (some ad) l.length c wd h1w _).mono ?_; rintro e w' ⟨rfl, rfl⟩)
  obtain ⟨W1, hW1⟩ : ∃ W1, W1 = (((w.alloc (.cells #[.slice none 0 0] 131)).alloc (.cells #[.slice (some ad) l.length c] 39)).alloc (.cells #[.int .i64 (wd : Int)] 3)) := ⟨_, rfl⟩
  rw [← hW1]
  have hsz : W1.heap.size = w.heap.size + 3 := by rw [hW1]; simp
  have hO1 : W1.heap[w.heap.size]? = some (.cells #[.slice none 0 0] 131 (0, 0)) := by rw [hW1]; exact blk_alloc (blk_alloc (blk_new w _) _) _
  have hS1 : W1.heap[w.heap.size + 1]? = some (.cells #[.slice (some ad) l.length c] 39 (0, 0)) := by rw [hW1]; refine blk_alloc ?_ _; have := blk_new (w.alloc (.cells #[.slice none 0 0] 131)) (.cells #[.slice (some ad) l.length c] 39); simpa using this
  have hD1 : W1.heap[w.heap.size + 1 + 1]? = some (.cells #[.int .i64 (wd : Int)] 3 (0, 0)) := by rw [hW1]; have := blk_new ((w.alloc (.cells #[.slice none 0 0] 131)).alloc (.cells #[.slice (some ad) l.length c] 39)) (.cells #[.int .i64 (wd : Int)] 3); simpa using this
  have hb1 : Below w.heap.size w W1 := by rw [hW1]; exact below_alloc (below_alloc (below_alloc (Below.refl _ _) _) _) _
  clear hW1
  refine wpIn_rangeFunc_ownF (w0 := W1) rfl (by decide) (gf := 212) (lb := #[.pointer (some ⟨w.heap.size + 1, 0, none⟩), .pointer (some ⟨w.heap.size + 1 + 1, 0, none⟩)]) rfl trivial (enters_of Try.func212 (by kernel_rfl) rfl)
    (chunkB_stops Fence.wide _ trivial rfl (by decide) (w.heap.size + 1) (w.heap.size + 1 + 1) ad l.length c wd (by omega) hc0 (by omega) (by omega) W1 hS1 hD1) (fun h k => KpB.trans h k) (KpB.book (by omega) (by omega)) (Below.refl _ _) (fun _ => rfl)
    (fun pre => packI P0 w (kN 0) W1 (leavesL l wd pre)) (fun _ _ _ => False) (packI_own P0 w (kN 0) W1 (by omega) hD1 _) (fun _ _ _ _ _ hs _ _ => hs)
    ⟨.slice none 0 0, hO1, Kd.N_nil _ _ _ _ _, KpB.refl _ _ _, hb1⟩
    (fun x => { tmps := #[.slice (some ad) l.length c, .int .i64 (wd : Int), undef, undef, .slice none 0 0, .pointer (some ⟨w.heap.size, 0, none⟩), .slice (some (ad.add (x.1 * 5))) (min wd (l.length - x.1)) (min wd (l.length - x.1)), undef, undef, undef, .slice (some ad) l.length c, .int .i64 (wd : Int), .func (.func 212) #[] #[.pointer (some ⟨w.heap.size + 1, 0, none⟩), .pointer (some ⟨w.heap.size + 1 + 1, 0, none⟩)], .slice (some (ad.add (x.1 * 5))) (min wd (l.length - x.1)) (min wd (l.length - x.1)), undef, undef, undef, undef, undef, undef, undef, undef, undef, undef, undef, undef, undef, undef, undef, undef, undef, undef, undef, undef, undef, undef, undef, undef, undef, undef, undef, undef, undef], defers := [] }) ?assign ?body ?done ?stop
  case assign =>
    intro l0 x W K hK
    simp only [pieceV]
    gi_wp2
    exact hK
  case body =>
    rintro l0 pre x W ⟨v, hO, hN, hKp, hB⟩ hlen
    have HLEN := Aside0.mk hlen
    have hx := x.2
    obtain ⟨m, hm⟩ : ∃ m, min wd (l.length - x.1) = m := ⟨_, rfl⟩
    have hm1 : 1 ≤ m := by omega
    have hm2 : x.1 + m ≤ l.length := by omega
    have hma : x.1 + wd < l.length → m = wd := by omega
    have hmb : l.length ≤ x.1 + wd → m = l.length - x.1 := by omega
    have hyE : (l.take (x.1 + m)).drop x.1 = (l.drop x.1).take wd := by
      rw [List.drop_take, show x.1 + m - x.1 = m by omega]
      rcases Nat.lt_or_ge (x.1 + wd) l.length with h_ | h_
      · rw [hma h_]
      · rw [List.take_of_length_le (by rw [List.length_drop]; have := hmb h_; omega), List.take_of_length_le (by rw [List.length_drop]; omega)]
    have hFy := Kd.F_mid (lo := x.1) (hi := x.1 + m) (c := c) (Kd.F_below (Kd.F_bound hr0.out) hB) (by omega) hm2 hc0
    rw [if_neg (by omega), hyE] at hFy
    have hyl : ((l.drop x.1).take wd).length = m := by rw [List.length_take, List.length_drop]; omega
    have hmap := leavesL_snoc l wd pre x
    have HM := Aside0.mk hmap
    have HN := Aside0.mk hN
    have HKP := Aside0.mk hKp
    have HB := Aside0.mk hB
    have HO := Aside0.mk hO
    clear hmap hN hKp hB hO hyE hma hmb hlen
    simp only [hm]
    rw [hyl] at hFy
    have HF : Aside0 (Kd.F k51 W (fun k => P0 k ∧ k < w.heap.size) (some (ad.add (x.1 * 5))) ((l.drop x.1).take wd).length ((l.drop x.1).take wd)) := ⟨by rw [hyl]; exact hFy⟩
    clear hFy
    have hy0 : 0 < ((l.drop x.1).take wd).length := by omega
    have hyc : ∃ r, (l.drop x.1).take wd = r := ⟨_, rfl⟩
    generalize (l.drop x.1).take wd = y at HF HM hyl hy0
    obtain ⟨ad', e, x0, x1, x2, x3, x4⟩ := at_T51 (Kd.F_now HF.out) 0 (by omega) (by omega)
    cases e
    have hrc : ∃ rc, (rd_T51 y 0).f0 = rc := ⟨_, rfl⟩
    obtain ⟨rc, hrc⟩ := hrc
    rw [hrc] at x0 x1 x2 x3
    have HRC := Aside0.mk hrc
    simp only [show ((0 : Int).toNat * 5) = 0 from rfl, Addr.add_zero'] at x0 x1 x2 x3
    clear x4 hrc
    generalize ad.add (x.1 * 5) = ay at HF x0 x1 x2 x3 ⊢
    have hm0 : (0 : Int) < (m : Int) := by omega
    clear hm hr0
    gi_wp2
    obtain ⟨Wb, hWb⟩ : ∃ Wb, Wb = W.alloc (.cells #[.int .i64 rc.f0.f0, .int .i64 rc.f0.f1, .int .i64 rc.f1.f0, .int .i64 rc.f1.f1, .slice (some ay) m m, .slice none 0 0] 139) := ⟨_, rfl⟩
    rw [← hWb]
    have HP0 : Aside0 (Wb.heap[W.heap.size]? = some (.cells (cells139 rc (.slice (some ay) m m) (.slice none 0 0)) 139 (0, 0))) := ⟨by rw [hWb]; exact blk_new W _⟩
    have Hbb : Aside0 (Below W.heap.size W Wb) := ⟨by rw [hWb]; exact below_alloc (Below.refl _ _) _⟩
    clear hWb x0 x1 x2 x3
    gi_loopw [23] (fun i wr => ∃ (j : Nat) (rect : S41), j ≤ m ∧ i = .int .i64 j ∧ Aside0 (rect = foldR rc ((y.take j).map (·.f0))) ∧ Aside0 (wr.heap[W.heap.size]? = some (.cells (cells139 rect (.slice (some ay) m m) (.slice none 0 0)) 139 (0, 0))) ∧ Aside0 (Below W.heap.size Wb wr)) (fun i _ => m - (intOf i).toNat)
    case atStart => exact ⟨0, rc, Nat.zero_le _, rfl, ⟨by simp [foldR]⟩, HP0, ⟨Below.refl _ _⟩⟩
    case round =>
      obtain ⟨j, rect, hj, rfl, hR, hP, hBz⟩ := hrel
      by_cases hjl : j < m
      · have hjl' : (j : Int) < (m : Int) := by omega
        have hFz : Aside0 (Kd.F k51 wr (fun k => P0 k ∧ k < w.heap.size) (some ay) y.length y) := ⟨Kd.F_step HF.out (fun k hk hlt => (hBz.out.block k hlt).trans (Hbb.out.block k hlt))⟩
        obtain ⟨ad', e, y0, y1, y2, y3, y4⟩ := at_T51 (Kd.F_now hFz.out) (j : Int) (by omega) (by omega)
        cases e
        have hyj := rd51r y j (by omega)
        rw [hyj] at y0 y1 y2 y3 y4
        have htk : y.take (j + 1) = y.take j ++ [y[j]'(by omega)] := List.take_succ_eq_append_getElem (by omega)
        generalize y[j]'(by omega) = q at y0 y1 y2 y3 y4 htk
        simp only [Int.toNat_natCast] at y0 y1 y2 y3 y4
        have hs1 : ∀ (o : Obj), (wr.alloc o).heap[W.heap.size]? = some (.cells (cells139 rect (.slice (some ay) m m) (.slice none 0 0)) 139 (0, 0)) := fun o => blk_alloc hP.out o
        have z0 : ∀ o, (wr.alloc o).cell? ⟨W.heap.size, 0, none⟩ = some (.int .i64 rect.f0.f0) := fun o => (blk_cell (hs1 o) 0).trans rfl
        have z1 : ∀ o, (wr.alloc o).cell? ⟨W.heap.size, 1, none⟩ = some (.int .i64 rect.f0.f1) := fun o => (blk_cell (hs1 o) 1).trans rfl
        have z2 : ∀ o, (wr.alloc o).cell? ⟨W.heap.size, 2, none⟩ = some (.int .i64 rect.f1.f0) := fun o => (blk_cell (hs1 o) 2).trans rfl
        have z3 : ∀ o, (wr.alloc o).cell? ⟨W.heap.size, 3, none⟩ = some (.int .i64 rect.f1.f1) := fun o => (blk_cell (hs1 o) 3).trans rfl
        have HS := Aside0.mk hs1
        have HCA := Aside0.mk (rtree_join_eq rect q.f0)
        have HTK := Aside0.mk htk
        clear hs1 htk hyj
        gi_wp2
        obtain ⟨Wq, hWq⟩ : ∃ Wq, Wq = wr.alloc (.cells #[.int .i64 q.f0.f0.f0, .int .i64 q.f0.f0.f1, .int .i64 q.f0.f1.f0, .int .i64 q.f0.f1.f1, .int .i64 q.f1] 51) := ⟨_, rfl⟩
        rw [← hWq]
        have hPq : Wq.drew.heap[W.heap.size]? = some (.cells (cells139 rect (.slice (some ay) m m) (.slice none 0 0)) 139 (0, 0)) := by rw [hWq]; exact HS.out _
        have hXq : Wq.drew.heap[wr.heap.size]? = some (.cells #[.int .i64 q.f0.f0.f0, .int .i64 q.f0.f0.f1, .int .i64 q.f0.f1.f0, .int .i64 q.f0.f1.f1, .int .i64 q.f1] 51 (0, 0)) := by rw [hWq]; exact blk_new wr _
        have Hbq : Aside0 (Below wr.heap.size wr Wq) := ⟨by rw [hWq]; exact below_alloc (Below.refl _ _) _⟩
        have p0d : Wq.drew.cell? ⟨W.heap.size, 0, none⟩ = some (.int .i64 rect.f0.f0) := (blk_cell hPq 0).trans rfl
        have p1d : Wq.drew.cell? ⟨W.heap.size, 1, none⟩ = some (.int .i64 rect.f0.f1) := (blk_cell hPq 1).trans rfl
        have p2d : Wq.drew.cell? ⟨W.heap.size, 2, none⟩ = some (.int .i64 rect.f1.f0) := (blk_cell hPq 2).trans rfl
        have p3d : Wq.drew.cell? ⟨W.heap.size, 3, none⟩ = some (.int .i64 rect.f1.f1) := (blk_cell hPq 3).trans rfl
        have p4d : Wq.drew.cell? ⟨wr.heap.size, 0, none⟩ = some (.int .i64 q.f0.f0.f0) := (blk_cell hXq 0).trans rfl
        have p5d : Wq.drew.cell? ⟨wr.heap.size, 1, none⟩ = some (.int .i64 q.f0.f0.f1) := (blk_cell hXq 1).trans rfl
        have p6d : Wq.drew.cell? ⟨wr.heap.size, 2, none⟩ = some (.int .i64 q.f0.f1.f0) := (blk_cell hXq 2).trans rfl
        have p7d : Wq.drew.cell? ⟨wr.heap.size, 3, none⟩ = some (.int .i64 q.f0.f1.f1) := (blk_cell hXq 3).trans rfl
        have HPq := Aside0.mk hPq
        have HXq := Aside0.mk hXq
        clear hPq hXq hWq z0 z1 z2 z3
        refine start_round (m := 11) (S := fun w' => w'.cell? ⟨W.heap.size, 0, none⟩ = some (.int .i64 rect.f0.f0) ∧ w'.cell? ⟨W.heap.size, 1, none⟩ = some (.int .i64 rect.f0.f1) ∧ w'.cell? ⟨W.heap.size, 2, none⟩ = some (.int .i64 rect.f1.f0) ∧ w'.cell? ⟨W.heap.size, 3, none⟩ = some (.int .i64 rect.f1.f1) ∧ w'.cell? ⟨wr.heap.size, 0, none⟩ = some (.int .i64 q.f0.f0.f0) ∧ w'.cell? ⟨wr.heap.size, 1, none⟩ = some (.int .i64 q.f0.f0.f1) ∧ w'.cell? ⟨wr.heap.size, 2, none⟩ = some (.int .i64 q.f0.f1.f0) ∧ w'.cell? ⟨wr.heap.size, 3, none⟩ = some (.int .i64 q.f0.f1.f1)) (ds := [10]) #[false, false, false, false, false, false, false, false, false, false, false] (by kernel_rfl) rfl rfl ⟨p0d, p1d, p2d, p3d, p4d, p5d, p6d, p7d⟩ ?hd ?hno (fun hHeld => ?rest)
        case hd =>
          intro i o c ho
          rcases i with _ | _ | _ | _ | _ | _ | _ | _ | _ | _ | _ | i <;> first | (cases ho; intro h; cases h; done) | (simp at ho; done)
        case hno => rintro ⟨_, _, h⟩; exact h
        refine pure_ (i := 0) (N := some 27) (v := ?_) (a' := ?_) #[true, false, false, false, false, false, false, false, false, false, false] rfl rfl (by kernel_rfl) (fun _ _ _ h => h) (Or.inl ⟨by rfl, ?_⟩) ?_ ?_
        rotate_left
        · intro w'
          go_simp
          with_reducible rfl
        rotate_left
        · simp only [Act.put, List.setIfInBounds_toArray, List.set_cons_zero, List.set_cons_succ, i64_w, i32_w]
          rfl
        refine pure_ (i := 1) (N := some 28) (v := ?_) (a' := ?_) #[true, true, false, false, false, false, false, false, false, false, false] rfl rfl (by kernel_rfl) (fun _ _ _ h => h) (Or.inl ⟨by rfl, ?_⟩) ?_ ?_
        rotate_left
        · intro w'
          go_simp
          with_reducible rfl
        rotate_left
        · simp only [Act.put, List.setIfInBounds_toArray, List.set_cons_zero, List.set_cons_succ, i64_w, i32_w]
          rfl
        refine pure_ (i := 2) (N := some 29) (v := ?_) (a' := ?_) #[true, true, true, false, false, false, false, false, false, false, false] rfl rfl (by kernel_rfl) (fun _ _ _ h => h) (Or.inl ⟨by rfl, ?_⟩) ?_ ?_
        rotate_left
        · intro w'
          go_simp
          with_reducible rfl
        rotate_left
        · simp only [Act.put, List.setIfInBounds_toArray, List.set_cons_zero, List.set_cons_succ, i64_w, i32_w]
          rfl
        refine pure_ (i := 3) (N := some 30) (v := ?_) (a' := ?_) #[true, true, true, true, false, false, false, false, false, false, false] rfl rfl (by kernel_rfl) (fun _ _ _ h => h) (Or.inl ⟨by rfl, ?_⟩) ?_ ?_
        rotate_left
        · intro w'
          go_simp
          with_reducible rfl
        rotate_left
        · simp only [Act.put, List.setIfInBounds_toArray, List.set_cons_zero, List.set_cons_succ, i64_w, i32_w]
          rfl
        refine pure_ (i := 5) (N := some 32) (v := ?_) (a' := ?_) #[true, true, true, true, false, true, false, false, false, false, false] rfl rfl (by kernel_rfl) (fun _ _ _ h => h) (Or.inl ⟨by rfl, ?_⟩) ?_ ?_
        rotate_left
        · intro w'
          go_simp
          with_reducible rfl
        rotate_left
        · simp only [Act.put, List.setIfInBounds_toArray, List.set_cons_zero, List.set_cons_succ, i64_w, i32_w]
          rfl
        refine take_ (i := 4) (N := some 31) (v := ?_) (a' := ?_) #[true, true, true, true, true, true, false, false, false, false, false] rfl rfl (by kernel_rfl) (fun _ _ _ h => h) (Or.inl ⟨by rfl, ?_⟩) hHeld ?_ ?_
        rotate_left
        · rintro w' ⟨s0, s1, s2, s3, s4, s5, s6, s7⟩
          go_simp
          with_reducible rfl
        rotate_left
        · simp only [Act.put, List.setIfInBounds_toArray, List.set_cons_zero, List.set_cons_succ, i64_w, i32_w]
          rfl
        refine take_ (i := 6) (N := some 33) (v := ?_) (a' := ?_) #[true, true, true, true, true, true, true, false, false, false, false] rfl rfl (by kernel_rfl) (fun _ _ _ h => h) (Or.inl ⟨by rfl, ?_⟩) hHeld ?_ ?_
        rotate_left
        · rintro w' ⟨s0, s1, s2, s3, s4, s5, s6, s7⟩
          go_simp
          with_reducible rfl
        rotate_left
        · simp only [Act.put, List.setIfInBounds_toArray, List.set_cons_zero, List.set_cons_succ, i64_w, i32_w]
          rfl
        refine one_ (i := 7) (N := some 34) #[true, true, true, true, true, true, true, true, false, false, false] rfl rfl (by kernel_rfl) (by decide) (fun K hK => ?_)
        refine goes_ Try.func166 (by kernel_rfl) rfl #[.agg #[.int .i64 rect.f0.f0, .int .i64 rect.f0.f1, .int .i64 rect.f1.f0, .int .i64 rect.f1.f1], .agg #[.int .i64 q.f0.f0.f0, .int .i64 q.f0.f0.f1, .int .i64 q.f0.f1.f0, .int .i64 q.f0.f1.f1]] (by rfl) rfl rfl (by simp only [List.map_toArray, List.map_cons, List.map_nil]; rfl) ?_
        with_reducible refine (rtree_join.calls _ _ _ _ _ _ _ _ _ _ _ _ _ HCA.out).mono ?_
        rintro e w3 ⟨rfl, hB3⟩
        refine ⟨_, rfl, ?_⟩
        have hP3 := blk_below HPq.out hB3
        have q0 : w3.cell? ⟨W.heap.size, 0, none⟩ = some (.int .i64 rect.f0.f0) := (blk_cell hP3 0).trans rfl
        have q1 : w3.cell? ⟨W.heap.size, 1, none⟩ = some (.int .i64 rect.f0.f1) := (blk_cell hP3 1).trans rfl
        have q2 : w3.cell? ⟨W.heap.size, 2, none⟩ = some (.int .i64 rect.f1.f0) := (blk_cell hP3 2).trans rfl
        have q3 : w3.cell? ⟨W.heap.size, 3, none⟩ = some (.int .i64 rect.f1.f1) := (blk_cell hP3 3).trans rfl
        have f0 := blk_frozen hP3 0
        have f1 := blk_frozen hP3 1
        have f2 := blk_frozen hP3 2
        have f3 := blk_frozen hP3 3
        have HP3 := Aside0.mk hP3
        have HB3 := Aside0.mk hB3
        clear hP3 hB3
        refine hK.out _ _ ⟨q0, q1, q2, q3, (pw_cell_below HB3.out p4d), (pw_cell_below HB3.out p5d), (pw_cell_below HB3.out p6d), (pw_cell_below HB3.out p7d)⟩ (fun hHeld => ?_)
        clear hK K
        refine norm_ (a' := ?_) ?_ ?_
        rotate_left
        · show Act.put _ (some 34) _ = _
          simp only [Act.put, List.setIfInBounds_toArray, List.set_cons_zero, List.set_cons_succ, i64_w, i32_w]
          rfl
        refine pure_ (i := 8) (N := some 35) (v := ?_) (a' := ?_) #[true, true, true, true, true, true, true, true, true, false, false] rfl rfl (by kernel_rfl) (fun _ _ _ h => h) (Or.inl ⟨by rfl, ?_⟩) ?_ ?_
        rotate_left
        · intro w'
          go_simp
          with_reducible rfl
        rotate_left
        · simp only [Act.put, List.setIfInBounds_toArray, List.set_cons_zero, List.set_cons_succ, i64_w, i32_w]
          rfl
        refine pure_ (i := 9) (N := some 36) (v := ?_) (a' := ?_) #[true, true, true, true, true, true, true, true, true, true, false] rfl rfl (by kernel_rfl) (fun _ _ _ h => h) (Or.inl ⟨by rfl, ?_⟩) ?_ ?_
        rotate_left
        · intro w'
          go_simp
          with_reducible rfl
        rotate_left
        · simp only [Act.put, List.setIfInBounds_toArray, List.set_cons_zero, List.set_cons_succ, i64_w, i32_w]
          rfl
        refine last_ (i := 10) (N := none) #[true, true, true, true, true, true, true, true, true, true, true] rfl rfl (by kernel_rfl) (by decide) (fun K hK => ?_)
        refine skip_ (w1 := ?_) (by rfl) rfl ?_ ?_
        rotate_left
        · go_simp
          rfl
        refine hK.out _ _ ?_
        clear hK K
        refine done_ (by kernel_rfl) ?_
        clear p0d p1d p2d p3d p4d p5d p6d p7d y0 y1 y2 y3 y4
        gi_wp2
        have hg := blk_lt hP.out
        have hbz : Below W.heap.size Wb w3 := hBz.out.trans (((Hbq.out.mono (Nat.le_of_lt hg)).trans (below_drew (Below.refl _ _))).trans (HB3.out.mono (Nat.le_trans (Nat.le_of_lt hg) Hbq.out.size)))
        refine ⟨⟨j + 1, joinR rect q.f0, by omega, by rw [Int.natCast_add]; rfl, ⟨?_⟩, ⟨?_⟩, ⟨?_⟩⟩, by simp only [intOf]; omega⟩
        · rw [HTK.out, List.map_append, foldR_append, ← hR.out]; rfl
        · exact blk_set (blk_set (blk_set (blk_set HP3.out 0 _) 1 _) 2 _) 3 _
        · exact (((hbz.setCell (p := ⟨W.heap.size, 0, none⟩) (Nat.le_refl _) _).setCell (p := ⟨W.heap.size, 1, none⟩) (Nat.le_refl _) _).setCell (p := ⟨W.heap.size, 2, none⟩) (Nat.le_refl _) _).setCell (p := ⟨W.heap.size, 3, none⟩) (Nat.le_refl _) _
      · have hjl' : ¬ (j : Int) < (m : Int) := by omega
        have hjm : j = m := by omega
        subst hjm
        have hLL := Aside0.mk (leavesL_length l wd pre)
        generalize hLs : leavesL l wd pre = L at HN HM hLL
        clear hLs
        have hws : W.heap.size < wr.heap.size := blk_lt hP.out
        have h3 : w.heap.size + 3 ≤ W.heap.size := by have := blk_lt (HKP.out.2.trans hD1); omega
        have hbb : Below W.heap.size W wr := Hbb.out.trans hBz.out
        have hO2 : wr.heap[w.heap.size]? = some (.cells #[v] 131 (0, 0)) := (hbb.block _ (by omega)).trans HO.out
        have aO : Kd.N (kN 0) 125 wr (w.heap.size + 3) (packOk P0 w wr) v L := packI_ahead HN.out hbb
        have aP : Kd.FK (kN 0) wr (fun k => k = W.heap.size ∨ (P0 k ∧ k < w.heap.size)) (⟨rect, y, []⟩ : S74) [.pointer (some ⟨W.heap.size, 0, none⟩)] :=
          leaf_mkF (by rw [hyl]; exact hP.out) (.inl rfl) (by rw [hyl]; exact Nat.le_refl _) (Kd.F_mono (Kd.F_step HF.out (fun k hk hlt => hbb.block k hlt)) (fun _ hk => .inr hk))
        have aQ : ∀ k, (k = W.heap.size ∨ (P0 k ∧ k < w.heap.size)) → packOk P0 w wr k ∧ some k ≠ v.ownBlock := by
          rintro k (rfl | hk)
          · exact ⟨.inr ⟨by omega, _, hP.out, rfl⟩, fun e => by have := Kd.N_lt HN.out _ e.symm; omega⟩
          · exact ⟨.inl hk, fun e => by have := Kd.N_base HN.out _ e.symm; have := hk.2; omega⟩
        have hyE : (⟨rect, y, []⟩ : S74) = leafP y := by
          unfold leafP around
          have e3 := hR.out
          rw [← hyl, List.take_length] at e3
          rw [e3]
          congr 2
          rw [← HRC.out]
          cases y with
          | nil => simp at hy0
          | cons a y => rfl
        have aL : (L.length + 1) * 8 ≤ 140737488355328 := by have := HLEN.out; have := hLL.out; omega
        have aK : KpB (w.heap.size + 1) (w.heap.size + 1 + 1) W1 wr := ⟨(hbb.block _ (by omega)).trans HKP.out.1, (hbb.block _ (by omega)).trans HKP.out.2⟩
        have aB : Below w.heap.size w wr := HB.out.trans (hbb.mono HB.out.size)
        have aKO : KeepsOthers W wr := ⟨hbb.size, fun k o hk _ => (hbb.block k (blk_lt hk)).trans hk⟩
        have aV : ∀ (j : Nat) (o : Obj), v.ownBlock = some j → wr.heap[j]? = some o → o.isCells = true := fun j o he ho => by
          obtain ⟨cells, hc⟩ := Kd.N_typed aO j he
          rw [hc] at ho
          cases ho
          rfl
        have cO := box_cell hO2
        have AO := Aside0.mk aO
        have AP := Aside0.mk aP
        have AQ := Aside0.mk aQ
        have AE := Aside0.mk hyE
        have AL := Aside0.mk aL
        have AK := Aside0.mk aK
        have AB := Aside0.mk aB
        have AKO := Aside0.mk aKO
        have AV := Aside0.mk aV
        have HO2 := Aside0.mk hO2
        have h3w : w.heap.size + 3 ≤ wr.heap.size := by omega
        clear aO aP aQ hyE aL aK aB aKO aV hO2 hbb
        gi_wp2_with (gi_at_builtin; refine N_append_own_in (kN 0) (w0 := wr) (w.heap.size + 3) rfl (.tmp 38) (.tmp 40) 131 125 (.pointer none) 8 rfl Try.underlying131 info125 rfl (by decide) (by decide) v L (⟨rect, y, []⟩ : S74) [.pointer (some ⟨W.heap.size, 0, none⟩)] (packOk P0 w wr) (fun k => k = W.heap.size ∨ (P0 k ∧ k < w.heap.size)) rfl rfl AP.out AQ.out AO.out (Below.refl _ _) h3w AL.out ?_; intro v1 w1 HN' HB' hg'; obtain ⟨A1, c1, rfl⟩ := Kd.N_slice HN'; have HN2 := Aside0.mk HN'; have HB2 := Aside0.mk HB'; have HG2 := Aside0.mk hg'; have cO1 : w1.cell? ⟨w.heap.size, 0, none⟩ = some v := box_cell ((HB'.block _ (by omega)).trans HO2.out); have fO1 : w1.frozen? ⟨w.heap.size, 0, none⟩ = false := blk_frozen ((HB'.block _ (by omega)).trans HO2.out) 0; clear HN' HB' hg')
        have hst := packI_store HO2.out HN2.out HB2.out HG2.out AK.out AB.out h3w
        rw [List.length_append, List.length_singleton, AE.out, ← HM.out] at hst
        refine ⟨(AKO.out.trans (KeepsOthers.of_grownBy HG2.out AV.out)).trans (KeepsOthers.setCell _ _ _), ?_, hst⟩
        obtain ⟨_, _, _, hk, _⟩ := hst
        exact ⟨hk.1.trans HKP.out.1.symm, hk.2.trans HKP.out.2.symm⟩
  case done =>
    rintro D ys W hD hys ⟨v, hO, hN, hKp, hB⟩ hKd
    obtain ⟨A1, c1, rfl⟩ := Kd.N_slice hN
    have cO := box_cell hO
    have HE := Aside0.mk (packI_done (o' := .deferred none) (by omega) hD1 ⟨_, hO, hN, hKp, hB⟩ hD hKd rfl hO)
    clear hN hB hKp hO
    gi_wp2
    refine ⟨by simp, .inl ⟨_, _, rfl, run_takeDeferred hKd, ?_⟩⟩
    refine ⟨_, results_tmp rfl _ _ _, _, rfl, ?_⟩
    rw [← leavesL_all (by omega) hys]
    exact HE.out
  case stop =>
    rintro D c pre W _ _ h _
    exact h.elim
end Go.Proofs.Ytdcelpppgbmlaaa.P
