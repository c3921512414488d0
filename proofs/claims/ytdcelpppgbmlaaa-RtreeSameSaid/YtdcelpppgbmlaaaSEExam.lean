/- rtree.examined: the iterator over the nodes that a search examines. -/
import Derived.Test.YtdcelpppgbmlaaaSMR31
import Derived.Test.YtdcelpppgbmlaaaSERabove
import Derived.Laws.EntriesVeiled
import Derived.Test.YtdcelpppgbmlaaaSPRegiona
namespace Go.Proofs.Ytdcelpppgbmlaaa.P
open Go.RowKit Go.Shelf Go.Proofs.YtdcelpppgbmlaaaW.PrintWords Go.Proofs.YtdcelpppgbmlaaaW.PrintLast Go.Proofs.YtdcelpppgbmlaaaW.PrintMore
set_option linter.unusedSimpArgs false
set_option linter.unusedVariables false
attribute [local go_sem] Oper.semAt_some
abbrev nodeV (b : Nat) : Value := .pointer (some ⟨b, 0, none⟩)
abbrev NodeAt (w0 : World) (M : Nat) := {t : Nat × Nat × S74 // (kN t.2.1).K w0 t.2.2 [nodeV t.1] ∧ t.2.2.f1.length ≤ M}
def KpE (B : Nat) (W W' : World) : Prop := Below B W W' ∧ ∀ (k : Nat) (cs : Array Value) (t : TypeId) (fr : Nat × Nat), W.heap[k]? = some (.cells cs t fr) → t ≠ 3 → t ≠ 28 → W'.heap[k]? = W.heap[k]?
theorem KpE.refl (B : Nat) (W : World) : KpE B W W := ⟨Below.refl _ _, fun _ _ _ _ _ _ _ => rfl⟩
theorem KpE.trans {B : Nat} {A C D : World} (h : KpE B A C) (k : KpE B C D) : KpE B A D :=
  ⟨h.1.trans k.1, fun i cs t fr hi h3 h28 => (k.2 i cs t fr ((h.2 i cs t fr hi h3 h28).trans hi) h3 h28).trans (h.2 i cs t fr hi h3 h28)⟩
theorem KpE.book {B : Nat} {w : World} (hB : B ≤ w.heap.size) (W : World) (l : Nat) (o o' : Obj) (hl : w.heap.size ≤ l) (h : W.heap[l]? = some o) (hc : o.isCells = false) (hw : o.isWalk = false) : KpE B W (W.putObj l o') :=
  ⟨belowK_b hB W l o o' hl h hc hw, fun k cs t fr hk _ _ => World.putObj_heap_other (fun e => by rw [e, h] at hk; cases hk; cases hc)⟩
theorem KpE.below {B : Nat} {W W' : World} (hB : B ≤ W.heap.size) (h : Below W.heap.size W W') : KpE B W W' :=
  ⟨h.mono hB, fun k cs t fr hk _ _ => h.block k (blk_lt hk)⟩
theorem KpE.at {B : Nat} {W W' : World} (h : KpE B W W') {k : Nat} {cs : Array Value} {t : TypeId} {fr : Nat × Nat} (hk : W.heap[k]? = some (.cells cs t fr)) (h3 : t ≠ 3) (h28 : t ≠ 28) : W'.heap[k]? = some (.cells cs t fr) := (h.2 k cs t fr hk h3 h28).trans hk
theorem grown_of_below {W W' : World} (h : Below W.heap.size W W') : W.grownBy W' none := ⟨h.os, h.tape, h.output, h.size, fun k hk _ => h.block k hk⟩
theorem abides_below {β : Type} {B : Nat} {J : β → World → Prop} (h : AbidesFrom B J) {s : β} {W W' : World} (hs : J s W) (hb : Below W.heap.size W W') : J s W' := h s W W' none hs (grown_of_below hb) (fun r e => by cases e)
theorem yield_any {m m' : Nat} {P : Program} {l : Nat} {args : Array Value} {W : World} {R : Ending → World → Prop} (h : YieldAt Fence.wide m P l args W R) : YieldAt Fence.wide m' P l args W R := by
  obtain ⟨fn, tmps, assign, body, hy, hR⟩ := h
  exact ⟨fn, tmps, assign, body, hy, hR.1, fun c cs _ => hR.2 c cs (room_wide _)⟩
theorem oper_wide {n : Nat} {P : Program} {o : Oper} {a : Act} {w : World} {next : Act → World → Prop} {Q : Exit → Act → World → Prop} (hd : ∀ c, o.op ≠ .defer c) (h : o.wp P a w next Q) : o.wpIn Fence.wide n P a w next Q := by
  refine ⟨fun _ _ => trivial, ?_⟩
  rw [Oper.semAt_plain Fence.wide _ _ hd]
  unfold Oper.wp at h
  generalize (execOp a.eval o).run P w = r at h
  cases r with
  | ok x w' =>
    cases x with
    | value v => exact h
    | skip => exact h
    | defer d => exact h
    | enter f args => exact ⟨fun hh => by simp [Fence.wide] at hh, callsIn_wide.2 h⟩
    | row row args => exact ⟨fun hh => by simp [Fence.wide] at hh, fun c cs _ => let ⟨v, w'', r, s⟩ := h c cs; ⟨v, w'', r, stepsIn_wide.2 s⟩⟩
    | _ => exact h.elim
  | halt q w' => cases q <;> exact h
theorem wpAny_wide {n : Nat} {P : Program} {md : Region.Mode} {ops : Array Oper} {Q : Exit → Act → World → Prop} (hd : ∀ (i : Nat) (o : Oper) c, ops[i]? = some o → o.op ≠ .defer c) (hno : ¬ LetsOut Q) : ∀ (fuel : Nat) (listed : Array Bool) (a : Act) (w : World), wpAny P md ops Q fuel listed a w → wpAnyIn Fence.wide n P md ops Q fuel listed a w
  | 0, _, _, _, h => h
  | fuel + 1, listed, a, w, h => ⟨h.1, fun i hi => by
    have h1 := h.2 i hi
    unfold wpOp at h1
    unfold wpOpIn
    cases ho : ops[i]? with
    | none => rw [ho] at h1; exact wpAny_wide hd hno fuel _ a w h1
    | some o =>
      rw [ho] at h1
      simp only at h1 ⊢
      split
      · rename_i hw
        rw [if_pos hw] at h1
        rcases h1 with h1 | h1
        · refine oper_wide (hd i o · ho) ?_
          exact Oper.wp_mono (fun a' w' h' => wpAny_wide hd hno fuel _ a' w' h') h1
        · exact absurd h1.2 hno
      · rename_i hw
        rw [if_neg hw] at h1
        exact ⟨fun _ _ => trivial, wpAny_wide hd hno fuel _ _ w h1⟩⟩
theorem start_wide {n : Nat} {P : Program} {ops : Array Oper} {Q : Exit → Act → World → Prop} {S : World → Prop} {ds : List Nat} {id m : Nat} {a : Act} {w : World} (L : Array Bool) (hm : P.follows .mixedOrders = true) (hn : ops.size = m) (hl : Array.replicate m false = L) (hS : S w.drew)
    (hd : ∀ (i : Nat) (o : Oper) c, ops[i]? = some o → o.op ≠ .defer c) (hno : ¬ LetsOut Q) (h : S w.drew → wpAnyLast P .any ops Q S ds m L a w.drew) : (Code.region id ops true).wpIn Fence.wide n P Q a w := by
  subst hn
  subst hl
  exact wpIn_region_any hm (wpAny_wide hd hno _ _ _ _ (wpAny_of_last _ _ _ _ (h hS)))
theorem goesC_ {P : Program} {ops : Array Oper} {Q : Exit → Act → World → Prop} {oi : Oper} {N : Option Tmp} {a : Act} {w : World} {K : Act → World → Prop} {t : Tmp} {g : FuncId} {caps : Array Value} {os_ : Array Operand} {ts : Array TypeId} (hen : ∀ (args : Array Value) (w : World), (callFunc g args).run P w = .ok (.enter g args) w) (args : Array Value)
    (hw : Region.wanted oi (yielded ops a.tmps) = true) (hN : oi.dst = N) (hop : oi.op = .call { callee := .value (.tmp t), args := os_, argTypes := ts }) (hv : a.eval (.tmp t) = .func (.func g) #[] caps) (hargs : os_.map a.eval ++ caps = args)
    (h : Calls P g args w fun e w' => ∃ v, e = .returned v ∧ K (a.put N v) w') : if Region.wanted oi (yielded ops a.tmps) = true then Oper.wp P oi a w K Q else K (a.put N undef) w := by
  refine call_ g args hw hN ?_ h
  unfold execOp
  simp [hop, resolve, Deferred.ofValue, invoke, hv, hargs, hen]
structure Bx (l By Br Bv : Nat) (r : S41) (W : World) : Prop where
  y : W.heap[By]? = some (.cells #[.func (.yield l) #[] #[]] 184 (0, 0))
  r : W.heap[Br]? = some (.cells #[.int .i64 r.f0.f0, .int .i64 r.f0.f1, .int .i64 r.f1.f0, .int .i64 r.f1.f1] 41 (0, 0))
  v : W.heap[Bv]? = some (.cells #[.func (.func 169) #[] #[.pointer (some ⟨By, 0, none⟩), .pointer (some ⟨Br, 0, none⟩), .pointer (some ⟨Bv, 0, none⟩)]] 184 (0, 0))
theorem Bx.kept {l By Br Bv B : Nat} {r : S41} {W W' : World} (h : Bx l By Br Bv r W) (k : KpE B W W') : Bx l By Br Bv r W' := ⟨k.at h.y (by decide) (by decide), k.at h.r (by decide) (by decide), k.at h.v (by decide) (by decide)⟩
theorem Bx.below {l By Br Bv : Nat} {r : S41} {W W' : World} (h : Bx l By Br Bv r W) (k : Below W.heap.size W W') : Bx l By Br Bv r W' := ⟨blk_below h.y k, blk_below h.r k, blk_below h.v k⟩
def BoxMax (M : Nat) : Nat → S74 → Prop
  | 0, n => n.f1.length ≤ M
  | d + 1, n => n.f1.length ≤ M ∧ n.f2.length ≤ M ∧ ∀ k ∈ n.f2, BoxMax M d k
theorem BoxMax.here {M : Nat} : ∀ {d : Nat} {n : S74}, BoxMax M d n → n.f1.length ≤ M
  | 0, _, h => h
  | _ + 1, _, h => h.1
theorem BoxMax.kids {M : Nat} : ∀ {d : Nat} {n : S74}, Uni d n → BoxMax M d n → n.f2.length ≤ M
  | 0, _, h, _ => by rw [h.1]; exact Nat.zero_le _
  | _ + 1, _, _, h => h.2.1
theorem boxmax_of {M : Nat} : ∀ {d : Nat} {n : S74}, Uni d n → (boxesOf d n).length ≤ M → BoxMax M d n
  | 0, _, _, h => h
  | d + 1, n, hu, h => by
    rw [boxesOf, length_flatMap_sum] at h
    refine ⟨by rw [hu.1]; exact Nat.zero_le _, Nat.le_trans ?_ h, fun k hk => boxmax_of (hu.2.2.2 k hk) (Nat.le_trans (le_sum (List.mem_map.2 ⟨k, hk, rfl⟩)) h)⟩
    have : ∀ (l : List S74), (∀ k ∈ l, Uni d k) → l.length ≤ (l.map fun a => (boxesOf d a).length).sum := by
      intro l
      induction l with
      | nil => intro _; exact Nat.le_refl _
      | cons a l ih =>
        intro hl
        have h1 := List.length_pos_iff.2 (hl a List.mem_cons_self).ne
        have h2 := ih fun k hk => hl k (List.mem_cons_of_mem _ hk)
        rw [List.length_cons, List.map_cons, List.sum_cons]
        omega
    exact this n.f2 hu.2.2.2
theorem rov_eq (a b : S41) : region_Overlaps.f a.f0.f0 a.f0.f1 a.f1.f0 a.f1.f1 b.f0.f0 b.f0.f1 b.f1.f0 b.f1.f1 = some (decide (Ovr a b)) := by
  have hv : ∀ c : S41, region_valid.f c.f0.f0 c.f0.f1 c.f1.f0 c.f1.f1 = some (decide (SndR c)) := fun c => by
    unfold region_valid.f SndR
    rw [pvalid_eq, pvalid_eq]
    by_cases h : Vld c.f0 <;> simp [h]
  have ho : ∀ p q : S33, period_Overlaps.f p.f0 p.f1 q.f0 q.f1 = some (decide (Ovp p q)) := fun p q => by
    unfold period_Overlaps.f Ovp
    rw [pvalid_eq, pvalid_eq]
    by_cases h1 : Vld p <;> by_cases h2 : Vld q <;> by_cases h3 : p.f0 < q.f1 <;> simp [h1, h2, h3]
  unfold region_Overlaps.f
  rw [hv, hv, ho, ho]
  unfold Ovr Ovp SndR
  by_cases h1 : Vld a.f0 <;> by_cases h2 : Vld a.f1 <;> by_cases h3 : Vld b.f0 <;> by_cases h4 : Vld b.f1 <;> by_cases h5 : a.f0.f0 < b.f0.f1 ∧ b.f0.f0 < a.f0.f1 <;> simp [h1, h2, h3, h4, h5]
theorem visitL_open (r : S41) {d : Nat} {x : S74} (hu : Uni d x) : visitL r d x = x :: (x.f2.filter fun k => decide (Ovr k.f0 r)).flatMap (visitL r (d - 1)) := by
  cases d with
  | zero => rw [hu.1]; rfl
  | succ d => rfl
theorem at_kNA {d : Nat} {w : World} {A : Option Addr} {n : Nat} {l : List S74} (h : Kd.C (kN d) w A n l) (i : Nat) (hi : i < l.length) (hn : i < n) : ∃ ad b, A = some ad ∧ w.cell? (ad.add i) = some (nodeV b) ∧ (kN d).K w l[i] [nodeV b] ∧
    ∃ A4 A5 c4 c5, w.heap[b]? = some (.cells #[.int .i64 l[i].f0.f0.f0, .int .i64 l[i].f0.f0.f1, .int .i64 l[i].f0.f1.f0, .int .i64 l[i].f0.f1.f1, .slice A4 l[i].f1.length c4, .slice A5 l[i].f2.length c5] 139 (0, 0)) := by
  obtain ⟨ad, cs, he, hcl, hK, hcc⟩ := Kd.C_get h z74 (i : Int) (by omega) (by omega)
  rw [Int.toNat_natCast] at hK hcc
  rw [kN_sz] at hcc
  rw [show l.getD i z74 = l[i] by simp [List.getD_eq_getElem?_getD, List.getElem?_eq_getElem hi]] at hK
  obtain ⟨b, A4, c4, A5, c5, rfl, h1, h2, h3, h4, h5⟩ := kN_open hK
  have := hcc 0 _ rfl
  exact ⟨ad, b, he, by simpa using this, hK, A4, A5, c4, c5, h1⟩
abbrev VisitOk (w0 : World) (r : S41) (l By Br Bv N M : Nat) (J Jx : List (NodeAt w0 M) → World → Prop) (d : Nat) : Prop :=
  ∀ (x : S74) (b : Nat), (kN d).K w0 x [nodeV b] → Uni d x → BoxMax M d x → ∀ (pre : List (NodeAt w0 M)) (W : World), pre.length + visitsOf r d x ≤ N → Bx l By Br Bv r W → Below w0.heap.size w0 W → J pre W →
    CallsIn Fence.wide 6 Try.prog 169 #[nodeV b, .pointer (some ⟨By, 0, none⟩), .pointer (some ⟨Br, 0, none⟩), .pointer (some ⟨Bv, 0, none⟩)] W fun e W' =>
      ∃ bb : Bool, e = .returned (.bool bb) ∧ ((bb = true ∧ ∃ ys : List (NodeAt w0 M), ys.map (·.1.2.2) = visitL r d x ∧ J (pre ++ ys) W' ∧ Bx l By Br Bv r W' ∧ Below w0.heap.size w0 W') ∨ (bb = false ∧ ∃ pre', Jx pre' W'))
set_option maxRecDepth 100000 in
set_option maxHeartbeats 4000000 in
theorem visit_step (w0 : World) (r : S41) (l By Br Bv N M : Nat) (hM1 : M ≤ 1000000) (J Jx : List (NodeAt w0 M) → World → Prop) (B : Nat) (hAb : AbidesFrom B J)
    (hY : ∀ (pre : List (NodeAt w0 M)) (x : NodeAt w0 M) (W : World), J pre W → pre.length < N → YieldAt Fence.wide 5 Try.prog l #[nodeV x.1.1] W fun e W' =>
      (e = .returned (.bool true) ∧ J (pre ++ [x]) W' ∧ KpE w0.heap.size W W') ∨ (e = .returned (.bool false) ∧ Jx (pre ++ [x]) W'))
    (d : Nat) (ih : ∀ e, d = e + 1 → VisitOk w0 r l By Br Bv N M J Jx e) : VisitOk w0 r l By Br Bv N M J Jx d := by
  intro x b hK hu hm pre W hN hbx hb hJ
  refine callsIn_of_wp Try.func169 rfl trivial ?_ rfl
  simp only [Try.ntmps169, List.size_toArray, List.length_cons, List.length_nil, Nat.reduceAdd, Nat.reduceSub, Array.replicate_succ, Array.replicate_zero, List.push_toArray, List.append_toArray, List.nil_append, List.cons_append]
  have cy := box_cell hbx.y
  have hvp := visits_pos r d x
  have hvl := visitL_length r d x
  obtain ⟨nx, hnx1, hnx2⟩ : ∃ nx : NodeAt w0 M, nx.1.1 = b ∧ nx.1.2.2 = x := ⟨⟨(b, d, x), hK, hm.here⟩, rfl, rfl⟩
  obtain ⟨fn, tmps, assign, body, hy, hR⟩ := hY pre nx W hJ (by omega)
  rw [hnx1] at hy
  obtain ⟨b', A4, c4, A5, c5, hbe, hn0, _, _, hc5, hkids⟩ := kN_open hK
  obtain rfl : b = b' := by simpa [nodeV] using hbe
  have hkl := hm.kids hu
  have HV := Aside0.mk (visitL_open r hu)
  have HK := Aside0.mk hkids
  have HU := Aside0.mk hu
  have HM := Aside0.mk hm
  have HN := Aside0.mk (And.intro hN hvl)
  have HBX := Aside0.mk hbx
  have HI := Aside0.mk ih
  have HN0 := Aside0.mk hn0
  clear hkids hu hm hN hvl hvp hbx ih hbe hn0 hY
  gi_wp2
  refine hR.mono ?_
  clear hR hy cy
  rintro e W1 (⟨rfl, hJ1, hK1⟩ | ⟨rfl, hJx1⟩)
  · have hb1 := hb.trans hK1.1
    have hn1 : W1.heap[b]? = _ := (hb1.block b (blk_lt HN0.out)).trans HN0.out
    have c5' : W1.cell? ⟨b, 5, none⟩ = some (.slice A5 x.f2.length c5) := (blk_cell hn1 5).trans rfl
    have HBX1 := Aside0.mk (HBX.out.kept hK1)
    clear hn1 hK1
    gi_wp2
    have HJ1 := Aside0.mk hJ1
    have HB1 := Aside0.mk hb1
    clear hJ1 hb1 c5'
    gi_loopw [17] (fun i wr => ∃ (j : Nat) (ys : List (NodeAt w0 M)), j ≤ x.f2.length ∧ i = .int .i64 j ∧ Aside0 (ys.map (·.1.2.2) ++ ((x.f2.drop j).filter fun k => decide (Ovr k.f0 r)).flatMap (visitL r (d - 1)) = visitL r d x) ∧ Aside0 (J (pre ++ ys) wr) ∧ Aside0 (Bx l By Br Bv r wr) ∧ Aside0 (Below w0.heap.size w0 wr)) (fun i _ => x.f2.length - (intOf i).toNat)
    case atStart => exact ⟨0, [nx], Nat.zero_le _, rfl, ⟨by rw [HV.out]; simp [hnx2]⟩, HJ1, HBX1, HB1⟩
    case round =>
      clear HJ1 HB1 HBX1
      obtain ⟨j, ys, hj, rfl, hS, hJw, hBx, hBw⟩ := hrel
      by_cases hlt : j < x.f2.length
      · have hlt' : (j : Int) < (x.f2.length : Int) := by omega
        obtain ⟨e, he, hC0⟩ := HK.out (List.ne_nil_of_length_pos (by omega))
        obtain ⟨ad, bk, rfl, y0, hKk, B4, B5, d4, d5, hbk⟩ := at_kNA hC0 j hlt hlt
        replace y0 := (hBw.out.cell (World.block_lt_of_cell? w0 _ y0)).trans y0
        replace hbk := (hBw.out.block bk (blk_lt hbk)).trans hbk
        have hdrop : x.f2.drop j = x.f2[j] :: x.f2.drop (j + 1) := List.drop_eq_getElem_cons hlt
        have hmem : x.f2[j] ∈ x.f2 := List.getElem_mem hlt
        generalize x.f2[j] = q at hKk hbk hdrop hmem
        have z0 : wr.cell? ⟨bk, 0, none⟩ = some (.int .i64 q.f0.f0.f0) := (blk_cell hbk 0).trans rfl
        have z1 : wr.cell? ⟨bk, 1, none⟩ = some (.int .i64 q.f0.f0.f1) := (blk_cell hbk 1).trans rfl
        have z2 : wr.cell? ⟨bk, 2, none⟩ = some (.int .i64 q.f0.f1.f0) := (blk_cell hbk 2).trans rfl
        have z3 : wr.cell? ⟨bk, 3, none⟩ = some (.int .i64 q.f0.f1.f1) := (blk_cell hbk 3).trans rfl
        have t0 : wr.cell? ⟨Br, 0, none⟩ = some (.int .i64 r.f0.f0) := (blk_cell hBx.out.r 0).trans rfl
        have t1 : wr.cell? ⟨Br, 1, none⟩ = some (.int .i64 r.f0.f1) := (blk_cell hBx.out.r 1).trans rfl
        have t2 : wr.cell? ⟨Br, 2, none⟩ = some (.int .i64 r.f1.f0) := (blk_cell hBx.out.r 2).trans rfl
        have t3 : wr.cell? ⟨Br, 3, none⟩ = some (.int .i64 r.f1.f1) := (blk_cell hBx.out.r 3).trans rfl
        have HD := Aside0.mk (And.intro hdrop hmem)
        have HQ := Aside0.mk hKk
        clear hdrop hmem hKk hbk hC0
        subst he
        have HUK := Aside0.mk HU.out.2.2.2
        have HMK := Aside0.mk HM.out.2.2
        have hlen := congrArg List.length hS.out
        rw [List.length_append, List.length_map, HN.out.2] at hlen
        have HNN : Aside0 (x.f2.drop j = q :: x.f2.drop (j + 1) → Ovr q.f0 r → (pre ++ ys).length + visitsOf r e q ≤ N) := ⟨fun h1 h2 => by
          have h3 := HN.out.1
          rw [h1, List.filter_cons_of_pos (by simpa using h2), List.flatMap_cons, List.length_append, Nat.add_sub_cancel, visitL_length] at hlen
          rw [List.length_append]
          omega⟩
        clear hlen
        by_cases ho : Ovr q.f0 r
        · have hro : region_Overlaps.f q.f0.f0.f0 q.f0.f0.f1 q.f0.f1.f0 q.f0.f1.f1 r.f0.f0 r.f0.f1 r.f1.f0 r.f1.f1 = some true := by rw [rov_eq]; simp [ho]
          have HRO := Aside0.mk hro
          have HO := Aside0.mk ho
          clear hro ho
          gi_wp2
          have z0d : wr.drew.cell? ⟨bk, 0, none⟩ = _ := z0
          have z1d : wr.drew.cell? ⟨bk, 1, none⟩ = _ := z1
          have z2d : wr.drew.cell? ⟨bk, 2, none⟩ = _ := z2
          have z3d : wr.drew.cell? ⟨bk, 3, none⟩ = _ := z3
          have t0d : wr.drew.cell? ⟨Br, 0, none⟩ = _ := t0
          have t1d : wr.drew.cell? ⟨Br, 1, none⟩ = _ := t1
          have t2d : wr.drew.cell? ⟨Br, 2, none⟩ = _ := t2
          have t3d : wr.drew.cell? ⟨Br, 3, none⟩ = _ := t3
          have cvd : wr.drew.cell? ⟨Bv, 0, none⟩ = _ := box_cell hBx.out.v
          refine start_wide (m := 12) (S := fun w' => w'.cell? ⟨bk, 0, none⟩ = some (.int .i64 q.f0.f0.f0) ∧ w'.cell? ⟨bk, 1, none⟩ = some (.int .i64 q.f0.f0.f1) ∧ w'.cell? ⟨bk, 2, none⟩ = some (.int .i64 q.f0.f1.f0) ∧ w'.cell? ⟨bk, 3, none⟩ = some (.int .i64 q.f0.f1.f1) ∧ w'.cell? ⟨Br, 0, none⟩ = some (.int .i64 r.f0.f0) ∧ w'.cell? ⟨Br, 1, none⟩ = some (.int .i64 r.f0.f1) ∧ w'.cell? ⟨Br, 2, none⟩ = some (.int .i64 r.f1.f0) ∧ w'.cell? ⟨Br, 3, none⟩ = some (.int .i64 r.f1.f1) ∧ w'.cell? ⟨Bv, 0, none⟩ = some (.func (.func 169) #[] #[.pointer (some ⟨By, 0, none⟩), .pointer (some ⟨Br, 0, none⟩), .pointer (some ⟨Bv, 0, none⟩)])) (ds := [9]) #[false, false, false, false, false, false, false, false, false, false, false, false] (by kernel_rfl) rfl rfl ⟨z0d, z1d, z2d, z3d, t0d, t1d, t2d, t3d, cvd⟩ ?hd1 ?hno1 (fun hHeld => ?rest1)
          case hd1 =>
            intro i o c ho
            rcases i with _ | _ | _ | _ | _ | _ | _ | _ | _ | _ | _ | _ | i <;> first | (cases ho; intro h; cases h; done) | (simp at ho; done)
          case hno1 =>
            rintro ⟨_, _, bb, e, _⟩
            cases e
          refine pure_ (i := 0) (N := some 21) (v := ?_) (a' := ?_) #[true, false, false, false, false, false, false, false, false, false, false, false] rfl rfl (by kernel_rfl) (fun _ _ _ h => h) (Or.inl ⟨by rfl, ?_⟩) ?_ ?_
          rotate_left
          · intro w'
            go_simp
            with_reducible rfl
          rotate_left
          · simp only [Act.put, List.setIfInBounds_toArray, List.set_cons_zero, List.set_cons_succ, i64_w, i32_w]
            rfl
          refine pure_ (i := 1) (N := some 22) (v := ?_) (a' := ?_) #[true, true, false, false, false, false, false, false, false, false, false, false] rfl rfl (by kernel_rfl) (fun _ _ _ h => h) (Or.inl ⟨by rfl, ?_⟩) ?_ ?_
          rotate_left
          · intro w'
            go_simp
            with_reducible rfl
          rotate_left
          · simp only [Act.put, List.setIfInBounds_toArray, List.set_cons_zero, List.set_cons_succ, i64_w, i32_w]
            rfl
          refine pure_ (i := 2) (N := some 23) (v := ?_) (a' := ?_) #[true, true, true, false, false, false, false, false, false, false, false, false] rfl rfl (by kernel_rfl) (fun _ _ _ h => h) (Or.inl ⟨by rfl, ?_⟩) ?_ ?_
          rotate_left
          · intro w'
            go_simp
            with_reducible rfl
          rotate_left
          · simp only [Act.put, List.setIfInBounds_toArray, List.set_cons_zero, List.set_cons_succ, i64_w, i32_w]
            rfl
          refine take_ (i := 3) (N := some 24) (v := ?_) (a' := ?_) #[true, true, true, true, false, false, false, false, false, false, false, false] rfl rfl (by kernel_rfl) (fun _ _ _ h => h) (Or.inl ⟨by rfl, ?_⟩) hHeld ?_ ?_
          rotate_left
          · rintro w' ⟨s0, s1, s2, s3, s4, s5, s6, s7, s8⟩
            go_simp
            with_reducible rfl
          rotate_left
          · simp only [Act.put, List.setIfInBounds_toArray, List.set_cons_zero, List.set_cons_succ, i64_w, i32_w]
            rfl
          refine take_ (i := 4) (N := some 25) (v := ?_) (a' := ?_) #[true, true, true, true, true, false, false, false, false, false, false, false] rfl rfl (by kernel_rfl) (fun _ _ _ h => h) (Or.inl ⟨by rfl, ?_⟩) hHeld ?_ ?_
          rotate_left
          · rintro w' ⟨s0, s1, s2, s3, s4, s5, s6, s7, s8⟩
            go_simp
            with_reducible rfl
          rotate_left
          · simp only [Act.put, List.setIfInBounds_toArray, List.set_cons_zero, List.set_cons_succ, i64_w, i32_w]
            rfl
          refine one_ (i := 5) (N := some 26) #[true, true, true, true, true, true, false, false, false, false, false, false] rfl rfl (by kernel_rfl) (by decide) (fun K hK => ?_)
          refine goes_ Try.func77 (by kernel_rfl) rfl #[.agg #[.int .i64 q.f0.f0.f0, .int .i64 q.f0.f0.f1, .int .i64 q.f0.f1.f0, .int .i64 q.f0.f1.f1], .agg #[.int .i64 r.f0.f0, .int .i64 r.f0.f1, .int .i64 r.f1.f0, .int .i64 r.f1.f1]] (by rfl) rfl rfl (by simp only [List.map_toArray, List.map_cons, List.map_nil]; rfl) ?_
          with_reducible refine (region_Overlaps.calls _ _ _ _ _ _ _ _ _ _ HRO.out).mono ?_
          rintro e w3 ⟨rfl, hB3⟩
          refine ⟨_, rfl, ?_⟩
          have HB3 := Aside0.mk hB3
          clear hB3
          refine hK.out _ _ ⟨(pw_cell_below HB3.out z0d), (pw_cell_below HB3.out z1d), (pw_cell_below HB3.out z2d), (pw_cell_below HB3.out z3d), (pw_cell_below HB3.out t0d), (pw_cell_below HB3.out t1d), (pw_cell_below HB3.out t2d), (pw_cell_below HB3.out t3d), (pw_cell_below HB3.out cvd)⟩ (fun hHeld => ?_)
          clear hK K
          refine norm_ (a' := ?_) ?_ ?_
          rotate_left
          · show Act.put _ (some 26) _ = _
            simp only [Act.put, List.setIfInBounds_toArray, List.set_cons_zero, List.set_cons_succ, i64_w, i32_w]
            rfl
          refine pure_ (i := 6) (N := some 27) (v := ?_) (a' := ?_) #[true, true, true, true, true, true, true, false, false, false, false, false] rfl rfl (by kernel_rfl) (fun _ _ _ h => h) (Or.inl ⟨by rfl, ?_⟩) ?_ ?_
          rotate_left
          · intro w'
            go_simp
            with_reducible rfl
          rotate_left
          · simp only [Act.put, List.setIfInBounds_toArray, List.set_cons_zero, List.set_cons_succ, i64_w, i32_w]
            rfl
          refine pure_ (i := 8) (N := some 29) (v := ?_) (a' := ?_) #[true, true, true, true, true, true, true, false, true, false, false, false] rfl rfl (by kernel_rfl) (fun _ _ _ h => h) (Or.inl ⟨by rfl, ?_⟩) ?_ ?_
          rotate_left
          · intro w'
            go_simp
            with_reducible rfl
          rotate_left
          · simp only [Act.put, List.setIfInBounds_toArray, List.set_cons_zero, List.set_cons_succ, i64_w, i32_w]
            rfl
          refine take_ (i := 7) (N := some 28) (v := ?_) (a' := ?_) #[true, true, true, true, true, true, true, true, true, false, false, false] rfl rfl (by kernel_rfl) (fun _ _ _ h => h) (Or.inl ⟨by rfl, ?_⟩) hHeld ?_ ?_
          rotate_left
          · rintro w' ⟨s0, s1, s2, s3, s4, s5, s6, s7, s8⟩
            go_simp
            with_reducible rfl
          rotate_left
          · simp only [Act.put, List.setIfInBounds_toArray, List.set_cons_zero, List.set_cons_succ, i64_w, i32_w]
            rfl
          refine last_ (i := 9) (N := some 30) #[true, true, true, true, true, true, true, true, true, true, false, false] rfl rfl (by kernel_rfl) (by decide) (fun K hK => ?_)
          refine goesC_ (g := 169) (caps := #[.pointer (some ⟨By, 0, none⟩), .pointer (some ⟨Br, 0, none⟩), .pointer (some ⟨Bv, 0, none⟩)]) (enters_of Try.func169 (by kernel_rfl) rfl) #[nodeV bk, .pointer (some ⟨By, 0, none⟩), .pointer (some ⟨Br, 0, none⟩), .pointer (some ⟨Bv, 0, none⟩)] (by rfl) rfl rfl rfl (by simp only [List.map_toArray, List.map_cons, List.map_nil]; rfl) ?_
          have hbw3 : Aside0 (Below wr.heap.size wr w3) := ⟨(below_drew (Below.refl _ _)).trans HB3.out⟩
          with_reducible refine (callsIn_wide.1 (HI.out _ rfl q bk HQ.out (HUK.out _ HD.out.2) (HMK.out _ HD.out.2) (pre ++ ys) w3 (HNN.out HD.out.1 HO.out) (hBx.out.below hbw3.out) (hBw.out.trans (hbw3.out.mono hBw.out.size)) (abides_below hAb hJw.out hbw3.out))).mono ?_
          rintro e w4 ⟨bb, rfl, hpost⟩
          refine ⟨_, rfl, ?_⟩
          have HPO := Aside0.mk hpost
          clear hpost
          refine hK.out _ _ ?_
          clear hK K
          refine norm_ (a' := ?_) ?_ ?_
          rotate_left
          · show Act.put _ (some 30) _ = _
            simp only [Act.put, List.setIfInBounds_toArray, List.set_cons_zero, List.set_cons_succ, i64_w, i32_w]
            rfl
          refine pure_ (i := 10) (N := some 31) (v := ?_) (a' := ?_) #[true, true, true, true, true, true, true, true, true, true, true, false] rfl rfl (by kernel_rfl) (fun _ _ _ h => h) (Or.inl ⟨by rfl, ?_⟩) ?_ ?_
          rotate_left
          · intro w'
            go_simp
            with_reducible rfl
          rotate_left
          · simp only [Act.put, List.setIfInBounds_toArray, List.set_cons_zero, List.set_cons_succ, i64_w, i32_w]
            rfl
          refine pure_ (i := 11) (N := some 32) (v := ?_) (a' := ?_) #[true, true, true, true, true, true, true, true, true, true, true, true] rfl rfl (by kernel_rfl) (fun _ _ _ h => h) (Or.inl ⟨by rfl, ?_⟩) ?_ ?_
          rotate_left
          · intro w'
            go_simp
            with_reducible rfl
          rotate_left
          · simp only [Act.put, List.setIfInBounds_toArray, List.set_cons_zero, List.set_cons_succ, i64_w, i32_w]
            rfl
          refine done_ (by kernel_rfl) ?_

          rcases HPO.out with ⟨rfl, zs, hz, hJ4, hBx4, hB4⟩ | ⟨rfl, pre', hJx⟩
          · have HZ := Aside0.mk (And.intro hz (And.intro hJ4 (And.intro hBx4 hB4)))
            clear hz hJ4 hBx4 hB4 HPO
            gi_wp2
            refine ⟨⟨j + 1, ys ++ zs, hlt, by rw [Int.natCast_add]; rfl, ⟨?_⟩, ⟨by rw [← List.append_assoc]; exact HZ.out.2.1⟩, ⟨HZ.out.2.2.1⟩, ⟨HZ.out.2.2.2⟩⟩, by simp only [intOf]; omega⟩
            rw [List.map_append, HZ.out.1, List.append_assoc, ← hS.out, HD.out.1, List.filter_cons_of_pos (by simpa using HO.out), List.flatMap_cons]
            rfl
          · gi_wp2
            go_ret
            exact .inl ⟨rfl, _, hJx⟩
        · have hro : region_Overlaps.f q.f0.f0.f0 q.f0.f0.f1 q.f0.f1.f0 q.f0.f1.f1 r.f0.f0 r.f0.f1 r.f1.f0 r.f1.f1 = some false := by rw [rov_eq]; simp [ho]
          have HRO := Aside0.mk hro
          have HO := Aside0.mk ho
          clear hro ho
          gi_wp2
          have z0d : wr.drew.cell? ⟨bk, 0, none⟩ = _ := z0
          have z1d : wr.drew.cell? ⟨bk, 1, none⟩ = _ := z1
          have z2d : wr.drew.cell? ⟨bk, 2, none⟩ = _ := z2
          have z3d : wr.drew.cell? ⟨bk, 3, none⟩ = _ := z3
          have t0d : wr.drew.cell? ⟨Br, 0, none⟩ = _ := t0
          have t1d : wr.drew.cell? ⟨Br, 1, none⟩ = _ := t1
          have t2d : wr.drew.cell? ⟨Br, 2, none⟩ = _ := t2
          have t3d : wr.drew.cell? ⟨Br, 3, none⟩ = _ := t3
          have cvd : wr.drew.cell? ⟨Bv, 0, none⟩ = _ := box_cell hBx.out.v
          refine start_wide (m := 12) (S := fun w' => w'.cell? ⟨bk, 0, none⟩ = some (.int .i64 q.f0.f0.f0) ∧ w'.cell? ⟨bk, 1, none⟩ = some (.int .i64 q.f0.f0.f1) ∧ w'.cell? ⟨bk, 2, none⟩ = some (.int .i64 q.f0.f1.f0) ∧ w'.cell? ⟨bk, 3, none⟩ = some (.int .i64 q.f0.f1.f1) ∧ w'.cell? ⟨Br, 0, none⟩ = some (.int .i64 r.f0.f0) ∧ w'.cell? ⟨Br, 1, none⟩ = some (.int .i64 r.f0.f1) ∧ w'.cell? ⟨Br, 2, none⟩ = some (.int .i64 r.f1.f0) ∧ w'.cell? ⟨Br, 3, none⟩ = some (.int .i64 r.f1.f1) ∧ w'.cell? ⟨Bv, 0, none⟩ = some (.func (.func 169) #[] #[.pointer (some ⟨By, 0, none⟩), .pointer (some ⟨Br, 0, none⟩), .pointer (some ⟨Bv, 0, none⟩)])) (ds := []) #[false, false, false, false, false, false, false, false, false, false, false, false] (by kernel_rfl) rfl rfl ⟨z0d, z1d, z2d, z3d, t0d, t1d, t2d, t3d, cvd⟩ ?hd2 ?hno2 (fun hHeld => ?rest2)
          case hd2 =>
            intro i o c ho
            rcases i with _ | _ | _ | _ | _ | _ | _ | _ | _ | _ | _ | _ | i <;> first | (cases ho; intro h; cases h; done) | (simp at ho; done)
          case hno2 =>
            rintro ⟨_, _, bb, e, _⟩
            cases e
          refine pure_ (i := 0) (N := some 21) (v := ?_) (a' := ?_) #[true, false, false, false, false, false, false, false, false, false, false, false] rfl rfl (by kernel_rfl) (fun _ _ _ h => h) (Or.inl ⟨by rfl, ?_⟩) ?_ ?_
          rotate_left
          · intro w'
            go_simp
            with_reducible rfl
          rotate_left
          · simp only [Act.put, List.setIfInBounds_toArray, List.set_cons_zero, List.set_cons_succ, i64_w, i32_w]
            rfl
          refine pure_ (i := 1) (N := some 22) (v := ?_) (a' := ?_) #[true, true, false, false, false, false, false, false, false, false, false, false] rfl rfl (by kernel_rfl) (fun _ _ _ h => h) (Or.inl ⟨by rfl, ?_⟩) ?_ ?_
          rotate_left
          · intro w'
            go_simp
            with_reducible rfl
          rotate_left
          · simp only [Act.put, List.setIfInBounds_toArray, List.set_cons_zero, List.set_cons_succ, i64_w, i32_w]
            rfl
          refine pure_ (i := 2) (N := some 23) (v := ?_) (a' := ?_) #[true, true, true, false, false, false, false, false, false, false, false, false] rfl rfl (by kernel_rfl) (fun _ _ _ h => h) (Or.inl ⟨by rfl, ?_⟩) ?_ ?_
          rotate_left
          · intro w'
            go_simp
            with_reducible rfl
          rotate_left
          · simp only [Act.put, List.setIfInBounds_toArray, List.set_cons_zero, List.set_cons_succ, i64_w, i32_w]
            rfl
          refine take_ (i := 3) (N := some 24) (v := ?_) (a' := ?_) #[true, true, true, true, false, false, false, false, false, false, false, false] rfl rfl (by kernel_rfl) (fun _ _ _ h => h) (Or.inl ⟨by rfl, ?_⟩) hHeld ?_ ?_
          rotate_left
          · rintro w' ⟨s0, s1, s2, s3, s4, s5, s6, s7, s8⟩
            go_simp
            with_reducible rfl
          rotate_left
          · simp only [Act.put, List.setIfInBounds_toArray, List.set_cons_zero, List.set_cons_succ, i64_w, i32_w]
            rfl
          refine take_ (i := 4) (N := some 25) (v := ?_) (a' := ?_) #[true, true, true, true, true, false, false, false, false, false, false, false] rfl rfl (by kernel_rfl) (fun _ _ _ h => h) (Or.inl ⟨by rfl, ?_⟩) hHeld ?_ ?_
          rotate_left
          · rintro w' ⟨s0, s1, s2, s3, s4, s5, s6, s7, s8⟩
            go_simp
            with_reducible rfl
          rotate_left
          · simp only [Act.put, List.setIfInBounds_toArray, List.set_cons_zero, List.set_cons_succ, i64_w, i32_w]
            rfl
          refine one_ (i := 5) (N := some 26) #[true, true, true, true, true, true, false, false, false, false, false, false] rfl rfl (by kernel_rfl) (by decide) (fun K hK => ?_)
          refine goes_ Try.func77 (by kernel_rfl) rfl #[.agg #[.int .i64 q.f0.f0.f0, .int .i64 q.f0.f0.f1, .int .i64 q.f0.f1.f0, .int .i64 q.f0.f1.f1], .agg #[.int .i64 r.f0.f0, .int .i64 r.f0.f1, .int .i64 r.f1.f0, .int .i64 r.f1.f1]] (by rfl) rfl rfl (by simp only [List.map_toArray, List.map_cons, List.map_nil]; rfl) ?_
          with_reducible refine (region_Overlaps.calls _ _ _ _ _ _ _ _ _ _ HRO.out).mono ?_
          rintro e w3 ⟨rfl, hB3⟩
          refine ⟨_, rfl, ?_⟩
          have HB3 := Aside0.mk hB3
          clear hB3
          refine hK.out _ _ ⟨(pw_cell_below HB3.out z0d), (pw_cell_below HB3.out z1d), (pw_cell_below HB3.out z2d), (pw_cell_below HB3.out z3d), (pw_cell_below HB3.out t0d), (pw_cell_below HB3.out t1d), (pw_cell_below HB3.out t2d), (pw_cell_below HB3.out t3d), (pw_cell_below HB3.out cvd)⟩ (fun hHeld => ?_)
          clear hK K
          refine norm_ (a' := ?_) ?_ ?_
          rotate_left
          · show Act.put _ (some 26) _ = _
            simp only [Act.put, List.setIfInBounds_toArray, List.set_cons_zero, List.set_cons_succ, i64_w, i32_w]
            rfl
          refine pure_ (i := 6) (N := some 27) (v := ?_) (a' := ?_) #[true, true, true, true, true, true, true, false, false, false, false, false] rfl rfl (by kernel_rfl) (fun _ _ _ h => h) (Or.inl ⟨by rfl, ?_⟩) ?_ ?_
          rotate_left
          · intro w'
            go_simp
            with_reducible rfl
          rotate_left
          · simp only [Act.put, List.setIfInBounds_toArray, List.set_cons_zero, List.set_cons_succ, i64_w, i32_w]
            rfl
          refine pure_ (i := 7) (N := some 28) (v := undef) (a' := ?_) #[true, true, true, true, true, true, true, true, false, false, false, false] rfl rfl (by kernel_rfl) (fun _ _ _ h => h) (Or.inr ⟨by rfl, rfl⟩) ?_ ?_
          rotate_left
          · simp only [Act.put, List.setIfInBounds_toArray, List.set_cons_zero, List.set_cons_succ, i64_w, i32_w]
            rfl
          refine pure_ (i := 8) (N := some 29) (v := undef) (a' := ?_) #[true, true, true, true, true, true, true, true, true, false, false, false] rfl rfl (by kernel_rfl) (fun _ _ _ h => h) (Or.inr ⟨by rfl, rfl⟩) ?_ ?_
          rotate_left
          · simp only [Act.put, List.setIfInBounds_toArray, List.set_cons_zero, List.set_cons_succ, i64_w, i32_w]
            rfl
          refine pure_ (i := 9) (N := some 30) (v := undef) (a' := ?_) #[true, true, true, true, true, true, true, true, true, true, false, false] rfl rfl (by kernel_rfl) (fun _ _ _ h => h) (Or.inr ⟨by rfl, rfl⟩) ?_ ?_
          rotate_left
          · simp only [Act.put, List.setIfInBounds_toArray, List.set_cons_zero, List.set_cons_succ, i64_w, i32_w]
            rfl
          refine pure_ (i := 10) (N := some 31) (v := undef) (a' := ?_) #[true, true, true, true, true, true, true, true, true, true, true, false] rfl rfl (by kernel_rfl) (fun _ _ _ h => h) (Or.inr ⟨by rfl, rfl⟩) ?_ ?_
          rotate_left
          · simp only [Act.put, List.setIfInBounds_toArray, List.set_cons_zero, List.set_cons_succ, i64_w, i32_w]
            rfl
          refine pure_ (i := 11) (N := some 32) (v := ?_) (a' := ?_) #[true, true, true, true, true, true, true, true, true, true, true, true] rfl rfl (by kernel_rfl) (fun _ _ _ h => h) (Or.inl ⟨by rfl, ?_⟩) ?_ ?_
          rotate_left
          · intro w'
            go_simp
            with_reducible rfl
          rotate_left
          · simp only [Act.put, List.setIfInBounds_toArray, List.set_cons_zero, List.set_cons_succ, i64_w, i32_w]
            rfl
          refine done_ (by kernel_rfl) ?_

          gi_wp2
          have hbw3 : Below wr.heap.size wr w3 := (below_drew (Below.refl _ _)).trans HB3.out
          refine ⟨⟨j + 1, ys, hlt, by rw [Int.natCast_add]; rfl, ⟨?_⟩, ⟨abides_below hAb hJw.out hbw3⟩, ⟨hBx.out.below hbw3⟩, ⟨hBw.out.trans (hbw3.mono hBw.out.size)⟩⟩, by simp only [intOf]; omega⟩
          rw [← hS.out, HD.out.1, List.filter_cons_of_neg (by simpa using HO.out)]
      · have hlt' : ¬ (j : Int) < (x.f2.length : Int) := by omega
        gi_wp2
        go_ret
        first | refine .inr ⟨rfl, ys, ?_, hJw.out, hBx.out, hBw.out⟩ | refine ⟨_, rfl, .inl ⟨rfl, ys, ?_, hJw.out, hBx.out, hBw.out⟩⟩
        rw [← hS.out, List.drop_of_length_le (by omega)]
        simp
  · gi_wp2
    go_ret
    first | exact .inl ⟨rfl, _, hJx1⟩ | exact ⟨_, rfl, .inr ⟨rfl, _, hJx1⟩⟩
theorem visit_ok (w0 : World) (r : S41) (l By Br Bv N M : Nat) (hM1 : M ≤ 1000000) (J Jx : List (NodeAt w0 M) → World → Prop) (B : Nat) (hAb : AbidesFrom B J)
    (hY : ∀ (pre : List (NodeAt w0 M)) (x : NodeAt w0 M) (W : World), J pre W → pre.length < N → YieldAt Fence.wide 5 Try.prog l #[nodeV x.1.1] W fun e W' =>
      (e = .returned (.bool true) ∧ J (pre ++ [x]) W' ∧ KpE w0.heap.size W W') ∨ (e = .returned (.bool false) ∧ Jx (pre ++ [x]) W')) : ∀ d, VisitOk w0 r l By Br Bv N M J Jx d := by
  intro d
  induction d with
  | zero => exact visit_step w0 r l By Br Bv N M hM1 J Jx B hAb hY 0 (fun e he => by omega)
  | succ d ih => exact visit_step w0 r l By Br Bv N M hM1 J Jx B hAb hY (d + 1) (fun e he => by cases he; exact ih)
def rootK (W : World) (v : Value) : Option (Nat × S74) → Prop
  | none => v = .pointer none
  | some (d, x) => ∃ b, v = nodeV b ∧ (kN d).K W x [nodeV b]
def rtK (W : World) (v : Value) : RT → Prop
  | none => v = .pointer none
  | some (root, n, dp) => ∃ tb rv, v = .pointer (some ⟨tb, 0, none⟩) ∧ W.heap[tb]? = some (.cells #[rv, .int .i64 (n : Nat), .int .i64 (dp : Nat)] 127 (0, 0)) ∧ rootK W rv root
theorem rootK_below {W W' : World} {v : Value} {T : Option (Nat × S74)} (h : rootK W v T) (hb : Below W.heap.size W W') : rootK W' v T := by
  cases T with
  | none => exact h
  | some x =>
    obtain ⟨b, e, hK⟩ := h
    exact ⟨b, e, (kN x.1).K_below hb hK⟩
theorem rtK_below {W W' : World} {v : Value} {T : RT} (h : rtK W v T) (hb : Below W.heap.size W W') : rtK W' v T := by
  cases T with
  | none => exact h
  | some x =>
    obtain ⟨tb, rv, e, h1, h2⟩ := h
    exact ⟨tb, rv, e, blk_below h1 hb, rootK_below h2 hb⟩
def GoodT (M : Nat) (T : RT) : Prop := ∀ d x, rtRoot T = some (d, x) → Uni d x ∧ BoxMax M d x
def rtNodes (T : RT) (r : S41) : List S74 := match rtRoot T with
  | none => []
  | some (d, x) => if SndR r then visitL r d x else []
set_option maxRecDepth 100000 in
set_option maxHeartbeats 4000000 in
theorem exam1_calls (w0 : World) (v : Value) (T : RT) (hT : rtK w0 v T) (r : S41) (Bt Br N M : Nat) (hM1 : M ≤ 1000000) (hG : GoodT M T) (hN : rtVisits T r ≤ N) (l : Nat) (J Jx : List (NodeAt w0 M) → World → Prop) (W : World) (hb : Below w0.heap.size w0 W)
    (ht : W.heap[Bt]? = some (.cells #[v] 46 (0, 0))) (hr : W.heap[Br]? = some (.cells #[.int .i64 r.f0.f0, .int .i64 r.f0.f1, .int .i64 r.f1.f0, .int .i64 r.f1.f1] 41 (0, 0))) (hAb : AbidesFrom W.heap.size J)
    (hY : ∀ (pre : List (NodeAt w0 M)) (x : NodeAt w0 M) (W : World), J pre W → pre.length < N → YieldAt Fence.wide 5 Try.prog l #[nodeV x.1.1] W fun e W' =>
      (e = .returned (.bool true) ∧ J (pre ++ [x]) W' ∧ KpE w0.heap.size W W') ∨ (e = .returned (.bool false) ∧ Jx (pre ++ [x]) W')) (hJ : J [] W) :
    Calls Try.prog 168 #[.func (.yield l) #[] #[], .pointer (some ⟨Bt, 0, none⟩), .pointer (some ⟨Br, 0, none⟩)] W fun e W' => (∃ u, e = .returned u) ∧ ((∃ ys : List (NodeAt w0 M), ys.map (·.1.2.2) = rtNodes T r ∧ J ys W') ∨ (∃ pre', Jx pre' W')) := by
  have hmo : Try.prog.follows .mixedOrders = true := by kernel_rfl
  have ct : ∀ o, (W.alloc o).cell? ⟨Bt, 0, none⟩ = some v := fun o => box_cell (blk_alloc ht o)
  have r0 : ∀ o, (W.alloc o).cell? ⟨Br, 0, none⟩ = some (.int .i64 r.f0.f0) := fun o => (blk_cell (blk_alloc hr o) 0).trans rfl
  have r1 : ∀ o, (W.alloc o).cell? ⟨Br, 1, none⟩ = some (.int .i64 r.f0.f1) := fun o => (blk_cell (blk_alloc hr o) 1).trans rfl
  have r2 : ∀ o, (W.alloc o).cell? ⟨Br, 2, none⟩ = some (.int .i64 r.f1.f0) := fun o => (blk_cell (blk_alloc hr o) 2).trans rfl
  have r3 : ∀ o, (W.alloc o).cell? ⟨Br, 3, none⟩ = some (.int .i64 r.f1.f1) := fun o => (blk_cell (blk_alloc hr o) 3).trans rfl
  have hJa : ∀ W', Below W.heap.size W W' → J [] W' := fun W' h => abides_below hAb hJ h
  rcases T with _ | ⟨_ | ⟨d, x⟩, n, dp⟩
  · obtain rfl : v = .pointer none := hT
    have HJ := Aside0.mk (hJa _ (below_alloc (Below.refl W.heap.size W) (.cells #[.func (.yield l) #[] #[]] 184)))
    clear hJa hY hJ hAb hG hN
    go_enter Try.func168, Try.ntmps168
    go_wp2_with (fail)
    refine bodyPost_ret (results_none rfl _ _ _) rfl ?_
    exact ⟨⟨_, rfl⟩, .inl ⟨[], rfl, HJ.out⟩⟩
  · obtain ⟨tb, rv, rfl, h1, h2⟩ := hT
    obtain rfl : rv = .pointer none := h2
    have HJ := Aside0.mk (hJa _ (below_alloc (Below.refl W.heap.size W) (.cells #[.func (.yield l) #[] #[]] 184)))
    have h1W : W.heap[tb]? = _ := (hb.block tb (blk_lt h1)).trans h1
    have ctb : ∀ o, (W.alloc o).cell? ⟨tb, 0, none⟩ = some (.pointer none) := fun o => (blk_cell (blk_alloc h1W o) 0).trans rfl
    clear hJa hY hJ hAb hG hN
    go_enter Try.func168, Try.ntmps168
    go_wp2_with (fail)
    refine bodyPost_ret (results_none rfl _ _ _) rfl ?_
    exact ⟨⟨_, rfl⟩, .inl ⟨[], rfl, HJ.out⟩⟩
  · obtain ⟨tb, rv, rfl, h1, b, rfl, hK⟩ := hT
    have h1W : W.heap[tb]? = _ := (hb.block tb (blk_lt h1)).trans h1
    have ctb : ∀ o, (W.alloc o).cell? ⟨tb, 0, none⟩ = some (nodeV b) := fun o => (blk_cell (blk_alloc h1W o) 0).trans rfl
    by_cases hs : SndR r
    · have HRV : Aside0 (rtree_valid.f r.f0.f0 r.f0.f1 r.f1.f0 r.f1.f1 = some true) := ⟨by rw [rvalid_eq]; simp [hs]⟩
      have HE : Aside0 (rtNodes (some (some (d, x), n, dp)) r = visitL r d x) := ⟨by show (if SndR r then visitL r d x else []) = _; rw [if_pos hs]⟩
      have hN' : visitsOf r d x ≤ N := by
        have h_ : (if SndR r then visitsOf r d x else 0) ≤ N := hN
        rwa [if_pos hs] at h_
      obtain ⟨hU, hM⟩ := hG d x rfl
      have HV := Aside0.mk (fun By Bv => visit_ok w0 r l By Br Bv N M hM1 J Jx W.heap.size hAb hY d x b hK hU hM [])
      have HJa := Aside0.mk hJa
      have HN := Aside0.mk hN'
      have HT := Aside0.mk (fun o => blk_alloc ht o)
      have HR := Aside0.mk (fun o => blk_alloc hr o)
      have HB := Aside0.mk hb
      have H1 := Aside0.mk (fun o => blk_alloc h1W o)
      clear hJa hY hJ hAb hG hN hK h1 hs hN' hU hM ht hr h1W hb
      go_enter Try.func168, Try.ntmps168
      go_wp2_with (first | (go_at_call 160; refine (rtree_valid.calls _ _ _ _ _ _ HRV.out).mono ?_; rintro e w3 ⟨rfl, hB3⟩
                            have g3 := blk_below (HT.out _) hB3
                            have g4 := blk_below (H1.out _) hB3
                            have ct3 : ∀ o, (w3.alloc o).cell? ⟨Bt, 0, none⟩ = some _ := fun o => box_cell (blk_alloc g3 o)
                            have cb3 : ∀ o, (w3.alloc o).cell? ⟨tb, 0, none⟩ = some _ := fun o => (blk_cell (blk_alloc g4 o) 0).trans rfl
                            have HB3 := Aside0.mk hB3
                            clear hB3 g3 g4))
      obtain ⟨W5, hW5⟩ : ∃ W5, W5 = (w3.alloc (.cells #[.func (.func 169) #[] #[.pointer (some ⟨W.heap.size, 0, none⟩), .pointer (some ⟨Br, 0, none⟩), .pointer (some ⟨w3.heap.size, 0, none⟩)]] 184)) := ⟨_, rfl⟩
      rw [← hW5]
      have hlt3 : W.heap.size < w3.heap.size := by have h_ := HB3.out.size; rw [World.size_alloc] at h_; omega
      have gy := blk_below (blk_new W (.cells #[.func (.yield l) #[] #[]] 184)) HB3.out
      have gr := blk_below (HR.out (.cells #[.func (.yield l) #[] #[]] 184)) HB3.out
      have HBX : Aside0 (Bx l W.heap.size Br w3.heap.size r W5) := by
        rw [hW5]
        exact ⟨⟨blk_alloc gy _, blk_alloc gr _, blk_new w3 _⟩⟩
      have HBW : Aside0 (Below W.heap.size W W5) := by
        rw [hW5]
        exact ⟨((below_alloc (Below.refl W.heap.size W) _).trans (HB3.out.mono (by simp))).trans (below_alloc (Below.refl w3.heap.size w3) _ |>.mono (Nat.le_of_lt hlt3))⟩
      have HBXd : Aside0 (Bx l W.heap.size Br w3.heap.size r W5.drew) := ⟨⟨HBX.out.y, HBX.out.r, HBX.out.v⟩⟩
      have p0 : W5.drew.cell? ⟨w3.heap.size, 0, none⟩ = some (.func (.func 169) #[] #[.pointer (some ⟨W.heap.size, 0, none⟩), .pointer (some ⟨Br, 0, none⟩), .pointer (some ⟨w3.heap.size, 0, none⟩)]) := box_cell HBX.out.v
      have p1 : W5.drew.cell? ⟨Bt, 0, none⟩ = some (.pointer (some ⟨tb, 0, none⟩)) := by rw [hW5]; exact ct3 _
      have p2 : W5.drew.cell? ⟨tb, 0, none⟩ = some (nodeV b) := by rw [hW5]; exact cb3 _
      clear hW5 ct3 cb3 gy gr
      refine start_ (n := 6) (S := fun w' => w'.cell? ⟨w3.heap.size, 0, none⟩ = some (.func (.func 169) #[] #[.pointer (some ⟨W.heap.size, 0, none⟩), .pointer (some ⟨Br, 0, none⟩), .pointer (some ⟨w3.heap.size, 0, none⟩)]) ∧ w'.cell? ⟨Bt, 0, none⟩ = some (.pointer (some ⟨tb, 0, none⟩)) ∧ w'.cell? ⟨tb, 0, none⟩ = some (nodeV b)) (ds := [5]) #[false, false, false, false, false, false] (by kernel_rfl) rfl rfl ⟨p0, p1, p2⟩ (fun hHeld => ?_)
      refine take_ (i := 0) (N := some 20) (v := ?_) (a' := ?_) #[true, false, false, false, false, false] rfl rfl (by kernel_rfl) (fun _ _ _ h => h) (Or.inl ⟨by rfl, ?_⟩) hHeld ?_ ?_
      rotate_left
      · rintro w' ⟨s0, s1, s2⟩
        go_simp
        with_reducible rfl
      rotate_left
      · simp only [Act.put, List.setIfInBounds_toArray, List.set_cons_zero, List.set_cons_succ, i64_w, i32_w]
        rfl
      refine take_ (i := 1) (N := some 21) (v := ?_) (a' := ?_) #[true, true, false, false, false, false] rfl rfl (by kernel_rfl) (fun _ _ _ h => h) (Or.inl ⟨by rfl, ?_⟩) hHeld ?_ ?_
      rotate_left
      · rintro w' ⟨s0, s1, s2⟩
        go_simp
        with_reducible rfl
      rotate_left
      · simp only [Act.put, List.setIfInBounds_toArray, List.set_cons_zero, List.set_cons_succ, i64_w, i32_w]
        rfl
      refine pure_ (i := 2) (N := some 22) (v := ?_) (a' := ?_) #[true, true, true, false, false, false] rfl rfl (by kernel_rfl) (fun _ _ _ h => h) (Or.inl ⟨by rfl, ?_⟩) ?_ ?_
      rotate_left
      · intro w'
        go_simp
        with_reducible rfl
      rotate_left
      · simp only [Act.put, List.setIfInBounds_toArray, List.set_cons_zero, List.set_cons_succ, i64_w, i32_w]
        rfl
      refine pure_ (i := 3) (N := some 23) (v := ?_) (a' := ?_) #[true, true, true, true, false, false] rfl rfl (by kernel_rfl) (fun _ _ _ h => h) (Or.inl ⟨by rfl, ?_⟩) ?_ ?_
      rotate_left
      · intro w'
        go_simp
        with_reducible rfl
      rotate_left
      · simp only [Act.put, List.setIfInBounds_toArray, List.set_cons_zero, List.set_cons_succ, i64_w, i32_w]
        rfl
      refine take_ (i := 4) (N := some 24) (v := ?_) (a' := ?_) #[true, true, true, true, true, false] rfl rfl (by kernel_rfl) (fun _ _ _ h => h) (Or.inl ⟨by rfl, ?_⟩) hHeld ?_ ?_
      rotate_left
      · rintro w' ⟨s0, s1, s2⟩
        go_simp
        with_reducible rfl
      rotate_left
      · simp only [Act.put, List.setIfInBounds_toArray, List.set_cons_zero, List.set_cons_succ, i64_w, i32_w]
        rfl
      refine last_ (i := 5) (N := some 25) #[true, true, true, true, true, true] rfl rfl (by kernel_rfl) (by decide) (fun K hK => ?_)
      refine goesC_ (g := 169) (caps := #[.pointer (some ⟨W.heap.size, 0, none⟩), .pointer (some ⟨Br, 0, none⟩), .pointer (some ⟨w3.heap.size, 0, none⟩)]) (enters_of Try.func169 (by kernel_rfl) rfl) #[nodeV b, .pointer (some ⟨W.heap.size, 0, none⟩), .pointer (some ⟨Br, 0, none⟩), .pointer (some ⟨w3.heap.size, 0, none⟩)] (by rfl) rfl rfl rfl (by simp only [List.map_toArray, List.map_cons, List.map_nil]; rfl) ?_
      with_reducible refine (callsIn_wide.1 (HV.out W.heap.size w3.heap.size W5.drew (by rw [List.length_nil, Nat.zero_add]; exact HN.out) HBXd.out ((HB.out.trans (HBW.out.mono HB.out.size)).trans (below_drew (Below.refl _ _))) (HJa.out W5.drew (HBW.out.trans (below_drew (Below.refl _ _)))))).mono ?_
      rintro e w4 ⟨bb, rfl, hpost⟩
      refine ⟨_, rfl, ?_⟩
      have HPO := Aside0.mk hpost
      clear hpost
      refine hK.out _ _ ?_
      clear hK K
      refine norm_ (a' := ?_) ?_ ?_
      rotate_left
      · show Act.put _ (some 25) _ = _
        simp only [Act.put, List.setIfInBounds_toArray, List.set_cons_zero, List.set_cons_succ, i64_w, i32_w]
        rfl
      refine done_ (by kernel_rfl) ?_

      go_end0
      rcases HPO.out with ⟨rfl, zs, hz, hJ4, hBx4, hB4⟩ | ⟨rfl, pre', hJx⟩
      · exact ⟨⟨_, rfl⟩, .inl ⟨zs, hz.trans HE.out.symm, hJ4⟩⟩
      · exact ⟨⟨_, rfl⟩, .inr ⟨pre', hJx⟩⟩
    · have HRV : Aside0 (rtree_valid.f r.f0.f0 r.f0.f1 r.f1.f0 r.f1.f1 = some false) := ⟨by rw [rvalid_eq]; simp [hs]⟩
      have HE : Aside0 (rtNodes (some (some (d, x), n, dp)) r = []) := ⟨by show (if SndR r then visitL r d x else []) = []; rw [if_neg hs]⟩
      have HJa := Aside0.mk hJa
      clear hJa hY hJ hAb hG hN hK h1W h1 hs
      go_enter Try.func168, Try.ntmps168
      go_wp2_with (go_at_call 160; refine (rtree_valid.calls _ _ _ _ _ _ HRV.out).mono ?_; rintro e w3 ⟨rfl, hB3⟩; have HB3 := Aside0.mk hB3; clear hB3)
      refine bodyPost_ret (results_none rfl _ _ _) rfl ?_
      exact ⟨⟨_, rfl⟩, .inl ⟨[], HE.out.symm, HJa.out _ ((below_alloc (Below.refl W.heap.size W) _).trans (HB3.out.mono (by simp)))⟩⟩
end Go.Proofs.Ytdcelpppgbmlaaa.P
