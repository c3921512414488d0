/- region.combine's closure: one visit. -/
import Derived.Test.YtdcelpppgbmlaaaXEEach
import Derived.Test.YtdcelpppgbmlaaaXPSlices
namespace Go.Proofs.Ytdcelpppgbmlaaa.P
set_option linter.unusedSimpArgs false
set_option linter.unusedVariables false
open Go.RowKit Go.Sort Go.Shelf Go.Proofs.YtdcelpppgbmlaaaW.PrintWords Go.Proofs.YtdcelpppgbmlaaaW.PrintLast Go.Proofs.YtdcelpppgbmlaaaW.PrintMore
section
variable {P : Program} {ops : Array Oper} {Q : Exit → Act → World → Prop}
theorem goesF_ {oi : Oper} {N : Option Tmp} {a : Act} {w : World} {K : Act → World → Prop} {t : Tmp} {g : FuncId} {os_ : Array Operand} {ts : Array TypeId} (hen : ∀ (args : Array Value) (w : World), (callFunc g args).run P w = .ok (.enter g args) w) (args : Array Value)
    (hw : Region.wanted oi (yielded ops a.tmps) = true) (hN : oi.dst = N) (hop : oi.op = .call { callee := .value (.tmp t), args := os_, argTypes := ts }) (hv : a.eval (.tmp t) = .func (.func g) #[] #[]) (hargs : os_.map a.eval = args)
    (h : Calls P g args w fun e w' => ∃ v, e = .returned v ∧ K (a.put N v) w') : if Region.wanted oi (yielded ops a.tmps) = true then Oper.wp P oi a w K Q else K (a.put N undef) w := by
  refine call_ g args hw hN ?_ h
  unfold execOp
  simp [hop, resolve, Deferred.ofValue, invoke, hv, hargs, hen]
end
def setTo (n : Nat) (t : Int) (out : List S41) : List S41 := out.take (out.length - n) ++ (out.drop (out.length - n)).map fun r => ⟨r.f0, ⟨r.f1.f0, t⟩⟩
def visit (k : Nat) (K : Nat → List S33 → List S33 → Option (List S33)) (la lb : List S41) (p : S33) (s : Int × List S33 × List S41) : Option (Int × List S33 × List S41) :=
  (region_slice.f k la p.f0).bind fun x => (region_slice.f k lb p.f0).bind fun y => (K k x y).bind fun l =>
    if l.length = 0 then some s else if l.length < 1000000000 ∧ s.2.2.length + l.length < 1000000000 then
      (if s.1 = p.f0 then (api_Period.f k l s.2.1).bind fun e => if e = true then (if s.2.1.length ≤ s.2.2.length then some (p.f1, l, setTo s.2.1.length p.f1 s.2.2) else none) else some (p.f1, l, s.2.2 ++ l.map fun v => ⟨v, p⟩)
        else some (p.f1, l, s.2.2 ++ l.map fun v => ⟨v, p⟩)) else none
structure St (gK bO bA bB bT bL bU n1 : Nat) (vA vB : Value) (W : World) (F : Nat → Prop) (te : Int) (last : List S33) (out : List S41) : Prop where
  hO : W.heap[bO]? = some (.cells #[.func (.func gK) #[] #[]] 35 (0, 0))
  hA : W.heap[bA]? = some (.cells #[vA] 58 (0, 0))
  hB : W.heap[bB]? = some (.cells #[vB] 58 (0, 0))
  hT : W.heap[bT]? = some (.cells #[.int .i64 te] 3 (0, 0))
  hL : ∃ vL, W.heap[bL]? = some (.cells #[vL] 22 (0, 0)) ∧ Kd.R k33 33 W n1 F vL last
  hU : ∃ vU, W.heap[bU]? = some (.cells #[vU] 58 (0, 0)) ∧ Kd.R k41 41 W n1 F vU out
  fO : F bO
  fA : F bA
  fB : F bB
  fT : F bT
  fL : F bL
  fU : F bU
structure Fm (bU : Nat) (F : Nat → Prop) (W wr : World) : Prop where
  s : W.heap.size ≤ wr.heap.size
  m : ∀ b cs t, W.heap[b]? = some (.cells cs t (0, 0)) → t ≠ 41 → b ≠ bU → wr.heap[b]? = W.heap[b]?
  n : ∀ b, b < W.heap.size → ¬ F b → wr.heap[b]? = W.heap[b]?
theorem lt_of_heap {W : World} {b : Nat} {o : Obj} (h : W.heap[b]? = some o) : b < W.heap.size := (Array.getElem?_eq_some_iff.1 h).1
theorem Fm.refl (bU : Nat) (F : Nat → Prop) (W : World) : Fm bU F W W := ⟨Nat.le_refl _, fun _ _ _ _ _ _ => rfl, fun _ _ _ => rfl⟩
theorem Fm.below {bU : Nat} {F : Nat → Prop} {W wr w' : World} (h : Fm bU F W wr) (hb : Below wr.heap.size wr w') : Fm bU F W w' :=
  ⟨Nat.le_trans h.s hb.size, fun b cs t h1 h2 h3 => (hb.block b (Nat.lt_of_lt_of_le (lt_of_heap h1) h.s)).trans (h.m b cs t h1 h2 h3), fun b h1 h2 => (hb.block b (Nat.lt_of_lt_of_le h1 h.s)).trans (h.n b h1 h2)⟩
theorem Fm.grown {bU n1 : Nat} {F : Nat → Prop} {W wr w' : World} {v : Value} {xs : List S41} (h : Fm bU F W wr) (HR : Kd.R k41 41 wr n1 (fun b => F b ∨ W.heap.size ≤ b) v xs) (hg : wr.grownBy w' v.ownBlock) : Fm bU F W w' := by
  refine ⟨Nat.le_trans h.s hg.size, fun b cs t h1 h2 h3 => ?_, fun b h1 h2 => ?_⟩
  · have e := h.m b cs t h1 h2 h3
    exact (hg.block b (Nat.lt_of_lt_of_le (lt_of_heap h1) h.s) (Kd.R_ne HR (e.trans h1) (Ne.symm h2))).trans e
  · refine (hg.block b (Nat.lt_of_lt_of_le h1 h.s) fun he => ?_).trans (h.n b h1 h2)
    rcases HR.1 b he.symm with h3 | h3
    · exact h2 h3
    · omega
theorem Fm.cell {bU : Nat} {F : Nat → Prop} {W wr : World} (h : Fm bU F W wr) (fU : F bU) (u : Value) : Fm bU F W (wr.setCell ⟨bU, 0, none⟩ u) := by
  refine ⟨by simpa using h.s, fun b cs t h1 h2 h3 => ?_, fun b h1 h2 => ?_⟩
  · exact (Below.heap_setCell wr ⟨bU, 0, none⟩ u b h3).trans (h.m b cs t h1 h2 h3)
  · exact (Below.heap_setCell wr ⟨bU, 0, none⟩ u b (fun e => h2 (e ▸ fU))).trans (h.n b h1 h2)
theorem Fm.drew {bU : Nat} {F : Nat → Prop} {W wr : World} (h : Fm bU F W wr) : Fm bU F W wr.drew := ⟨h.s, h.m, h.n⟩
theorem ne_of_type {W : World} {a b s t : Nat} {cs ds : Array Value} (ha : W.heap[a]? = some (.cells cs s (0, 0))) (hb : W.heap[b]? = some (.cells ds t (0, 0))) (h : s ≠ t) : a ≠ b := by
  rintro rfl
  rw [ha] at hb
  injection hb with hb
  injection hb with _ hb
  exact h hb
theorem R_lower_ok {α : Type} {d : Kd α} {e base base' : Nat} {w : World} {v : Value} {xs : List α} {ok ok' : Nat → Prop} (h : d.R e w base ok v xs) (hb : base' ≤ base) (hok : ∀ k, base ≤ k → ok' k) : d.R e w base' ok' v xs :=
  Kd.R_lower (Kd.R_mono (Kd.R_bound h) fun k hk => hok k hk.2.1) hb
theorem St.done {gK bO bA bB bT bL bU n1 : Nat} {vA vB : Value} {W wX : World} {F : Nat → Prop} {te : Int} {last : List S33} {out : List S41} (hS : St gK bO bA bB bT bL bU n1 vA vB W F te last out) (hF : ∀ b, F b → b < W.heap.size) (hAU : bA ≠ bU) (hBU : bB ≠ bU) (hn1 : n1 ≤ W.heap.size) (hFn : ∀ b, F b → n1 ≤ b)
    (hm : Fm bU F W wX) (te' : Int) {vl vU : Value} {l : List S33} {out' : List S41} (hU : wX.heap[bU]? = some (.cells #[vU] 58 (0, 0))) (HRU : Kd.R k41 41 wX n1 (fun b => F b ∨ W.heap.size ≤ b) vU out') (HRl : Kd.R k33 33 wX n1 (fun b => F b ∨ W.heap.size ≤ b) vl l) (hB : Below n1 W wX) :
    ∃ F', St gK bO bA bB bT bL bU n1 vA vB ((wX.drew.setCell ⟨bL, 0, none⟩ vl).setCell ⟨bT, 0, none⟩ (.int .i64 te')) F' te' l out' ∧
      (∀ b, F' b → (F b ∨ W.heap.size ≤ b) ∧ b < ((wX.drew.setCell ⟨bL, 0, none⟩ vl).setCell ⟨bT, 0, none⟩ (.int .i64 te')).heap.size) ∧ (∀ b, b < W.heap.size → ¬ F b → ((wX.drew.setCell ⟨bL, 0, none⟩ vl).setCell ⟨bT, 0, none⟩ (.int .i64 te')).heap[b]? = W.heap[b]?) ∧
      Below n1 W ((wX.drew.setCell ⟨bL, 0, none⟩ vl).setCell ⟨bT, 0, none⟩ (.int .i64 te')) := by
  obtain ⟨hO, hA, hB', hT, ⟨vL, hL, _⟩, ⟨vU0, hU0, _⟩, fO, fA, fB, fT, fL, fU⟩ := hS
  have hTL : bT ≠ bL := ne_of_type hT hL (by decide)
  have hOL : bO ≠ bL := ne_of_type hO hL (by decide)
  have hOT : bO ≠ bT := ne_of_type hO hT (by decide)
  have hAL : bA ≠ bL := ne_of_type hA hL (by decide)
  have hAT : bA ≠ bT := ne_of_type hA hT (by decide)
  have hBL : bB ≠ bL := ne_of_type hB' hL (by decide)
  have hBT : bB ≠ bT := ne_of_type hB' hT (by decide)
  have hUL : bU ≠ bL := ne_of_type hU0 hL (by decide)
  have hUT : bU ≠ bT := ne_of_type hU0 hT (by decide)
  have hOU : bO ≠ bU := ne_of_type hO hU0 (by decide)
  have hTU : bT ≠ bU := ne_of_type hT hU0 (by decide)
  have hLU : bL ≠ bU := ne_of_type hL hU0 (by decide)
  have xO : wX.drew.heap[bO]? = some (.cells #[.func (.func gK) #[] #[]] 35 (0, 0)) := (hm.m bO _ 35 hO (by decide) hOU).trans hO
  have xA : wX.drew.heap[bA]? = some (.cells #[vA] 58 (0, 0)) := (hm.m bA _ 58 hA (by decide) hAU).trans hA
  have xB : wX.drew.heap[bB]? = some (.cells #[vB] 58 (0, 0)) := (hm.m bB _ 58 hB' (by decide) hBU).trans hB'
  have xT : wX.drew.heap[bT]? = some (.cells #[.int .i64 te] 3 (0, 0)) := (hm.m bT _ 3 hT (by decide) hTU).trans hT
  have xL : wX.drew.heap[bL]? = some (.cells #[vL] 22 (0, 0)) := (hm.m bL _ 22 hL (by decide) hLU).trans hL
  have xU : wX.drew.heap[bU]? = some (.cells #[vU] 58 (0, 0)) := hU
  have yT : (wX.drew.setCell ⟨bL, 0, none⟩ vl).heap[bT]? = some (.cells #[.int .i64 te] 3 (0, 0)) := blk_far xT hTL _
  refine ⟨fun b => (F b ∨ W.heap.size ≤ b) ∧ b < ((wX.drew.setCell ⟨bL, 0, none⟩ vl).setCell ⟨bT, 0, none⟩ (.int .i64 te')).heap.size, ⟨blk_far (blk_far xO hOL _) hOT _, blk_far (blk_far xA hAL _) hAT _, blk_far (blk_far xB hBL _) hBT _, (blk_set yT 0 _).trans rfl,
    ⟨vl, blk_far ((blk_set xL 0 _).trans rfl) (Ne.symm hTL) _, ?_⟩, ⟨vU, blk_far (blk_far xU hUL _) hUT _, ?_⟩, ?_, ?_, ?_, ?_, ?_, ?_⟩, fun b hb => hb, fun b hb hn => ?_, ?_⟩
  · have h1 : Kd.R k33 33 wX.drew n1 (fun b => F b ∨ W.heap.size ≤ b) vl l := Kd.R_move HRl (fun _ _ => rfl)
    have h2 := Kd.R_set (Kd.R_set h1 xL (by decide) 0 vl) yT (by decide) 0 (.int .i64 te')
    exact Kd.R_mono (Kd.R_bound h2) fun b hb => ⟨hb.1, hb.2.2.1⟩
  · have h1 : Kd.R k41 41 wX.drew n1 (fun b => F b ∨ W.heap.size ≤ b) vU out' := Kd.R_move HRU (fun _ _ => rfl)
    have h2 := Kd.R_set (Kd.R_set h1 xL (by decide) 0 vl) yT (by decide) 0 (.int .i64 te')
    exact Kd.R_mono (Kd.R_bound h2) fun b hb => ⟨hb.1, hb.2.2.1⟩
  · exact ⟨.inl fO, by simpa using Nat.lt_of_lt_of_le (hF _ fO) hm.s⟩
  · exact ⟨.inl fA, by simpa using Nat.lt_of_lt_of_le (hF _ fA) hm.s⟩
  · exact ⟨.inl fB, by simpa using Nat.lt_of_lt_of_le (hF _ fB) hm.s⟩
  · exact ⟨.inl fT, by simpa using Nat.lt_of_lt_of_le (hF _ fT) hm.s⟩
  · exact ⟨.inl fL, by simpa using Nat.lt_of_lt_of_le (hF _ fL) hm.s⟩
  · exact ⟨.inl fU, by simpa using Nat.lt_of_lt_of_le (hF _ fU) hm.s⟩
  · refine (Below.heap_setCell _ ⟨bT, 0, none⟩ _ b (fun e => hn (e ▸ fT))).trans ((Below.heap_setCell _ ⟨bL, 0, none⟩ _ b (fun e => hn (e ▸ fL))).trans (hm.n b hb hn))
  · exact (((⟨hB.os, hB.tape, hB.output, hB.size, hB.block⟩ : Below n1 W wX.drew)).setCell (hFn _ fL) _).setCell (hFn _ fT) _
theorem Flat_k41 : Flat k41 (fun x => [.int .i64 x.f0.f0, .int .i64 x.f0.f1, .int .i64 x.f1.f0, .int .i64 x.f1.f1]) := ⟨fun _ => rfl, fun w base ok x => k41_mkM w base ok x, fun h => k41_openM h⟩
theorem setTo_zero (t : Int) (out : List S41) : setTo 0 t out = out := by unfold setTo; simp
theorem setTo_length (n : Nat) (t : Int) (out : List S41) : (setTo n t out).length = out.length := by unfold setTo; simp
theorem setTo_get (n : Nat) (t : Int) (out : List S41) (i : Nat) : (setTo n t out)[i]? = (out[i]?).map fun r => if i < out.length - n then r else ⟨r.f0, ⟨r.f1.f0, t⟩⟩ := by
  unfold setTo
  rw [List.getElem?_append]
  split
  · rename_i h
    rw [List.length_take] at h
    rw [List.getElem?_take_of_lt (by omega)]
    have : i < out.length - n := by omega
    simp [this]
  · rename_i h
    rw [List.length_take] at h
    have hn : ¬ i < out.length - n := by omega
    rw [List.getElem?_map, List.getElem?_drop, List.length_take]
    have : out.length - n + (i - min (out.length - n) out.length) = i := by omega
    rw [this]
    simp [hn]
theorem setTo_succ (n : Nat) (t : Int) (out : List S41) (h : n < out.length) : setTo (n + 1) t out = (setTo n t out).set (out.length - 1 - n) ⟨(out[out.length - 1 - n]).f0, ⟨(out[out.length - 1 - n]).f1.f0, t⟩⟩ := by
  apply List.ext_getElem?
  intro i
  rw [List.getElem?_set, setTo_get, setTo_length]
  by_cases hi : out.length - 1 - n = i
  · subst hi
    rw [if_pos rfl, if_pos (by omega), List.getElem?_eq_getElem (by omega)]
    simp
    try (intro h2; omega)
  · rw [if_neg hi, setTo_get]
    congr 1
    funext r
    by_cases c : i < out.length - n
    · rw [if_pos c, if_pos (by omega)]
    · rw [if_neg c, if_neg (by omega)]
set_option maxHeartbeats 8000000 in
set_option maxRecDepth 100000 in
theorem visit_calls (k : Nat) (K : Nat → List S33 → List S33 → Option (List S33)) (gK : Nat)
    (hKc : ∀ (A0 A1 : Option Addr) (c0 c1 : Nat) (l0 l1 r : List S33) (W : World), Kd.C k33 W A0 l0.length l0 → l0.length ≤ c0 → Kd.C k33 W A1 l1.length l1 → l1.length ≤ c1 → K k l0 l1 = some r → Calls Try.prog gK #[.slice A0 l0.length c0, .slice A1 l1.length c1] W fun e w' => ∃ v, e = .returned v ∧ Kd.R k33 33 w' W.heap.size (fun _ => True) v r ∧ Below W.heap.size W w')
    (hgK : ∀ (as_ : Array Value) (W_ : World), (callFunc gK as_).run Try.prog W_ = .ok (.enter gK as_) W_)
    (w : World) (A0 A1 : Option Addr) (c0 c1 : Nat) (la lb : List S41) (hr0 : Kd.C k41 w A0 la.length la) (hc0 : la.length ≤ c0) (hr1 : Kd.C k41 w A1 lb.length lb) (hc1 : lb.length ≤ c1)
    (bO bA bB bT bL bU : Nat) (hAU : bA ≠ bU) (hBU : bB ≠ bU) (p : S33) (W : World) (F : Nat → Prop) (hF : ∀ b, F b → b < W.heap.size) (te : Int) (last : List S33) (out : List S41) (te' : Int) (last' : List S33) (out' : List S41)
    (hS : St gK bO bA bB bT bL bU w.heap.size (.slice A0 la.length c0) (.slice A1 lb.length c1) W F te last out) (hW : Below w.heap.size w W) (hFn : ∀ b, F b → w.heap.size ≤ b) (hv : visit k K la lb p (te, last, out) = some (te', last', out')) :
    Calls Try.prog 171 #[.agg #[.int .i64 p.f0, .int .i64 p.f1], .pointer (some ⟨bO, 0, none⟩), .pointer (some ⟨bA, 0, none⟩), .pointer (some ⟨bB, 0, none⟩), .pointer (some ⟨bT, 0, none⟩), .pointer (some ⟨bL, 0, none⟩), .pointer (some ⟨bU, 0, none⟩)] W
      fun e W' => e = .returned (.tuple #[]) ∧ ∃ F', St gK bO bA bB bT bL bU w.heap.size (.slice A0 la.length c0) (.slice A1 lb.length c1) W' F' te' last' out' ∧
        (∀ b, F' b → (F b ∨ W.heap.size ≤ b) ∧ b < W'.heap.size) ∧ (∀ b, b < W.heap.size → ¬ F b → W'.heap[b]? = W.heap[b]?) ∧ Below w.heap.size W W' := by
  have hu58 := Try.underlying58
  have hu22 := Try.underlying22
  have hS0 := hS
  obtain ⟨hO, hA, hB, hT, ⟨vL, hL, HRL⟩, ⟨vU, hU, HRU⟩, fO, fA, fB, fT, fL, fU⟩ := hS
  have hTL : bT ≠ bL := ne_of_type hT hL (by decide)
  have hTU : bT ≠ bU := ne_of_type hT hU (by decide)
  have hLU : bL ≠ bU := ne_of_type hL hU (by decide)
  unfold visit at hv
  obtain ⟨x, hx, hv⟩ := Option.bind_eq_some_iff.mp hv
  obtain ⟨y, hy, hv⟩ := Option.bind_eq_some_iff.mp hv
  obtain ⟨l, hl, hv⟩ := Option.bind_eq_some_iff.mp hv
  have hbx : Below W.heap.size W (W.alloc (.cells #[.int .i64 p.f0, .int .i64 p.f1] 33)) := below_alloc (Below.refl _ _) _
  have hnew : (W.alloc (.cells #[.int .i64 p.f0, .int .i64 p.f1] 33)).heap[W.heap.size]? = some (.cells #[.int .i64 p.f0, .int .i64 p.f1] 33 (0, 0)) := by simpa using heap_alloc_new W _
  generalize hW1 : W.alloc (.cells #[.int .i64 p.f0, .int .i64 p.f1] 33) = W1 at hbx hnew
  have at1 : ∀ {b : Nat} {o : Obj}, F b → W.heap[b]? = some o → W1.heap[b]? = some o := fun hb h => (hbx.block _ (hF _ hb)).trans h
  have cO : W1.drew.cell? ⟨bO, 0, none⟩ = some (.func (.func gK) #[] #[]) := (blk_cell (at1 fO hO) 0).trans rfl
  have cA : W1.drew.cell? ⟨bA, 0, none⟩ = some (.slice A0 la.length c0) := (blk_cell (at1 fA hA) 0).trans rfl
  have cB : W1.drew.cell? ⟨bB, 0, none⟩ = some (.slice A1 lb.length c1) := (blk_cell (at1 fB hB) 0).trans rfl
  have cP : W1.drew.cell? ⟨W.heap.size, 0, none⟩ = some (.int .i64 p.f0) := (blk_cell hnew 0).trans rfl
  have be1 : Below W.heap.size W W1.drew := below_drew1 hbx
  have bd : Below w.heap.size w W1.drew := below_step hW be1
  have hbs : W.heap.size ≤ W1.drew.heap.size := be1.size
  have hPs : W.heap.size < W1.drew.heap.size := (Array.getElem?_eq_some_iff.1 hnew).1
  go_enter Try.func171, Try.ntmps171
  go_wp2_with (fail)
  refine start_ (n := 11) (S := fun w' => w'.cell? ⟨bO, 0, none⟩ = some (.func (.func gK) #[] #[]) ∧ w'.cell? ⟨bA, 0, none⟩ = some (.slice A0 la.length c0) ∧ w'.cell? ⟨bB, 0, none⟩ = some (.slice A1 lb.length c1) ∧ w'.cell? ⟨W.heap.size, 0, none⟩ = some (.int .i64 p.f0)) (ds := []) #[false, false, false, false, false, false, false, false, false, false, false] (by kernel_rfl) rfl rfl ⟨cO, cA, cB, cP⟩ (fun hHeld => ?_)
  refine pure_ (i := 2) (N := some 14) (v := ?_) (a' := ?_) #[false, false, true, false, false, false, false, false, false, false, false] rfl rfl (by kernel_rfl) (fun _ _ _ h => h) (Or.inl ⟨by rfl, ?_⟩) ?_ ?_
  rotate_left
  · intro w'
    go_simp
    with_reducible rfl
  rotate_left
  · simp only [Act.put, List.setIfInBounds_toArray, List.set_cons_zero, List.set_cons_succ, i64_w, i32_w]
    rfl
  refine pure_ (i := 6) (N := some 18) (v := ?_) (a' := ?_) #[false, false, true, false, false, false, true, false, false, false, false] rfl rfl (by kernel_rfl) (fun _ _ _ h => h) (Or.inl ⟨by rfl, ?_⟩) ?_ ?_
  rotate_left
  · intro w'
    go_simp
    with_reducible rfl
  rotate_left
  · simp only [Act.put, List.setIfInBounds_toArray, List.set_cons_zero, List.set_cons_succ, i64_w, i32_w]
    rfl
  refine take_ (i := 0) (N := some 12) (v := ?_) (a' := ?_) #[true, false, true, false, false, false, true, false, false, false, false] rfl rfl (by kernel_rfl) (fun _ _ _ h => h) (Or.inl ⟨by rfl, ?_⟩) hHeld ?_ ?_
  rotate_left
  · rintro w' ⟨s0, s1, s2, s3⟩
    go_simp
    with_reducible rfl
  rotate_left
  · simp only [Act.put, List.setIfInBounds_toArray, List.set_cons_zero, List.set_cons_succ, i64_w, i32_w]
    rfl
  refine take_ (i := 1) (N := some 13) (v := ?_) (a' := ?_) #[true, true, true, false, false, false, true, false, false, false, false] rfl rfl (by kernel_rfl) (fun _ _ _ h => h) (Or.inl ⟨by rfl, ?_⟩) hHeld ?_ ?_
  rotate_left
  · rintro w' ⟨s0, s1, s2, s3⟩
    go_simp
    with_reducible rfl
  rotate_left
  · simp only [Act.put, List.setIfInBounds_toArray, List.set_cons_zero, List.set_cons_succ, i64_w, i32_w]
    rfl
  refine take_ (i := 3) (N := some 15) (v := ?_) (a' := ?_) #[true, true, true, true, false, false, true, false, false, false, false] rfl rfl (by kernel_rfl) (fun _ _ _ h => h) (Or.inl ⟨by rfl, ?_⟩) hHeld ?_ ?_
  rotate_left
  · rintro w' ⟨s0, s1, s2, s3⟩
    go_simp
    with_reducible rfl
  rotate_left
  · simp only [Act.put, List.setIfInBounds_toArray, List.set_cons_zero, List.set_cons_succ, i64_w, i32_w]
    rfl
  refine take_ (i := 5) (N := some 17) (v := ?_) (a' := ?_) #[true, true, true, true, false, true, true, false, false, false, false] rfl rfl (by kernel_rfl) (fun _ _ _ h => h) (Or.inl ⟨by rfl, ?_⟩) hHeld ?_ ?_
  rotate_left
  · rintro w' ⟨s0, s1, s2, s3⟩
    go_simp
    with_reducible rfl
  rotate_left
  · simp only [Act.put, List.setIfInBounds_toArray, List.set_cons_zero, List.set_cons_succ, i64_w, i32_w]
    rfl
  refine take_ (i := 7) (N := some 19) (v := ?_) (a' := ?_) #[true, true, true, true, false, true, true, true, false, false, false] rfl rfl (by kernel_rfl) (fun _ _ _ h => h) (Or.inl ⟨by rfl, ?_⟩) hHeld ?_ ?_
  rotate_left
  · rintro w' ⟨s0, s1, s2, s3⟩
    go_simp
    with_reducible rfl
  rotate_left
  · simp only [Act.put, List.setIfInBounds_toArray, List.set_cons_zero, List.set_cons_succ, i64_w, i32_w]
    rfl
  refine one_ (i := 4) (N := some 16) #[true, true, true, true, true, true, true, true, false, false, false] rfl rfl (by kernel_rfl) (by decide) (fun K hK => ?_)
  refine goes_ Try.func133 (by kernel_rfl) rfl #[.slice A0 la.length c0, .int .i64 p.f0] (by rfl) rfl rfl (by simp only [List.map_toArray, List.map_cons, List.map_nil]; rfl) ?_
  with_reducible refine (region_slice.calls k A0 c0 la p.f0 x _ (Kd.C_below hr0 bd) hc0 hx).mono ?_
  rintro e w3 ⟨vx, rfl, HRx, hb3⟩
  refine ⟨_, rfl, ?_⟩
  obtain ⟨Ax, cx, rfl, hcx, hCx⟩ := Kd.R_reads HRx
  have s3 := hb3.size
  have be3 := below_step be1 hb3
  refine hK.out _ _ ⟨((hb3.cell (Nat.lt_of_lt_of_le (hF _ fO) hbs)).trans cO), ((hb3.cell (Nat.lt_of_lt_of_le (hF _ fA) hbs)).trans cA), ((hb3.cell (Nat.lt_of_lt_of_le (hF _ fB) hbs)).trans cB), ((hb3.cell hPs).trans cP)⟩ (fun hHeld => ?_)
  clear hK K
  refine norm_ (a' := ?_) ?_ ?_
  rotate_left
  · show Act.put _ (some 16) _ = _
    simp only [Act.put, List.setIfInBounds_toArray, List.set_cons_zero, List.set_cons_succ, i64_w, i32_w]
    rfl
  refine one_ (i := 8) (N := some 20) #[true, true, true, true, true, true, true, true, true, false, false] rfl rfl (by kernel_rfl) (by decide) (fun K hK => ?_)
  have hr1' := Kd.C_below hr1 (below_step bd hb3)
  refine goes_ Try.func133 (by kernel_rfl) rfl #[.slice A1 lb.length c1, .int .i64 p.f0] (by rfl) rfl rfl (by simp only [List.map_toArray, List.map_cons, List.map_nil]; rfl) ?_
  with_reducible refine (region_slice.calls k A1 c1 lb p.f0 y _ hr1' hc1 hy).mono ?_
  rintro e w4 ⟨vy, rfl, HRy, hb4⟩
  refine ⟨_, rfl, ?_⟩
  obtain ⟨Ay, cy, rfl, hcy, hCy⟩ := Kd.R_reads HRy
  have hCx' := Kd.C_below hCx hb4
  have be4 := below_step be3 hb4
  refine hK.out _ _ ⟨((hb4.cell (Nat.lt_of_lt_of_le (hF _ fO) (Nat.le_trans hbs s3))).trans hHeld.1), ((hb4.cell (Nat.lt_of_lt_of_le (hF _ fA) (Nat.le_trans hbs s3))).trans hHeld.2.1), ((hb4.cell (Nat.lt_of_lt_of_le (hF _ fB) (Nat.le_trans hbs s3))).trans hHeld.2.2.1), ((hb4.cell (Nat.lt_of_lt_of_le hPs s3)).trans hHeld.2.2.2)⟩ (fun hHeld => ?_)
  clear hK K
  refine norm_ (a' := ?_) ?_ ?_
  rotate_left
  · show Act.put _ (some 20) _ = _
    simp only [Act.put, List.setIfInBounds_toArray, List.set_cons_zero, List.set_cons_succ, i64_w, i32_w]
    rfl
  refine one_ (i := 9) (N := some 21) #[true, true, true, true, true, true, true, true, true, true, false] rfl rfl (by kernel_rfl) (by decide) (fun K hK => ?_)
  refine goesF_ hgK #[.slice Ax x.length cx, .slice Ay y.length cy] (by rfl) rfl rfl rfl (by simp only [List.map_toArray, List.map_cons, List.map_nil]; rfl) ?_
  with_reducible refine (hKc Ax Ay cx cy x y l _ hCx' hcx hCy hcy hl).mono ?_
  rintro e w5 ⟨vl, rfl, HRl, hb5⟩
  refine ⟨_, rfl, ?_⟩
  obtain ⟨Al, cl, rfl, hcl, hCl⟩ := Kd.R_reads HRl
  have s4 := Nat.le_trans s3 hb4.size
  have be5 := below_step be4 hb5
  refine hK.out _ _ ⟨((hb5.cell (Nat.lt_of_lt_of_le (hF _ fO) (Nat.le_trans hbs s4))).trans hHeld.1), ((hb5.cell (Nat.lt_of_lt_of_le (hF _ fA) (Nat.le_trans hbs s4))).trans hHeld.2.1), ((hb5.cell (Nat.lt_of_lt_of_le (hF _ fB) (Nat.le_trans hbs s4))).trans hHeld.2.2.1), ((hb5.cell (Nat.lt_of_lt_of_le hPs s4)).trans hHeld.2.2.2)⟩ (fun hHeld => ?_)
  clear hK K
  refine norm_ (a' := ?_) ?_ ?_
  rotate_left
  · show Act.put _ (some 21) _ = _
    simp only [Act.put, List.setIfInBounds_toArray, List.set_cons_zero, List.set_cons_succ, i64_w, i32_w]
    rfl
  refine pure_ (i := 10) (N := some 8) (v := ?_) (a' := ?_) #[true, true, true, true, true, true, true, true, true, true, true] rfl rfl (by kernel_rfl) (fun _ _ _ h => h) (Or.inl ⟨by rfl, ?_⟩) ?_ ?_
  rotate_left
  · intro w'
    go_simp
    with_reducible rfl
  rotate_left
  · simp only [Act.put, List.setIfInBounds_toArray, List.set_cons_zero, List.set_cons_succ, i64_w, i32_w]
    rfl
  refine done_ (by kernel_rfl) ?_

  have hP5 : w5.heap[W.heap.size]? = some (.cells #[.int .i64 p.f0, .int .i64 p.f1] 33 (0, 0)) := (hb5.block _ (Nat.lt_of_lt_of_le hPs s4)).trans ((hb4.block _ (Nat.lt_of_lt_of_le hPs s3)).trans ((hb3.block _ hPs).trans hnew))
  have HRl5 : Kd.R k33 33 w5 w.heap.size (fun b => F b ∨ W.heap.size ≤ b) (.slice Al l.length cl) l := R_lower_ok HRl (Nat.le_trans hW.size (Nat.le_trans hbs s4)) (fun b hb => .inr (Nat.le_trans (Nat.le_trans hbs s4) hb))
  have hCl5 := hCl
  have HRL5 := Kd.R_below HRL be5
  obtain ⟨AL, cL, rfl, hcL, hCL⟩ := Kd.R_reads HRL5
  have cT5 : w5.cell? ⟨bT, 0, none⟩ = some (.int .i64 te) := (blk_cell ((be5.block _ (hF _ fT)).trans hT) 0).trans rfl
  have cL5 : w5.cell? ⟨bL, 0, none⟩ = some (.slice AL last.length cL) := (blk_cell ((be5.block _ (hF _ fL)).trans hL) 0).trans rfl
  have cP5 : w5.cell? ⟨W.heap.size, 0, none⟩ = some (.int .i64 p.f0) := (blk_cell hP5 0).trans rfl
  clear hb3 hb4 hb5 hx hy hl HRx HRy hCx hCx' hCy hHeld cO cA cB cP
  by_cases hl0 : l.length = 0
  · rw [if_pos hl0] at hv
    injection hv with hv
    injection hv with hv1 hv
    injection hv with hv2 hv3
    subst hv1; subst hv2; subst hv3
    go_wp2_with (fail)
    refine bodyPost_ret (results_none rfl _ _ _) rfl ?_
    refine ⟨rfl, F, ⟨(be5.block _ (hF _ fO)).trans hO, (be5.block _ (hF _ fA)).trans hA, (be5.block _ (hF _ fB)).trans hB, (be5.block _ (hF _ fT)).trans hT, ⟨_, (be5.block _ (hF _ fL)).trans hL, HRL5⟩, ⟨_, (be5.block _ (hF _ fU)).trans hU, Kd.R_below HRU be5⟩, fO, fA, fB, fT, fL, fU⟩, fun b hb => ⟨.inl hb, Nat.lt_of_lt_of_le (hF _ hb) be5.size⟩, fun b hb _ => be5.block b hb, be5.mono hW.size⟩
  · rw [if_neg hl0] at hv
    split at hv
    · rename_i hbd
      have hbd' : l.length < 1000000000 ∧ out.length + l.length < 1000000000 := hbd
      clear hbd
      by_cases hte : te = p.f0
      · rw [if_pos hte] at hv
        obtain ⟨e, he, hv⟩ := Option.bind_eq_some_iff.mp hv
        cases e with
        | true =>
          rw [if_pos rfl] at hv
          split at hv
          · rename_i hle
            injection hv with hv
            injection hv with hv1 hv
            injection hv with hv2 hv3
            subst hv1; subst hv2; subst hv3
            have hle' : last.length ≤ out.length := hle
            clear hle
            have hlast : 0 < last.length := by
              rcases Nat.eq_zero_or_pos last.length with h | h
              · exfalso
                have hne : ¬ ((l.length : Int) = (last.length : Int)) := by omega
                unfold api_Period.f at he
                rw [if_neg hne] at he
                cases he
              · exact h
            go_wp2_with (first | (go_at_call 172; refine (api_Period.calls k _ _ l _ _ last true _ hCl5 hcl hCL hcL he).mono ?_; rintro e w6 ⟨rfl, ⟨nd, rfl⟩⟩; have cL6 : (w5.drewN nd).cell? ⟨bL, 0, none⟩ = some (.slice AL last.length cL) := cL5))
            have hb6 : Below w5.heap.size w5 (w5.drewN nd) := pw_below_drewN (Below.refl _ _) nd
            have be6 := below_step be5 hb6
            have hP6 := (hb6.block _ (lt_of_heap hP5)).trans hP5
            have HRl6 := Kd.R_below HRl5 hb6
            have hU6 := (be6.block _ (hF _ fU)).trans hU
            have HRU6 : Kd.R k41 41 (w5.drewN nd) w.heap.size (fun b => F b ∨ W.heap.size ≤ b) vU out := Kd.R_mono (Kd.R_below HRU be6) (fun _ hb => .inl hb)
            have hm6 : Fm bU F W (w5.drewN nd) := (Fm.refl bU F W).below be6
            have hB6 : Below w.heap.size W (w5.drewN nd) := be6.mono hW.size
            rcases R_shape Flat_k41 HRU6 with ⟨rfl, rfl⟩ | ⟨gU, cU, cur, rfl, _⟩
            · exfalso
              simp only [List.length_nil] at hle'
              omega
            · go_loopw [36] (fun i wr => ∃ j : Nat, j ≤ last.length ∧ i = .int .i64 j ∧ wr.heap[bU]? = some (.cells #[.slice (some ⟨gU, 0, none⟩) out.length cU] 58 (0, 0)) ∧ Kd.R k41 41 wr w.heap.size (fun b => F b ∨ W.heap.size ≤ b) (.slice (some ⟨gU, 0, none⟩) out.length cU) (setTo j p.f1 out) ∧
                  Kd.R k33 33 wr w.heap.size (fun b => F b ∨ W.heap.size ≤ b) (.slice Al l.length cl) l ∧ wr.heap[W.heap.size]? = some (.cells #[.int .i64 p.f0, .int .i64 p.f1] 33 (0, 0)) ∧ Fm bU F W wr ∧ Below w.heap.size W wr)
                (fun i _ => last.length - (intOf i).toNat)
              case atStart => exact ⟨0, Nat.zero_le _, rfl, hU6, by rw [setTo_zero]; exact HRU6, HRl6, hP6, hm6, hB6⟩
              case round =>
                obtain ⟨j, hj, rfl, hUr, HRUr, HRlr, hPr, hmr, hBr⟩ := hrel
                rcases Nat.lt_or_ge j last.length with hlt | hge
                · have cU1 : wr.cell? ⟨bU, 0, none⟩ = some (.slice (some ⟨gU, 0, none⟩) out.length cU) := (blk_cell hUr 0).trans rfl
                  have cP2 : wr.cell? ⟨W.heap.size, 1, none⟩ = some (.int .i64 p.f1) := (blk_cell hPr 1).trans rfl
                  have hjo : j < out.length := by omega
                  have hss := setTo_succ j p.f1 out hjo
                  have hrd := Kd.R_reads' HRUr
                  obtain ⟨ad, e, hx0, hx1, hx2, hx3⟩ := at_T41 hrd.2.2 ((out.length - 1 - j : Nat) : Int) (by omega) (by rw [setTo_length]; omega)
                  cases e
                  have hgx : (setTo j p.f1 out)[out.length - 1 - j]? = some out[out.length - 1 - j] := by
                    rw [setTo_get, List.getElem?_eq_getElem (by omega)]
                    simp
                    try (intro h2; omega)
                  have hrdx : rd_T41 (setTo j p.f1 out) ((out.length - 1 - j : Nat) : Int) = out[out.length - 1 - j] := by simp only [rd_T41, List.getD_eq_getElem?_getD, Int.toNat_natCast, hgx, Option.getD_some]
                  have hadd : ∀ n, (⟨gU, 0, none⟩ : Addr).add n = ⟨gU, n, none⟩ := fun n => by cases n <;> simp [Addr.add]
                  rw [hrdx, Int.toNat_natCast] at hx0 hx1 hx2 hx3
                  rw [hadd] at hx0 hx1 hx2 hx3
                  generalize out[out.length - 1 - j] = X at hx0 hx1 hx2 hx3 hss
                  have gx0 : wr.cell? ⟨gU, (out.length - 1 - j) * 4 + 0, none⟩ = some (.int .i64 X.f0.f0) := hx0
                  have gx1 : wr.cell? ⟨gU, (out.length - 1 - j) * 4 + 1, none⟩ = some (.int .i64 X.f0.f1) := hx1
                  have gx2 : wr.cell? ⟨gU, (out.length - 1 - j) * 4 + 2, none⟩ = some (.int .i64 X.f1.f0) := hx2
                  have gx3 : wr.cell? ⟨gU, (out.length - 1 - j) * 4 + 3, none⟩ = some (.int .i64 X.f1.f1) := hx3
                  have gx3' : wr.cell? ⟨gU, (out.length - 1 - j) * 4 + 2 + 1, none⟩ = some (.int .i64 X.f1.f1) := gx3
                  obtain ⟨cur', hcur⟩ := own_typed (Flat_k41.own HRUr) gU rfl
                  have fx3 : wr.frozen? ⟨gU, (out.length - 1 - j) * 4 + 2 + 1, none⟩ = false := blk_frozen hcur _
                  have hseg := Kd.R_seg HRUr ((out.length - 1 - j : Nat) : Int) (by omega) (by omega) (c := [.int .i64 X.f0.f0, .int .i64 X.f0.f1, .int .i64 X.f1.f0, .int .i64 X.f1.f1]) (seg := [.int .i64 p.f1]) (j := 3) rfl (fun jj u h => by
                    rw [Int.toNat_natCast]
                    match jj, h with
                    | 0, h => injection h with h; subst h; exact gx0
                    | 1, h => injection h with h; subst h; exact gx1
                    | 2, h => injection h with h; subst h; exact gx2
                    | 3, h => injection h with h; subst h; exact gx3
                    | jj + 4, h => simp at h) (show 3 + 1 ≤ 4 by decide) (x' := (⟨X.f0, ⟨X.f1.f0, p.f1⟩⟩ : S41)) (k41_mkM _ _ (fun _ => False) _) (fun b hb => hb.elim)
                  rw [Int.toNat_natCast, ← hss] at hseg
                  have hb1 : w.heap.size ≤ gU := Kd.R_base HRUr gU rfl
                  have hneU : bU ≠ gU := ne_of_type hUr hcur (by decide)
                  have hneP : W.heap.size ≠ gU := ne_of_type hPr hcur (by decide)
                  clear hx0 hx1 hx2 hx3 gx0 gx1 gx2 gx3 hrd hgx hrdx
                  go_wp2_with (fail)
                  exact ⟨⟨j + 1, hlt, rfl, blk_far hUr hneU _, hseg.1, Kd.R_set HRlr hcur (by decide) _ _, blk_far hPr hneP _, hmr.grown HRUr hseg.2, hBr.setCell hb1 _⟩, by simp [intOf]; omega⟩
                · have hjl : j = last.length := by omega
                  subst hjl
                  go_wp2_with (fail)
                  have hdone := St.done hS0 hF hAU hBU hW.size hFn hmr p.f1 hUr HRUr HRlr hBr
                  have hmx := hmr
                  have hPx := hPr
                  have hLx := (hmx.m bL _ 22 hL (by decide) hLU).trans hL
                  have hTx := (hmx.m bT _ 3 hT (by decide) hTU).trans hT
                  have zT0 : wr.cell? ⟨bT, 0, none⟩ = some (.int .i64 te) := (blk_cell hTx 0).trans rfl
                  have zTf0 : wr.frozen? ⟨bT, 0, none⟩ = false := blk_frozen hTx 0
                  have zL0 : wr.cell? ⟨bL, 0, none⟩ = some (.slice AL last.length cL) := (blk_cell hLx 0).trans rfl
                  have zLf0 : wr.frozen? ⟨bL, 0, none⟩ = false := blk_frozen hLx 0
                  have zP : wr.drew.cell? ⟨W.heap.size, 1, none⟩ = some (.int .i64 p.f1) := (blk_cell hPx 1).trans rfl
                  have zL : wr.drew.cell? ⟨bL, 0, none⟩ = some (.slice AL last.length cL) := (blk_cell hLx 0).trans rfl
                  have zLf : wr.drew.frozen? ⟨bL, 0, none⟩ = false := blk_frozen hLx 0
                  have zPL : W.heap.size ≠ bL := fun e => Nat.lt_irrefl _ (e ▸ hF _ fL)
                  have hTx2 : (wr.drew.setCell ⟨bL, 0, none⟩ (.slice Al l.length cl)).heap[bT]? = some (.cells #[.int .i64 te] 3 (0, 0)) := blk_far hTx hTL _
                  have zT : (wr.drew.setCell ⟨bL, 0, none⟩ (.slice Al l.length cl)).cell? ⟨bT, 0, none⟩ = some (.int .i64 te) := (blk_cell hTx2 0).trans rfl
                  have zTf : (wr.drew.setCell ⟨bL, 0, none⟩ (.slice Al l.length cl)).frozen? ⟨bT, 0, none⟩ = false := blk_frozen hTx2 0
                  refine start_ (n := 5) (S := fun w' => w'.cell? ⟨W.heap.size, 1, none⟩ = some (.int .i64 p.f1)) (ds := [4]) #[false, false, false, false, false] (by kernel_rfl) rfl rfl (zP) (fun hHeld => ?_)
                  refine pure_ (i := 0) (N := some 64) (v := ?_) (a' := ?_) #[true, false, false, false, false] rfl rfl (by kernel_rfl) (fun _ _ _ h => h) (Or.inl ⟨by rfl, ?_⟩) ?_ ?_
                  rotate_left
                  · intro w'
                    go_simp
                    with_reducible rfl
                  rotate_left
                  · simp only [Act.put, List.setIfInBounds_toArray, List.set_cons_zero, List.set_cons_succ, i64_w, i32_w]
                    rfl
                  refine pure_ (i := 1) (N := some 65) (v := ?_) (a' := ?_) #[true, true, false, false, false] rfl rfl (by kernel_rfl) (fun _ _ _ h => h) (Or.inl ⟨by rfl, ?_⟩) ?_ ?_
                  rotate_left
                  · intro w'
                    go_simp
                    with_reducible rfl
                  rotate_left
                  · simp only [Act.put, List.setIfInBounds_toArray, List.set_cons_zero, List.set_cons_succ, i64_w, i32_w]
                    rfl
                  refine take_ (i := 2) (N := some 66) (v := ?_) (a' := ?_) #[true, true, true, false, false] rfl rfl (by kernel_rfl) (fun _ _ _ h => h) (Or.inl ⟨by rfl, ?_⟩) hHeld ?_ ?_
                  rotate_left
                  · intro w' s0
                    go_simp
                    with_reducible rfl
                  rotate_left
                  · simp only [Act.put, List.setIfInBounds_toArray, List.set_cons_zero, List.set_cons_succ, i64_w, i32_w]
                    rfl
                  refine one_ (i := 3) (N := none) #[true, true, true, true, false] rfl rfl (by kernel_rfl) (by decide) (fun K hK => ?_)
                  refine skip_ (w1 := wr.drew.setCell ⟨bL, 0, none⟩ (.slice Al l.length cl)) (by rfl) rfl ?_ ?_
                  · go_simp
                    try rfl
                  refine hK.out _ _ ((cell_far (a := ⟨W.heap.size, 1, none⟩) (p := ⟨bL, 0, none⟩) zPL _).trans zP) (fun hHeld => ?_)
                  clear hK K
                  refine last_ (i := 4) (N := none) #[true, true, true, true, true] rfl rfl (by kernel_rfl) (by decide) (fun K hK => ?_)
                  refine skip_ (w1 := (wr.drew.setCell ⟨bL, 0, none⟩ (.slice Al l.length cl)).setCell ⟨bT, 0, none⟩ (.int .i64 p.f1)) (by rfl) rfl ?_ ?_
                  · go_simp
                    try rfl
                  refine hK.out _ _ ?_
                  clear hK K
                  refine done_ (by kernel_rfl) ?_
                  first | go_end0 | (go_wp2; go_end0) | go_ret2
                  exact ⟨rfl, hdone⟩
          · cases hv
        | false =>
          rw [if_neg (by decide)] at hv
          injection hv with hv
          injection hv with hv1 hv
          injection hv with hv2 hv3
          subst hv1; subst hv2; subst hv3
          go_wp2_with (first | (go_at_call 172; refine (api_Period.calls k _ _ l _ _ last false _ hCl5 hcl hCL hcL he).mono ?_; rintro e w6 ⟨rfl, ⟨nd, rfl⟩⟩))
          have hb6 : Below w5.heap.size w5 (w5.drewN nd) := pw_below_drewN (Below.refl _ _) nd
          have be6 := below_step be5 hb6
          have hP6 := (hb6.block _ (lt_of_heap hP5)).trans hP5
          have HRl6 := Kd.R_below HRl5 hb6
          obtain ⟨vU0, hU6, HRU6⟩ : ∃ v, (w5.drewN nd).heap[bU]? = some (.cells #[v] 58 (0, 0)) ∧ Kd.R k41 41 (w5.drewN nd) w.heap.size (fun b => F b ∨ W.heap.size ≤ b) v out := ⟨_, (be6.block _ (hF _ fU)).trans hU, Kd.R_mono (Kd.R_below HRU be6) (fun _ hb => .inl hb)⟩
          have hm6 : Fm bU F W (w5.drewN nd) := (Fm.refl bU F W).below be6
          have hB6 : Below w.heap.size W (w5.drewN nd) := be6.mono hW.size
          go_loopw [53] (fun i wr => ∃ (j : Nat) (vz : Value), j ≤ l.length ∧ i = .int .i64 j ∧ wr.heap[bU]? = some (.cells #[vz] 58 (0, 0)) ∧ Kd.R k41 41 wr w.heap.size (fun b => F b ∨ W.heap.size ≤ b) vz (out ++ (l.take j).map fun v => ⟨v, p⟩) ∧
              Kd.R k33 33 wr w.heap.size (fun b => F b ∨ W.heap.size ≤ b) (.slice Al l.length cl) l ∧ wr.heap[W.heap.size]? = some (.cells #[.int .i64 p.f0, .int .i64 p.f1] 33 (0, 0)) ∧ Fm bU F W wr ∧ Below w.heap.size W wr)
            (fun i _ => l.length - (intOf i).toNat)
          case atStart => exact ⟨0, vU0, Nat.zero_le _, rfl, hU6, by simpa using HRU6, HRl6, hP6, hm6, hB6⟩
          case round =>
            obtain ⟨j, vz, hj, rfl, hUr, HRUr, HRlr, hPr, hmr, hBr⟩ := hrel
            rcases Nat.lt_or_ge j l.length with hlt | hge
            · obtain ⟨A', c', e', _, hC'⟩ := Kd.R_reads HRlr
              injection e' with e1 e2 e3
              subst e1; subst e3
              obtain ⟨ad, e, hx0, hx1⟩ := at_T33 hC' (j : Int) (by omega) (by omega)
              cases e
              rw [rd33' l j hlt, Int.toNat_natCast] at hx0 hx1
              have htk : l.take (j + 1) = l.take j ++ [l[j]] := List.take_succ_eq_append_getElem hlt
              generalize l[j] = v at hx0 hx1 htk
              have hw1 : Below wr.heap.size wr (wr.alloc (.cells #[.int .i64 v.f0, .int .i64 v.f1] 33)) := below_alloc (Below.refl _ _) _
              have hU1 := (hw1.block _ (lt_of_heap hUr)).trans hUr
              have hP1 := (hw1.block _ (lt_of_heap hPr)).trans hPr
              have HRU1 := Kd.R_below HRUr hw1
              have HRl1 := Kd.R_below HRlr hw1
              have hm1 := hmr.below hw1
              have hB1 : Below w.heap.size W (wr.alloc (.cells #[.int .i64 v.f0, .int .i64 v.f1] 33)) := hBr.trans (hw1.mono (Nat.le_trans hW.size hmr.s))
              have hz1 := Nat.le_trans (Nat.le_trans hW.size hmr.s) hw1.size
              generalize hgen : wr.alloc (.cells #[.int .i64 v.f0, .int .i64 v.f1] 33) = wr1 at hw1 hU1 hP1 HRU1 HRl1 hm1 hB1 hz1
              have cU1 : wr1.cell? ⟨bU, 0, none⟩ = some vz := (blk_cell hU1 0).trans rfl
              have cP1 : wr1.cell? ⟨W.heap.size, 0, none⟩ = some (.int .i64 p.f0) := (blk_cell hP1 0).trans rfl
              have cP2 : wr1.cell? ⟨W.heap.size, 1, none⟩ = some (.int .i64 p.f1) := (blk_cell hP1 1).trans rfl
              subst hgen
              have hlen : (out ++ (l.take j).map fun v => (⟨v, p⟩ : S41)).length = out.length + j := by simp; omega
              go_wp2_with (first
                | (at_builtin; refine Kd.R_append k41 (w0 := W) w.heap.size rfl (.tmp 57) (.tmp 61) 58 41 (.agg #[.int .i64 0, .int .i64 0, .int .i64 0, .int .i64 0]) 32 rfl hu58 info41 rfl (by decide) (by omega) vz _ (⟨v, p⟩ : S41) [.int .i64 v.f0, .int .i64 v.f1, .int .i64 p.f0, .int .i64 p.f1] (fun b => F b ∨ W.heap.size ≤ b) (fun _ => False) rfl (by first | rfl | (go_simp; done) | (go_simp; rfl) | (simp [Act.eval]; done) | (simp [World.alloc, Act.eval]; done)) (k41_mkM _ _ _ (⟨v, p⟩ : S41)) (fun _ hk => hk.elim) (fun b hb => .inr (Nat.le_trans hm1.s hb)) HRU1 hB1 hz1 (by rw [hlen]; omega) ?_; intro v1 w7 HR7 hB7 hg7 hat7; obtain ⟨A7, c7, e7⟩ := Kd.R_slice HR7; subst e7; clear hat7; have hU7 := (hg7.block bU (lt_of_heap hU1) (Kd.R_ne HRU1 hU1 (by decide))).trans hU1; have cU7 : w7.cell? ⟨bU, 0, none⟩ = some vz := (blk_cell hU7 0).trans rfl; have fU7 : w7.frozen? ⟨bU, 0, none⟩ = false := blk_frozen hU7 0))
              have hP7 := (hg7.block W.heap.size (lt_of_heap hP1) (Kd.R_ne HRU1 hP1 (by decide))).trans hP1
              have HRl7 : Kd.R k33 33 w7 w.heap.size (fun b => F b ∨ W.heap.size ≤ b) (.slice (some ad) l.length cl) l := Kd.R_mono (Kd.R_move (Kd.R_bound HRl1) (fun b hb => by
                obtain ⟨_, _, hlt7, q, hq, cs, hc⟩ := hb
                exact hg7.block b hlt7 (Kd.R_ne HRU1 hc ((by decide : ∀ q ∈ 33 :: k33.E, 41 ≠ q) q hq)))) (fun b hb => hb.1)
              refine ⟨⟨j + 1, _, hlt, rfl, (blk_set hU7 0 _).trans rfl, ?_, Kd.R_set HRl7 hU7 (by decide) 0 _, blk_far hP7 (fun e => Nat.lt_irrefl _ (e ▸ hF _ fU)) _, (hm1.grown HRU1 hg7).cell fU _, hB7.setCell (hFn _ fU) _⟩, ?_⟩
              · have h := Kd.R_set HR7 hU7 (by decide) 0 (.slice A7 ((out ++ (l.take j).map fun v => (⟨v, p⟩ : S41)) ++ [(⟨v, p⟩ : S41)]).length c7)
                rw [htk, List.map_append, ← List.append_assoc]
                have hlen2 : ((out ++ (l.take j).map fun v => (⟨v, p⟩ : S41)) ++ [(⟨v, p⟩ : S41)]).length = out.length + (j + 1) := by rw [List.length_append, hlen]; rfl
                rw [hlen2] at h
                exact h
              · simp [intOf]; omega
            · have hjl : j = l.length := by omega
              subst hjl
              rw [List.take_of_length_le (Nat.le_refl _)] at HRUr
              go_wp2_with (fail)
              have hdone := St.done hS0 hF hAU hBU hW.size hFn hmr p.f1 hUr HRUr HRlr hBr
              have hmx := hmr
              have hPx := hPr
              have hLx := (hmx.m bL _ 22 hL (by decide) hLU).trans hL
              have hTx := (hmx.m bT _ 3 hT (by decide) hTU).trans hT
              have zT0 : wr.cell? ⟨bT, 0, none⟩ = some (.int .i64 te) := (blk_cell hTx 0).trans rfl
              have zTf0 : wr.frozen? ⟨bT, 0, none⟩ = false := blk_frozen hTx 0
              have zL0 : wr.cell? ⟨bL, 0, none⟩ = some (.slice AL last.length cL) := (blk_cell hLx 0).trans rfl
              have zLf0 : wr.frozen? ⟨bL, 0, none⟩ = false := blk_frozen hLx 0
              have zP : wr.drew.cell? ⟨W.heap.size, 1, none⟩ = some (.int .i64 p.f1) := (blk_cell hPx 1).trans rfl
              have zL : wr.drew.cell? ⟨bL, 0, none⟩ = some (.slice AL last.length cL) := (blk_cell hLx 0).trans rfl
              have zLf : wr.drew.frozen? ⟨bL, 0, none⟩ = false := blk_frozen hLx 0
              have zPL : W.heap.size ≠ bL := fun e => Nat.lt_irrefl _ (e ▸ hF _ fL)
              have hTx2 : (wr.drew.setCell ⟨bL, 0, none⟩ (.slice Al l.length cl)).heap[bT]? = some (.cells #[.int .i64 te] 3 (0, 0)) := blk_far hTx hTL _
              have zT : (wr.drew.setCell ⟨bL, 0, none⟩ (.slice Al l.length cl)).cell? ⟨bT, 0, none⟩ = some (.int .i64 te) := (blk_cell hTx2 0).trans rfl
              have zTf : (wr.drew.setCell ⟨bL, 0, none⟩ (.slice Al l.length cl)).frozen? ⟨bT, 0, none⟩ = false := blk_frozen hTx2 0
              refine start_ (n := 5) (S := fun w' => w'.cell? ⟨W.heap.size, 1, none⟩ = some (.int .i64 p.f1)) (ds := [4]) #[false, false, false, false, false] (by kernel_rfl) rfl rfl (zP) (fun hHeld => ?_)
              refine pure_ (i := 0) (N := some 64) (v := ?_) (a' := ?_) #[true, false, false, false, false] rfl rfl (by kernel_rfl) (fun _ _ _ h => h) (Or.inl ⟨by rfl, ?_⟩) ?_ ?_
              rotate_left
              · intro w'
                go_simp
                with_reducible rfl
              rotate_left
              · simp only [Act.put, List.setIfInBounds_toArray, List.set_cons_zero, List.set_cons_succ, i64_w, i32_w]
                rfl
              refine pure_ (i := 1) (N := some 65) (v := ?_) (a' := ?_) #[true, true, false, false, false] rfl rfl (by kernel_rfl) (fun _ _ _ h => h) (Or.inl ⟨by rfl, ?_⟩) ?_ ?_
              rotate_left
              · intro w'
                go_simp
                with_reducible rfl
              rotate_left
              · simp only [Act.put, List.setIfInBounds_toArray, List.set_cons_zero, List.set_cons_succ, i64_w, i32_w]
                rfl
              refine take_ (i := 2) (N := some 66) (v := ?_) (a' := ?_) #[true, true, true, false, false] rfl rfl (by kernel_rfl) (fun _ _ _ h => h) (Or.inl ⟨by rfl, ?_⟩) hHeld ?_ ?_
              rotate_left
              · intro w' s0
                go_simp
                with_reducible rfl
              rotate_left
              · simp only [Act.put, List.setIfInBounds_toArray, List.set_cons_zero, List.set_cons_succ, i64_w, i32_w]
                rfl
              refine one_ (i := 3) (N := none) #[true, true, true, true, false] rfl rfl (by kernel_rfl) (by decide) (fun K hK => ?_)
              refine skip_ (w1 := wr.drew.setCell ⟨bL, 0, none⟩ (.slice Al l.length cl)) (by rfl) rfl ?_ ?_
              · go_simp
                try rfl
              refine hK.out _ _ ((cell_far (a := ⟨W.heap.size, 1, none⟩) (p := ⟨bL, 0, none⟩) zPL _).trans zP) (fun hHeld => ?_)
              clear hK K
              refine last_ (i := 4) (N := none) #[true, true, true, true, true] rfl rfl (by kernel_rfl) (by decide) (fun K hK => ?_)
              refine skip_ (w1 := (wr.drew.setCell ⟨bL, 0, none⟩ (.slice Al l.length cl)).setCell ⟨bT, 0, none⟩ (.int .i64 p.f1)) (by rfl) rfl ?_ ?_
              · go_simp
                try rfl
              refine hK.out _ _ ?_
              clear hK K
              refine done_ (by kernel_rfl) ?_
              first | go_end0 | (go_wp2; go_end0) | go_ret2
              exact ⟨rfl, hdone⟩
      · rw [if_neg hte] at hv
        injection hv with hv
        injection hv with hv1 hv
        injection hv with hv2 hv3
        subst hv1; subst hv2; subst hv3
        have be6 := be5
        have hP6 := hP5
        have HRl6 := HRl5
        go_wp2_with (fail)
        obtain ⟨vU0, hU6, HRU6⟩ : ∃ v, w5.heap[bU]? = some (.cells #[v] 58 (0, 0)) ∧ Kd.R k41 41 w5 w.heap.size (fun b => F b ∨ W.heap.size ≤ b) v out := ⟨_, (be6.block _ (hF _ fU)).trans hU, Kd.R_mono (Kd.R_below HRU be6) (fun _ hb => .inl hb)⟩
        have hm6 : Fm bU F W w5 := (Fm.refl bU F W).below be6
        have hB6 : Below w.heap.size W w5 := be6.mono hW.size
        go_loopw [53] (fun i wr => ∃ (j : Nat) (vz : Value), j ≤ l.length ∧ i = .int .i64 j ∧ wr.heap[bU]? = some (.cells #[vz] 58 (0, 0)) ∧ Kd.R k41 41 wr w.heap.size (fun b => F b ∨ W.heap.size ≤ b) vz (out ++ (l.take j).map fun v => ⟨v, p⟩) ∧
            Kd.R k33 33 wr w.heap.size (fun b => F b ∨ W.heap.size ≤ b) (.slice Al l.length cl) l ∧ wr.heap[W.heap.size]? = some (.cells #[.int .i64 p.f0, .int .i64 p.f1] 33 (0, 0)) ∧ Fm bU F W wr ∧ Below w.heap.size W wr)
          (fun i _ => l.length - (intOf i).toNat)
        case atStart => exact ⟨0, vU0, Nat.zero_le _, rfl, hU6, by simpa using HRU6, HRl6, hP6, hm6, hB6⟩
        case round =>
          obtain ⟨j, vz, hj, rfl, hUr, HRUr, HRlr, hPr, hmr, hBr⟩ := hrel
          rcases Nat.lt_or_ge j l.length with hlt | hge
          · obtain ⟨A', c', e', _, hC'⟩ := Kd.R_reads HRlr
            injection e' with e1 e2 e3
            subst e1; subst e3
            obtain ⟨ad, e, hx0, hx1⟩ := at_T33 hC' (j : Int) (by omega) (by omega)
            cases e
            rw [rd33' l j hlt, Int.toNat_natCast] at hx0 hx1
            have htk : l.take (j + 1) = l.take j ++ [l[j]] := List.take_succ_eq_append_getElem hlt
            generalize l[j] = v at hx0 hx1 htk
            have hw1 : Below wr.heap.size wr (wr.alloc (.cells #[.int .i64 v.f0, .int .i64 v.f1] 33)) := below_alloc (Below.refl _ _) _
            have hU1 := (hw1.block _ (lt_of_heap hUr)).trans hUr
            have hP1 := (hw1.block _ (lt_of_heap hPr)).trans hPr
            have HRU1 := Kd.R_below HRUr hw1
            have HRl1 := Kd.R_below HRlr hw1
            have hm1 := hmr.below hw1
            have hB1 : Below w.heap.size W (wr.alloc (.cells #[.int .i64 v.f0, .int .i64 v.f1] 33)) := hBr.trans (hw1.mono (Nat.le_trans hW.size hmr.s))
            have hz1 := Nat.le_trans (Nat.le_trans hW.size hmr.s) hw1.size
            generalize hgen : wr.alloc (.cells #[.int .i64 v.f0, .int .i64 v.f1] 33) = wr1 at hw1 hU1 hP1 HRU1 HRl1 hm1 hB1 hz1
            have cU1 : wr1.cell? ⟨bU, 0, none⟩ = some vz := (blk_cell hU1 0).trans rfl
            have cP1 : wr1.cell? ⟨W.heap.size, 0, none⟩ = some (.int .i64 p.f0) := (blk_cell hP1 0).trans rfl
            have cP2 : wr1.cell? ⟨W.heap.size, 1, none⟩ = some (.int .i64 p.f1) := (blk_cell hP1 1).trans rfl
            subst hgen
            have hlen : (out ++ (l.take j).map fun v => (⟨v, p⟩ : S41)).length = out.length + j := by simp; omega
            go_wp2_with (first
              | (at_builtin; refine Kd.R_append k41 (w0 := W) w.heap.size rfl (.tmp 57) (.tmp 61) 58 41 (.agg #[.int .i64 0, .int .i64 0, .int .i64 0, .int .i64 0]) 32 rfl hu58 info41 rfl (by decide) (by omega) vz _ (⟨v, p⟩ : S41) [.int .i64 v.f0, .int .i64 v.f1, .int .i64 p.f0, .int .i64 p.f1] (fun b => F b ∨ W.heap.size ≤ b) (fun _ => False) rfl (by first | rfl | (go_simp; done) | (go_simp; rfl) | (simp [Act.eval]; done) | (simp [World.alloc, Act.eval]; done)) (k41_mkM _ _ _ (⟨v, p⟩ : S41)) (fun _ hk => hk.elim) (fun b hb => .inr (Nat.le_trans hm1.s hb)) HRU1 hB1 hz1 (by rw [hlen]; omega) ?_; intro v1 w7 HR7 hB7 hg7 hat7; obtain ⟨A7, c7, e7⟩ := Kd.R_slice HR7; subst e7; clear hat7; have hU7 := (hg7.block bU (lt_of_heap hU1) (Kd.R_ne HRU1 hU1 (by decide))).trans hU1; have cU7 : w7.cell? ⟨bU, 0, none⟩ = some vz := (blk_cell hU7 0).trans rfl; have fU7 : w7.frozen? ⟨bU, 0, none⟩ = false := blk_frozen hU7 0))
            have hP7 := (hg7.block W.heap.size (lt_of_heap hP1) (Kd.R_ne HRU1 hP1 (by decide))).trans hP1
            have HRl7 : Kd.R k33 33 w7 w.heap.size (fun b => F b ∨ W.heap.size ≤ b) (.slice (some ad) l.length cl) l := Kd.R_mono (Kd.R_move (Kd.R_bound HRl1) (fun b hb => by
              obtain ⟨_, _, hlt7, q, hq, cs, hc⟩ := hb
              exact hg7.block b hlt7 (Kd.R_ne HRU1 hc ((by decide : ∀ q ∈ 33 :: k33.E, 41 ≠ q) q hq)))) (fun b hb => hb.1)
            refine ⟨⟨j + 1, _, hlt, rfl, (blk_set hU7 0 _).trans rfl, ?_, Kd.R_set HRl7 hU7 (by decide) 0 _, blk_far hP7 (fun e => Nat.lt_irrefl _ (e ▸ hF _ fU)) _, (hm1.grown HRU1 hg7).cell fU _, hB7.setCell (hFn _ fU) _⟩, ?_⟩
            · have h := Kd.R_set HR7 hU7 (by decide) 0 (.slice A7 ((out ++ (l.take j).map fun v => (⟨v, p⟩ : S41)) ++ [(⟨v, p⟩ : S41)]).length c7)
              rw [htk, List.map_append, ← List.append_assoc]
              have hlen2 : ((out ++ (l.take j).map fun v => (⟨v, p⟩ : S41)) ++ [(⟨v, p⟩ : S41)]).length = out.length + (j + 1) := by rw [List.length_append, hlen]; rfl
              rw [hlen2] at h
              exact h
            · simp [intOf]; omega
          · have hjl : j = l.length := by omega
            subst hjl
            rw [List.take_of_length_le (Nat.le_refl _)] at HRUr
            go_wp2_with (fail)
            have hdone := St.done hS0 hF hAU hBU hW.size hFn hmr p.f1 hUr HRUr HRlr hBr
            have hmx := hmr
            have hPx := hPr
            have hLx := (hmx.m bL _ 22 hL (by decide) hLU).trans hL
            have hTx := (hmx.m bT _ 3 hT (by decide) hTU).trans hT
            have zT0 : wr.cell? ⟨bT, 0, none⟩ = some (.int .i64 te) := (blk_cell hTx 0).trans rfl
            have zTf0 : wr.frozen? ⟨bT, 0, none⟩ = false := blk_frozen hTx 0
            have zL0 : wr.cell? ⟨bL, 0, none⟩ = some (.slice AL last.length cL) := (blk_cell hLx 0).trans rfl
            have zLf0 : wr.frozen? ⟨bL, 0, none⟩ = false := blk_frozen hLx 0
            have zP : wr.drew.cell? ⟨W.heap.size, 1, none⟩ = some (.int .i64 p.f1) := (blk_cell hPx 1).trans rfl
            have zL : wr.drew.cell? ⟨bL, 0, none⟩ = some (.slice AL last.length cL) := (blk_cell hLx 0).trans rfl
            have zLf : wr.drew.frozen? ⟨bL, 0, none⟩ = false := blk_frozen hLx 0
            have zPL : W.heap.size ≠ bL := fun e => Nat.lt_irrefl _ (e ▸ hF _ fL)
            have hTx2 : (wr.drew.setCell ⟨bL, 0, none⟩ (.slice Al l.length cl)).heap[bT]? = some (.cells #[.int .i64 te] 3 (0, 0)) := blk_far hTx hTL _
            have zT : (wr.drew.setCell ⟨bL, 0, none⟩ (.slice Al l.length cl)).cell? ⟨bT, 0, none⟩ = some (.int .i64 te) := (blk_cell hTx2 0).trans rfl
            have zTf : (wr.drew.setCell ⟨bL, 0, none⟩ (.slice Al l.length cl)).frozen? ⟨bT, 0, none⟩ = false := blk_frozen hTx2 0
            refine start_ (n := 5) (S := fun w' => w'.cell? ⟨W.heap.size, 1, none⟩ = some (.int .i64 p.f1)) (ds := [4]) #[false, false, false, false, false] (by kernel_rfl) rfl rfl (zP) (fun hHeld => ?_)
            refine pure_ (i := 0) (N := some 64) (v := ?_) (a' := ?_) #[true, false, false, false, false] rfl rfl (by kernel_rfl) (fun _ _ _ h => h) (Or.inl ⟨by rfl, ?_⟩) ?_ ?_
            rotate_left
            · intro w'
              go_simp
              with_reducible rfl
            rotate_left
            · simp only [Act.put, List.setIfInBounds_toArray, List.set_cons_zero, List.set_cons_succ, i64_w, i32_w]
              rfl
            refine pure_ (i := 1) (N := some 65) (v := ?_) (a' := ?_) #[true, true, false, false, false] rfl rfl (by kernel_rfl) (fun _ _ _ h => h) (Or.inl ⟨by rfl, ?_⟩) ?_ ?_
            rotate_left
            · intro w'
              go_simp
              with_reducible rfl
            rotate_left
            · simp only [Act.put, List.setIfInBounds_toArray, List.set_cons_zero, List.set_cons_succ, i64_w, i32_w]
              rfl
            refine take_ (i := 2) (N := some 66) (v := ?_) (a' := ?_) #[true, true, true, false, false] rfl rfl (by kernel_rfl) (fun _ _ _ h => h) (Or.inl ⟨by rfl, ?_⟩) hHeld ?_ ?_
            rotate_left
            · intro w' s0
              go_simp
              with_reducible rfl
            rotate_left
            · simp only [Act.put, List.setIfInBounds_toArray, List.set_cons_zero, List.set_cons_succ, i64_w, i32_w]
              rfl
            refine one_ (i := 3) (N := none) #[true, true, true, true, false] rfl rfl (by kernel_rfl) (by decide) (fun K hK => ?_)
            refine skip_ (w1 := wr.drew.setCell ⟨bL, 0, none⟩ (.slice Al l.length cl)) (by rfl) rfl ?_ ?_
            · go_simp
              try rfl
            refine hK.out _ _ ((cell_far (a := ⟨W.heap.size, 1, none⟩) (p := ⟨bL, 0, none⟩) zPL _).trans zP) (fun hHeld => ?_)
            clear hK K
            refine last_ (i := 4) (N := none) #[true, true, true, true, true] rfl rfl (by kernel_rfl) (by decide) (fun K hK => ?_)
            refine skip_ (w1 := (wr.drew.setCell ⟨bL, 0, none⟩ (.slice Al l.length cl)).setCell ⟨bT, 0, none⟩ (.int .i64 p.f1)) (by rfl) rfl ?_ ?_
            · go_simp
              try rfl
            refine hK.out _ _ ?_
            clear hK K
            refine done_ (by kernel_rfl) ?_
            first | go_end0 | (go_wp2; go_end0) | go_ret2
            exact ⟨rfl, hdone⟩
    · cases hv
end Go.Proofs.Ytdcelpppgbmlaaa.P
