/- region.combine, and the four functions that call it. -/
import Derived.Test.YtdcelpppgbmlaaaZEVisit
import Derived.Test.YtdcelpppgbmlaaaZPSpanc
namespace Go.Proofs.Ytdcelpppgbmlaaa.P
set_option linter.unusedSimpArgs false
set_option linter.unusedVariables false
open Go.RowKit Go.Sort Go.Shelf Go.Proofs.YtdcelpppgbmlaaaW.PrintWords Go.Proofs.YtdcelpppgbmlaaaW.PrintLast Go.Proofs.YtdcelpppgbmlaaaW.PrintMore
theorem alloc_size (w : World) (o : Obj) : (w.alloc o).heap.size = w.heap.size + 1 := by simp
theorem alloc_heap (w : World) (o : Obj) (b : Nat) : (w.alloc o).heap[b]? = if b = w.heap.size then some o else w.heap[b]? := by
  by_cases h : b = w.heap.size
  · subst h
    rw [if_pos rfl]
    simpa using heap_alloc_new w o
  · rw [if_neg h]
    rcases Nat.lt_or_ge b w.heap.size with h1 | h1
    · exact (below_alloc (Below.refl w.heap.size w) o).block b h1
    · rw [Array.getElem?_eq_none (by simp; omega), Array.getElem?_eq_none (by omega)]
def visits (k : Nat) (K : Nat → List S33 → List S33 → Option (List S33)) (la lb : List S41) : List S33 → Int × List S33 × List S41 → Option (List S41)
  | [], s => some s.2.2
  | p :: r, s => (visit k K la lb p s).bind (visits k K la lb r)
def region_combine.f (k : Nat) (la lb : List S41) (K : Nat → List S33 → List S33 → Option (List S33)) : Option (List S41) :=
  if la.length + lb.length < 1000000000 then (span_Slices.f k (sysOf (la ++ lb))).bind fun ps => if ps.length < 9223372036854775807 then visits k K la lb ps (-1, [], []) else none else none
set_option maxHeartbeats 8000000 in
set_option maxRecDepth 100000 in
theorem region_combine.calls (k : Nat) (K : Nat → List S33 → List S33 → Option (List S33)) (gK : Nat)
    (hKc : ∀ (A0 A1 : Option Addr) (c0 c1 : Nat) (l0 l1 r : List S33) (W : World), Kd.C k33 W A0 l0.length l0 → l0.length ≤ c0 → Kd.C k33 W A1 l1.length l1 → l1.length ≤ c1 → K k l0 l1 = some r → Calls Try.prog gK #[.slice A0 l0.length c0, .slice A1 l1.length c1] W fun e w' => ∃ v, e = .returned v ∧ Kd.R k33 33 w' W.heap.size (fun _ => True) v r ∧ Below W.heap.size W w')
    (hgK : ∀ (as_ : Array Value) (W_ : World), (callFunc gK as_).run Try.prog W_ = .ok (.enter gK as_) W_)
    (w : World) (A0 A1 : Option Addr) (c0 c1 : Nat) (la lb : List S41) (r : List S41) (hr0 : Kd.C k41 w A0 la.length la) (hc0 : la.length ≤ c0) (hr1 : Kd.C k41 w A1 lb.length lb) (hc1 : lb.length ≤ c1) (h : region_combine.f k la lb K = some r) :
    Calls Try.prog 131 #[.slice A0 la.length c0, .slice A1 lb.length c1, .func (.func gK) #[] #[]] w fun e w' => ∃ v, e = .returned v ∧ Kd.R k41 41 w' w.heap.size (fun _ => True) v r ∧ Below w.heap.size w w' := by
  have hu58 := Try.underlying58
  have hu22 := Try.underlying22
  unfold region_combine.f at h
  split at h
  · rename_i hsz
    obtain ⟨ps, hps, h⟩ := Option.bind_eq_some_iff.mp h
    split at h
    · rename_i hpl
      have hmf : ∀ (fn : Fn) (first cap : Array Value) (w : World), (Instr.makeFunc fn first cap).run Try.prog w = .ok (.func fn first cap) w := fun _ _ _ _ => rfl
      go_enter Try.func131, Try.ntmps131
      go_wp2_with (fail)
      have h6 : Below w.heap.size w ((((((w.alloc (.cells #[.slice A0 la.length c0] 58)).alloc (.cells #[.slice A1 lb.length c1] 58)).alloc (.cells #[.func (.func gK) #[] #[]] 35)).alloc (.cells #[.slice none 0 0] 58)).alloc (.cells #[.slice none 0 0] 22)).alloc (.cells #[.int .i64 (-1)] 3)) :=
        below_alloc (below_alloc (below_alloc (below_alloc (below_alloc (below_alloc (Below.refl _ _) _) _) _) _) _) _
      have qA : ((((((w.alloc (.cells #[.slice A0 la.length c0] 58)).alloc (.cells #[.slice A1 lb.length c1] 58)).alloc (.cells #[.func (.func gK) #[] #[]] 35)).alloc (.cells #[.slice none 0 0] 58)).alloc (.cells #[.slice none 0 0] 22)).alloc (.cells #[.int .i64 (-1)] 3)).heap[w.heap.size]? = some (.cells #[.slice A0 la.length c0] 58 (0, 0)) := by
        simp only [alloc_heap, alloc_size]
        rw [if_neg (by omega), if_neg (by omega), if_neg (by omega), if_neg (by omega), if_neg (by omega), if_pos trivial]
      have qB : ((((((w.alloc (.cells #[.slice A0 la.length c0] 58)).alloc (.cells #[.slice A1 lb.length c1] 58)).alloc (.cells #[.func (.func gK) #[] #[]] 35)).alloc (.cells #[.slice none 0 0] 58)).alloc (.cells #[.slice none 0 0] 22)).alloc (.cells #[.int .i64 (-1)] 3)).heap[w.heap.size + 1]? = some (.cells #[.slice A1 lb.length c1] 58 (0, 0)) := by
        simp only [alloc_heap, alloc_size]
        rw [if_neg (by omega), if_neg (by omega), if_neg (by omega), if_neg (by omega), if_pos trivial]
      have qO : ((((((w.alloc (.cells #[.slice A0 la.length c0] 58)).alloc (.cells #[.slice A1 lb.length c1] 58)).alloc (.cells #[.func (.func gK) #[] #[]] 35)).alloc (.cells #[.slice none 0 0] 58)).alloc (.cells #[.slice none 0 0] 22)).alloc (.cells #[.int .i64 (-1)] 3)).heap[w.heap.size + 1 + 1]? = some (.cells #[.func (.func gK) #[] #[]] 35 (0, 0)) := by
        simp only [alloc_heap, alloc_size]
        rw [if_neg (by omega), if_neg (by omega), if_neg (by omega), if_pos trivial]
      have qU : ((((((w.alloc (.cells #[.slice A0 la.length c0] 58)).alloc (.cells #[.slice A1 lb.length c1] 58)).alloc (.cells #[.func (.func gK) #[] #[]] 35)).alloc (.cells #[.slice none 0 0] 58)).alloc (.cells #[.slice none 0 0] 22)).alloc (.cells #[.int .i64 (-1)] 3)).heap[w.heap.size + 1 + 1 + 1]? = some (.cells #[.slice none 0 0] 58 (0, 0)) := by
        simp only [alloc_heap, alloc_size]
        rw [if_neg (by omega), if_neg (by omega), if_pos trivial]
      have qL : ((((((w.alloc (.cells #[.slice A0 la.length c0] 58)).alloc (.cells #[.slice A1 lb.length c1] 58)).alloc (.cells #[.func (.func gK) #[] #[]] 35)).alloc (.cells #[.slice none 0 0] 58)).alloc (.cells #[.slice none 0 0] 22)).alloc (.cells #[.int .i64 (-1)] 3)).heap[w.heap.size + 1 + 1 + 1 + 1]? = some (.cells #[.slice none 0 0] 22 (0, 0)) := by
        simp only [alloc_heap, alloc_size]
        rw [if_neg (by omega), if_pos trivial]
      have qT : ((((((w.alloc (.cells #[.slice A0 la.length c0] 58)).alloc (.cells #[.slice A1 lb.length c1] 58)).alloc (.cells #[.func (.func gK) #[] #[]] 35)).alloc (.cells #[.slice none 0 0] 58)).alloc (.cells #[.slice none 0 0] 22)).alloc (.cells #[.int .i64 (-1)] 3)).heap[w.heap.size + 1 + 1 + 1 + 1 + 1]? = some (.cells #[.int .i64 (-1)] 3 (0, 0)) := by
        simp only [alloc_heap, alloc_size]
        rw [if_pos trivial]
      have qs : ((((((w.alloc (.cells #[.slice A0 la.length c0] 58)).alloc (.cells #[.slice A1 lb.length c1] 58)).alloc (.cells #[.func (.func gK) #[] #[]] 35)).alloc (.cells #[.slice none 0 0] 58)).alloc (.cells #[.slice none 0 0] 22)).alloc (.cells #[.int .i64 (-1)] 3)).heap.size = w.heap.size + 1 + 1 + 1 + 1 + 1 + 1 := by simp
      generalize ((((((w.alloc (.cells #[.slice A0 la.length c0] 58)).alloc (.cells #[.slice A1 lb.length c1] 58)).alloc (.cells #[.func (.func gK) #[] #[]] 35)).alloc (.cells #[.slice none 0 0] 58)).alloc (.cells #[.slice none 0 0] 22)).alloc (.cells #[.int .i64 (-1)] 3)) = W6 at h6 qA qB qO qU qL qT qs ⊢
      have hgo : ∀ (as_ : Array Value) (W_ : World), (callFunc 171 as_).run Try.prog W_ = .ok (.enter 171 as_) W_ := fun as_ W_ => enters_ Try.func171 (by kernel_rfl) rfl as_ W_
      refine (each_calls k W6 A0 A1 c0 c1 la lb (Kd.C_below hr0 h6) (Kd.C_below hr1 h6) hsz ps hps 171
        #[.pointer (some ⟨w.heap.size + 1 + 1, 0, none⟩), .pointer (some ⟨w.heap.size, 0, none⟩), .pointer (some ⟨w.heap.size + 1, 0, none⟩), .pointer (some ⟨w.heap.size + 1 + 1 + 1 + 1 + 1, 0, none⟩), .pointer (some ⟨w.heap.size + 1 + 1 + 1 + 1, 0, none⟩), .pointer (some ⟨w.heap.size + 1 + 1 + 1, 0, none⟩)]
        w.heap.size h6.size
        (fun m W F => ∃ te last out, visits k K la lb (ps.drop m) (te, last, out) = some r ∧ St gK (w.heap.size + 1 + 1) w.heap.size (w.heap.size + 1) (w.heap.size + 1 + 1 + 1 + 1 + 1) (w.heap.size + 1 + 1 + 1 + 1) (w.heap.size + 1 + 1 + 1) w.heap.size (.slice A0 la.length c0) (.slice A1 lb.length c1) W F te last out ∧ Below w.heap.size w W ∧ ∀ b, F b → w.heap.size ≤ b)
        (fun b => w.heap.size ≤ b ∧ b < w.heap.size + 1 + 1 + 1 + 1 + 1 + 1)
        ⟨-1, [], [], h, ⟨qO, qA, qB, qT, ⟨_, qL, Kd.R_nil _ _ _ _ _⟩, ⟨_, qU, Kd.R_nil _ _ _ _ _⟩, by omega, by omega, by omega, by omega, by omega, by omega⟩, h6, fun b hb => hb.1⟩
        (fun b hb => by omega) ?hIm hpl hgo ?hIv).mono ?_
      case hIm =>
        rintro i W W' F ⟨te, last, out, hv, ⟨hO, hA, hB, hT, ⟨vL, hL, HRL⟩, ⟨vU, hU, HRU⟩, fO, fA, fB, fT, fL, fU⟩, hW, hF⟩ hb
        exact ⟨te, last, out, hv, ⟨(hb.block _ (lt_of_heap hO)).trans hO, (hb.block _ (lt_of_heap hA)).trans hA, (hb.block _ (lt_of_heap hB)).trans hB, (hb.block _ (lt_of_heap hT)).trans hT, ⟨vL, (hb.block _ (lt_of_heap hL)).trans hL, Kd.R_below HRL hb⟩, ⟨vU, (hb.block _ (lt_of_heap hU)).trans hU, Kd.R_below HRU hb⟩, fO, fA, fB, fT, fL, fU⟩, below_step hW hb, hF⟩
      case hIv =>
        rintro i hi W F ⟨te, last, out, hv, hS, hW, hFn⟩ hF
        rw [List.drop_eq_getElem_cons hi] at hv
        obtain ⟨⟨te', last', out'⟩, hv1, hv2⟩ := Option.bind_eq_some_iff.mp (show (visit k K la lb ps[i] (te, last, out)).bind (visits k K la lb (ps.drop (i + 1))) = some r from hv)
        refine (visit_calls k K gK hKc hgK w A0 A1 c0 c1 la lb hr0 hc0 hr1 hc1 _ _ _ _ _ _ (by omega) (by omega) ps[i] W F hF te last out te' last' out' hS hW hFn hv1).mono ?_
        rintro e W' ⟨rfl, F', hS', hF', hn', hB'⟩
        exact ⟨rfl, F', ⟨te', last', out', hv2, hS', hW.trans hB', fun b hb => by
          rcases (hF' b hb).1 with h1 | h1
          · exact hFn b h1
          · exact Nat.le_trans hW.size h1⟩, hF', hn', hB'⟩
      rintro e w1 ⟨rfl, F', ⟨te, last, out, hv, hS, hW, hF⟩, hB⟩
      rw [List.drop_of_length_le (Nat.le_refl _)] at hv
      injection hv with hv
      have hv' : out = r := hv
      subst hv'
      obtain ⟨hO, hA, hB', hT, _, ⟨vU, hU, HRU⟩, _⟩ := hS
      have cU : w1.cell? ⟨w.heap.size + 1 + 1 + 1, 0, none⟩ = some vU := (blk_cell hU 0).trans rfl
      go_wp2_with (fail)
      go_ret
      exact ⟨_, rfl, Kd.R_mono HRU (fun _ _ => trivial), hW⟩
    · cases h
  · cases h
theorem visit.mono {K : Nat → List S33 → List S33 → Option (List S33)} (hK : ∀ x y k, LeO (K k x y) (K (k + 1) x y)) (la lb : List S41) (p : S33) (s : Int × List S33 × List S41) (k : Nat) : LeO (visit k K la lb p s) (visit (k + 1) K la lb p s) := by
  unfold visit
  refine LeO.bind (region_slice.mono _ _ _) fun x => LeO.bind (region_slice.mono _ _ _) fun y => LeO.bind (hK _ _ _) fun l => ?_
  refine LeO.ite (LeO.refl _) (LeO.ite (LeO.ite (LeO.bind (api_Period.mono _ _ _) fun e => LeO.refl _) (LeO.refl _)) (LeO.refl _))
theorem visits.mono {K : Nat → List S33 → List S33 → Option (List S33)} (hK : ∀ x y k, LeO (K k x y) (K (k + 1) x y)) (la lb : List S41) (k : Nat) : ∀ (ps : List S33) (s : Int × List S33 × List S41), LeO (visits k K la lb ps s) (visits (k + 1) K la lb ps s)
  | [], s => LeO.refl _
  | p :: r, s => LeO.bind (visit.mono hK la lb p s k) fun s' => visits.mono hK la lb k r s'
def region_Subtract.f (k : Nat) (l0 : List S41) (l1 : List S41) : Option (List S41) := region_combine.f k l0 l1 (fun k x y => span_Subtract.f k x y)
set_option maxHeartbeats 8000000 in
set_option maxRecDepth 100000 in
theorem region_Subtract.calls (k : Nat) (A0 : Option Addr) (c0 : Nat) (l0 : List (S41)) (A1 : Option Addr) (c1 : Nat) (l1 : List (S41)) (r : List (S41)) (w : World) (hr0 : Kd.C k41 w A0 l0.length l0) (hc0 : l0.length ≤ c0) (hr1 : Kd.C k41 w A1 l1.length l1) (hc1 : l1.length ≤ c1) (h : region_Subtract.f k l0 l1 = some r) :
    Calls Try.prog 71 #[.slice A0 l0.length c0, .slice A1 l1.length c1] w fun e w' => ∃ v0_ : Value, e = .returned (v0_) ∧ Kd.R k41 41 w' w.heap.size (fun _ => True) v0_ r ∧ Below w.heap.size w w' := by
  go_enter Try.func71, Try.ntmps71
  go_wp2_with (first | (go_at_call 131; refine (region_combine.calls k (fun k x y => span_Subtract.f k x y) 42 (fun A0 A1 c0 c1 l0 l1 r W h0 h1 h2 h3 h4 => span_Subtract.calls k A0 c0 l0 A1 c1 l1 r W h0 h1 h2 h3 h4) (fun as_ W_ => enters_ Try.func42 (by kernel_rfl) rfl as_ W_) _ _ _ _ _ l0 l1 r hr0 hc0 hr1 hc1 h).mono ?_; rintro e w1 ⟨v, rfl, HR, HB⟩))
  go_ret
  exact ⟨_, rfl, HR, HB⟩
def region_Of.f (k : Nat) (l0 : List S41)  : Option (List S41) := region_combine.f k l0 ([] : List S41) (fun k x y => span_Union.f k x y)
set_option maxHeartbeats 8000000 in
set_option maxRecDepth 100000 in
theorem region_Of.calls (k : Nat) (A0 : Option Addr) (c0 : Nat) (l0 : List (S41))  (r : List (S41)) (w : World) (hr0 : Kd.C k41 w A0 l0.length l0) (hc0 : l0.length ≤ c0)  (h : region_Of.f k l0  = some r) :
    Calls Try.prog 73 #[.slice A0 l0.length c0] w fun e w' => ∃ v0_ : Value, e = .returned (v0_) ∧ Kd.R k41 41 w' w.heap.size (fun _ => True) v0_ r ∧ Below w.heap.size w w' := by
  go_enter Try.func73, Try.ntmps73
  go_wp2_with (first | (go_at_call 131; refine (region_combine.calls k (fun k x y => span_Union.f k x y) 40 (fun A0 A1 c0 c1 l0 l1 r W h0 h1 h2 h3 h4 => span_Union.calls k A0 c0 l0 A1 c1 l1 r W h0 h1 h2 h3 h4) (fun as_ W_ => enters_ Try.func40 (by kernel_rfl) rfl as_ W_) _ _ _ _ _ l0 ([] : List S41) r hr0 hc0 (Kd.C_nil k41 w) (Nat.le_refl _) h).mono ?_; rintro e w1 ⟨v, rfl, HR, HB⟩))
  go_ret
  exact ⟨_, rfl, HR, HB⟩
end Go.Proofs.Ytdcelpppgbmlaaa.P
