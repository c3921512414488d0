/- slices.Chunk over nodes: the iterator's contract. -/
import Derived.Test.YtdcelpppgbmlaaaSEChunk
namespace Go.Proofs.Ytdcelpppgbmlaaa.P
open Go.RowKit Go.Shelf Go.Proofs.YtdcelpppgbmlaaaW.PrintWords
set_option linter.unusedSimpArgs false
set_option linter.unusedVariables false
attribute [local go_sem] Oper.semAt_some
set_option maxHeartbeats 1000000 in
theorem chunkN_in (F : Fence) (n : Nat) (h167 : F.fn 167) (hro : F.round = none) (A : Option Addr) (len cap : Nat) (wd : Int) (h1 : 1 ≤ wd) (w : World) :
    CallsIn F n Try.prog 167 #[.slice A len cap, .int .i64 wd] w fun e w' => e = .returned (.func (.func 214) #[] #[.pointer (some ⟨w.heap.size, 0, none⟩), .pointer (some ⟨w.heap.size + 1, 0, none⟩)]) ∧ w' = (w.alloc (.cells #[.slice A len cap] 131)).alloc (.cells #[.int .i64 wd] 3) := by
  refine callsIn_of_wp Try.func167 rfl h167 ?_ hro
  simp only [Try.ntmps167, List.size_toArray, List.length_cons, List.length_nil, Nat.reduceAdd, Nat.reduceSub, Array.replicate_succ, Array.replicate_zero, List.push_toArray, List.append_toArray, List.nil_append, List.cons_append]
  have hno : ¬ wd < 1 := by omega
  gi_wp2
  go_ret
  exact ⟨by simp, rfl⟩
set_option maxRecDepth 100000 in
set_option maxHeartbeats 4000000 in
theorem chunkN1_in (F : Fence) (n : Nat) (h214 : F.fn 214) (hro : F.round = none) (hn : 1 ≤ n) (l Bs Bw : Nat) (ad : Addr) (len cap wd : Nat) (hlen : len < 1000000000) (hcap : len ≤ cap) (hwd : 1 ≤ wd) (hwd2 : wd < 1000000000) (J Jx : List {i : Nat // i < len} → World → Prop)
    (W : World) (hAb : AbidesFrom W.heap.size J)
    (hY : ∀ (pre : List {i : Nat // i < len}) (x : {i : Nat // i < len}) (W : World), J pre W → pre.length < len → YieldAt F (n - 1) Try.prog l #[pieceV ad 1 len wd x.1] W fun e W' =>
      (e = .returned (.bool true) ∧ J (pre ++ [x]) W' ∧ KpB Bs Bw W W') ∨ (e = .returned (.bool false) ∧ Jx (pre ++ [x]) W'))
    (hBs : W.heap[Bs]? = some (.cells #[.slice (some ad) len cap] 131 (0, 0))) (hBw : W.heap[Bw]? = some (.cells #[.int .i64 (wd : Int)] 3 (0, 0))) (h0 : J [] W) :
    CallsIn F n Try.prog 214 #[.func (.yield l) #[] #[], .pointer (some ⟨Bs, 0, none⟩), .pointer (some ⟨Bw, 0, none⟩)] W fun e W' => (∃ v, e = .returned v) ∧
      ((∃ ys, Starts len wd (ys.map (·.1)) ∧ J ys W') ∨ (∃ pre, True ∧ Jx pre W')) := by
  refine callsIn_of_wp Try.func214 rfl h214 ?_ hro
  simp only [Try.ntmps214, List.size_toArray, List.length_cons, List.length_nil, Nat.reduceAdd, Nat.reduceSub, Array.replicate_succ, Array.replicate_zero, List.push_toArray, List.append_toArray, List.nil_append, List.cons_append]
  gi_wp2
  gi_loopw [4] (fun i wr => ∃ (k : Nat) (pre : List {i : Nat // i < len}), i = .int .i64 ((k * wd : Nat) : Int) ∧ pre.map (·.1) = (List.range k).map (· * wd) ∧ (0 < k → (k - 1) * wd < len) ∧ J pre wr ∧ KpB Bs Bw W wr)
    (fun i _ => len - (intOf i).toNat)
  case atStart => exact ⟨0, [], by simp, rfl, fun h => absurd h (by omega), h0, KpB.refl _ _ _⟩
  case round =>
    obtain ⟨k, pre, rfl, hpre, hk, hJ, hKp⟩ := hrel
    have cs := box_cell (hKp.1.trans hBs)
    have cw := box_cell (hKp.2.trans hBw)
    by_cases hlt : k * wd < len
    · have hki : ((k * wd : Nat) : Int) < (len : Int) := by omega
      have hlt1 : pre.length < len := by
        have h1 : pre.length = k := by have := congrArg List.length hpre; simpa using this
        have : k ≤ k * wd := Nat.le_mul_of_pos_right k hwd
        omega
      have hJd : ∀ wr', KpB Bs Bw W wr' → J pre wr' → J pre wr'.drew := fun wr' _ h => hAb pre wr' _ none h ⟨rfl, rfl, rfl, Nat.le_refl _, fun _ _ _ => rfl⟩ (fun r e => by cases e)
      have hY2 := hY pre ⟨k * wd, hlt⟩ wr.drew (hJd wr hKp hJ) hlt1
      obtain ⟨fn, tmps, assign, body, hy, hR⟩ := hY2
      have hpre' : ∀ x : {i : Nat // i < len}, x.1 = k * wd → (pre ++ [x]).map (·.1) = (List.range (k + 1)).map (· * wd) := fun x hx => by simp [hpre, List.range_succ, hx]
      have hnext : k * wd + wd = (k + 1) * wd := by rw [Nat.add_mul, Nat.one_mul]
      obtain ⟨m, hm, hm1, hm2, hif⟩ : ∃ m : Nat, min wd (len - k * wd) = m ∧ 1 ≤ m ∧ k * wd + m ≤ len ∧ (if len - k * wd < wd then ((len - k * wd : Nat) : Int) else (wd : Int)) = (m : Int) := by
        refine ⟨_, rfl, by omega, by omega, ?_⟩
        split <;> omega
      have hk0 : (k + 1 - 1) * wd < len := by simpa using hlt
      simp only [pieceV, hm, Nat.mul_one] at hy
      clear hY hJd hm hpre hk hlt1 hAb
      generalize k * wd = i at *
      gi_wp2
      have b1 : i ≤ cap := by omega
      have b2 : i ≤ len := by omega
      have b3 : i + m ≤ cap := by omega
      have b4 : ¬ cap = i := by omega
      have hw : wrap64 ((i : Int) + (m : Int)) = ((i + m : Nat) : Int) := by unfold wrap64; omega
      have cs' : wr.drew.cell? ⟨Bs, 0, none⟩ = some (.slice (some ad) len cap) := cs
      have cw' : wr.drew.cell? ⟨Bw, 0, none⟩ = some (.int .i64 (wd : Int)) := cw
      gi_region
      all_goals try simp only [hif]
      all_goals (
        clear cs cw
        gi_wp2
        refine hR.mono ?_
        clear hR hy
        rintro e W3 (⟨rfl, hJ3, hk3⟩ | ⟨rfl, hJx3⟩)
        · have cw3 : W3.cell? ⟨Bw, 0, none⟩ = some (.int .i64 (wd : Int)) := box_cell (hk3.2.trans (hKp.2.trans hBw))
          have hw3 : wrap64 ((i : Int) + (wd : Int)) = ((i + wd : Nat) : Int) := by unfold wrap64; omega
          have hP := hpre' ⟨i, hlt⟩ rfl
          have hA := Aside0.mk hP
          have hA2 := Aside0.mk hnext
          clear hpre' hif hnext hP
          gi_wp2
          exact ⟨⟨k + 1, pre ++ [⟨i, hlt⟩], by rw [← hA2.out, Int.natCast_add], hA.out, fun _ => hk0, hJ3, hKp.trans (show KpB Bs Bw wr W3 from hk3)⟩, by simp only [intOf]; omega⟩
        · gi_wp2
          refine bodyPost_ret (results_none rfl _ _ _) rfl ?_
          exact ⟨⟨_, rfl⟩, .inr ⟨_, trivial, hJx3⟩⟩)
    · have hki : ¬ ((k * wd : Nat) : Int) < (len : Int) := by omega
      gi_wp2
      go_end0
      exact ⟨⟨_, rfl⟩, .inl ⟨pre, ⟨k, hpre, by omega, hk⟩, hJ⟩⟩
end Go.Proofs.Ytdcelpppgbmlaaa.P
