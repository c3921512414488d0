/- The reference's tree beside the code's: what both answer is one. No condition but that a list holds at most 200 boxes. -/
import Derived.Test.YtdcelpppgbmlaaaSEWorks31
namespace Go.Proofs.Ytdcelpppgbmlaaa.P
open Go.RowKit Go.Shelf Go.Proofs.YtdcelpppgbmlaaaW.PrintWords Go.Proofs.YtdcelpppgbmlaaaW.PrintLast Go.Proofs.YtdcelpppgbmlaaaW.PrintMore
set_option linter.unusedSimpArgs false
set_option linter.unusedVariables false
structure X31 where
  wd : Int
  bx : List S51
  root : S74
  dp : Nat
theorem Ok31.search_len {T : RT} (h : Ok31 T) (r : S41) : (rtSearch T r).length ≤ 200 := by
  unfold rtSearch
  rw [List.length_mergeSort, List.length_map]
  rcases h with rfl | ⟨l, hl, hf⟩
  · exact Nat.zero_le _
  · rw [hf.hits]
    exact Nat.le_trans (List.length_filter_le _ _) (by rw [(orderedP_law l).2.length_eq]; exact hl)
theorem Ok31.stab_len {T : RT} (h : Ok31 T) (a b : Int) : (rtStab T a b).length ≤ 200 := by
  unfold rtStab
  split
  · exact Nat.zero_le _
  · exact h.search_len _
theorem ints_same (L : List Int) (hL : L.length ≤ 200) (A : Option Addr) (c : Nat) (A2 : Option Addr) (c2 : Nat) (w : World) (h1 : L.length ≤ c ∧ Kd.C (Kd.int .i64) w A L.length L) (h2 : L.length ≤ c2 ∧ Kd.C (Kd.int .i64) w A2 L.length L) : Calls Try.prog 91 #[.slice A L.length c, .slice A2 L.length c2] w fun e w' => e = .returned (.bool true) ∧ Below w.heap.size w w' :=
  (ints_calls A c L A2 c2 L w (by omega) h1.2 h1.1 h2.2 h2.1).mono fun e w' h => ⟨by rw [h.1]; simp, h.2⟩
theorem row_below {L : List Int} {A : Option Addr} {c : Nat} {w w' : World} (h : L.length ≤ c ∧ Kd.C (Kd.int .i64) w A L.length L) (hb : Below w.heap.size w w') : L.length ≤ c ∧ Kd.C (Kd.int .i64) w' A L.length L := ⟨h.1, Kd.C_below h.2 hb⟩
end Go.Proofs.Ytdcelpppgbmlaaa.P
