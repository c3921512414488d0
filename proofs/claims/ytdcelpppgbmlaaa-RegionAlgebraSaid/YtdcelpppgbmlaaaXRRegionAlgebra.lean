/- The statement RegionAlgebraSaid: the combinations obey the laws of sets. Out of the contract of the Go function and the plain law. No condition. -/
import Derived.Test.YtdcelpppgbmlaaaRows
import Derived.Test.YtdcelpppgbmlaaaXESign
import Derived.Test.YtdcelpppgbmlaaaXEOpen58
import Derived.Test.YtdcelpppgbmlaaaXPLaw05d
import Derived.Test.YtdcelpppgbmlaaaXLRegionAlgebra
import Derived.WalkKit
import Derived.ProofKit
import Derived.OpenShut
import Derived.ShutString
import Derived.ChangeOld
import Derived.Below
import Derived.SizedLaws
import Derived.ChangeSame
namespace Go.Proofs.Ytdcelpppgbmlaaa.regionAlgebra
open Go.ChangeShapes Go.WideShapes Go.ChangeAt Go.RowKit
open Go.ChangeMaps (open_string shut_string)
set_option linter.unusedVariables false
theorem own : ownKnob Try.prog.godebug = none := by kernel_rfl
theorem laidOut : laidOutB Try.prog = true := by kernel_rfl
set_option maxRecDepth 100000 in
theorem lifted (os : Os) (started : os.Started) (H : Type) (enc : TypeId × Value → H) :
    ReturnsInHanded {} Try.checked os 12 .any (Rows.regionAlgebraSpec.pre6 enc Try.prog Try.f12 Rows.regionAlgebraRow.domain false) (Rows.regionAlgebraSpec.post enc Try.prog Try.f12 false true false false) := by
  refine returnsInHanded_of_change_sized (C := Try.checked) own started (by kernel_rfl) Try.func12
    (ChangeSpec.witness6 (enc := enc) (C := Try.checked) false ⟨#[], #[.slice none 0 0, .slice none 0 0, .slice none 0 0], []⟩ 8 (by kernel_rfl) (by kernel_rfl) (by kernel_rfl) (by kernel_rfl)) ?_
  intro W base args ds gs before hval0 hW hcnd hsz0 _
  have hval : ∀ (j : Nat) t v, Try.f12.params[j]? = some t → args[j]? = some v → Value.okWide Try.prog W .any base t v := hval0
  have hW' := hW
  obtain ⟨p, q, hA0, hV, rfl, hfz, hnd⟩ := hW
  have hA : DataW.TrodAll enc Try.prog W 0 (fun _ => true) true Try.f12.params.toList args.toList ds p := hA0
  rw [Try.params12] at hA hval
  obtain ⟨v0, vs0, d0, ds0, p0, q0, hargs, rfl, rfl, h0, r0⟩ := trodAll_cons hA
  obtain ⟨v1, vs1, d1, ds1, p1, q1, rfl, rfl, rfl, h1, r1⟩ := trodAll_cons r0
  obtain ⟨v2, vs2, d2, ds2, p2, q2, rfl, rfl, rfl, h2, r2⟩ := trodAll_cons r1
  obtain ⟨rfl, rfl, rfl⟩ := trodAll_nil r2
  obtain rfl : args = #[v0, v1, v2] := by cases args; simp_all
  obtain ⟨rfl, rfl⟩ := trodVars_none hV
  obtain ⟨a0, len0, cap0, rfl⟩ := okWide_slice Try.underlying58 (hval 0 58 v0 rfl rfl)
  have k0 := h0
  have lt0 : ∀ x ∈ p0, x.block < W.heap.size := by obtain ⟨m, hm⟩ := k0; exact DataW.trod_lt m _ _ _ hm
  obtain ⟨A0, c0, l0, e0, hc0, hr0⟩ := P.opens58 h0
  have e0' : len0 = l0.length ∧ cap0 = c0 ∧ a0 = A0 := by simp [Value.cells] at e0; exact ⟨e0.2.1, e0.2.2, e0.1⟩
  obtain ⟨rfl, rfl, rfl⟩ := e0'
  obtain ⟨a1, len1, cap1, rfl⟩ := okWide_slice Try.underlying58 (hval 1 58 v1 rfl rfl)
  have k1 := h1
  have lt1 : ∀ x ∈ p1, x.block < W.heap.size := by obtain ⟨m, hm⟩ := k1; exact DataW.trod_lt m _ _ _ hm
  obtain ⟨A1, c1, l1, e1, hc1, hr1⟩ := P.opens58 h1
  have e1' : len1 = l1.length ∧ cap1 = c1 ∧ a1 = A1 := by simp [Value.cells] at e1; exact ⟨e1.2.1, e1.2.2, e1.1⟩
  obtain ⟨rfl, rfl, rfl⟩ := e1'
  obtain ⟨a2, len2, cap2, rfl⟩ := okWide_slice Try.underlying58 (hval 2 58 v2 rfl rfl)
  have k2 := h2
  have lt2 : ∀ x ∈ p2, x.block < W.heap.size := by obtain ⟨m, hm⟩ := k2; exact DataW.trod_lt m _ _ _ hm
  obtain ⟨A2, c2, l2, e2, hc2, hr2⟩ := P.opens58 h2
  have e2' : len2 = l2.length ∧ cap2 = c2 ∧ a2 = A2 := by simp [Value.cells] at e2; exact ⟨e2.2.1, e2.2.2, e2.1⟩
  obtain ⟨rfl, rfl, rfl⟩ := e2'
  clear hA0 hval0 hsz0
  obtain ⟨k, hk⟩ := P.RegionAlgebra_pure l0 l1 l2
  refine (P.bitemporallaw05_RegionAlgebra.calls k _ _ l0 _ _ l1 _ _ l2 true W hr0 hc0 hr1 hc1 hr2 hc2 hk).mono ?_
  rintro e W' ⟨rfl, bel⟩
  exact ⟨_, rfl, _, _, _, [], _, [], hW', trodAll_mk1 (shut_bool Try.underlying4 _), (trodAll_cons_mk (Below.trod laidOut (by kernel_rfl) (of_decide_eq_true (by kernel_rfl)) k0 bel lt0) (trodAll_cons_mk (Below.trod laidOut (by kernel_rfl) (of_decide_eq_true (by kernel_rfl)) k1 bel lt1) (trodAll_cons_mk (Below.trod laidOut (by kernel_rfl) (of_decide_eq_true (by kernel_rfl)) k2 bel lt2) trodAll_mk0))), rfl, bel.frame _, fun h => by cases h⟩
set_option maxRecDepth 100000 in
theorem closed : joinedFacts Try.prog 12 Try.f12 Rows.regionAlgebraSpec Rows.regionAlgebraRow = true := by
  unfold joinedFacts
  rw [make_eq, liftsFinal_eq, mayEnter_eq]
  kernel_rfl
theorem over : Rows.regionAlgebraRow.holds Try.pinned (OpenSpec.ofChange Rows.regionAlgebraSpec) :=
  OpenClaim.holds_of_wide 12 Try.f12 rfl rfl rfl rfl rfl rfl rfl ⟨rfl, rfl, rfl, rfl, rfl⟩ rfl rfl rfl rfl rfl (by kernel_rfl) Try.func12 closed
    (of_decide_eq_true (by kernel_rfl)) (by unfold Func.isWrapper; first | (rw [if_pos (by decide +kernel)]; kernel_rfl) | (rw [if_neg (by decide +kernel)]; exact ⟨rfl, rfl⟩))
    (fun os started H enc _ => lifted os started H enc)
theorem proved : Rows.RegionAlgebraSaid := over
#print axioms proved
end Go.Proofs.Ytdcelpppgbmlaaa.regionAlgebra
namespace Go.Proofs.Ytdcelpppgbmlaaa
theorem regionAlgebra_holds : Rows.RegionAlgebraSaid := regionAlgebra.proved
end Go.Proofs.Ytdcelpppgbmlaaa
