/- The statement RegionCombinesSaid: Union, Intersect and Subtract are the reference's. Out of the contract of the Go function and the plain law. No condition. -/
import Derived.Test.YtdcelpppgbmlaaaRows
import Derived.Test.YtdcelpppgbmlaaaYESign
import Derived.Test.YtdcelpppgbmlaaaYEOpen58
import Derived.Test.YtdcelpppgbmlaaaYPLaw05b
import Derived.Test.YtdcelpppgbmlaaaYLRegionCombines
import Derived.WalkKit
import Derived.ProofKit
import Derived.OpenShut
import Derived.ShutString
import Derived.ChangeOld
import Derived.Below
import Derived.SizedLaws
import Derived.ChangeSame
namespace Go.Proofs.Ytdcelpppgbmlaaa.regionCombines
open Go.ChangeShapes Go.WideShapes Go.ChangeAt Go.RowKit
open Go.ChangeMaps (open_string shut_string)
set_option linter.unusedVariables false
theorem own : ownKnob Try.prog.godebug = none := by kernel_rfl
theorem laidOut : laidOutB Try.prog = true := by kernel_rfl
set_option maxRecDepth 100000 in
theorem lifted (os : Os) (started : os.Started) (H : Type) (enc : TypeId × Value → H) :
    ReturnsInHanded {} Try.checked os 11 .any (Rows.regionCombinesSpec.pre6 enc Try.prog Try.f11 Rows.regionCombinesRow.domain false) (Rows.regionCombinesSpec.post enc Try.prog Try.f11 false true false false) := by
  refine returnsInHanded_of_change_sized (C := Try.checked) own started (by kernel_rfl) Try.func11
    (ChangeSpec.witness6 (enc := enc) (C := Try.checked) false ⟨#[], #[.slice none 0 0, .slice none 0 0], []⟩ 8 (by kernel_rfl) (by kernel_rfl) (by kernel_rfl) (by kernel_rfl)) ?_
  intro W base args ds gs before hval0 hW hcnd hsz0 _
  have hval : ∀ (j : Nat) t v, Try.f11.params[j]? = some t → args[j]? = some v → Value.okWide Try.prog W .any base t v := hval0
  have hW' := hW
  obtain ⟨p, q, hA0, hV, rfl, hfz, hnd⟩ := hW
  have hA : DataW.TrodAll enc Try.prog W 0 (fun _ => true) true Try.f11.params.toList args.toList ds p := hA0
  rw [Try.params11] at hA hval
  obtain ⟨v0, vs0, d0, ds0, p0, q0, hargs, rfl, rfl, h0, r0⟩ := trodAll_cons hA
  obtain ⟨v1, vs1, d1, ds1, p1, q1, rfl, rfl, rfl, h1, r1⟩ := trodAll_cons r0
  obtain ⟨rfl, rfl, rfl⟩ := trodAll_nil r1
  obtain rfl : args = #[v0, v1] := by cases args; simp_all
  obtain ⟨rfl, rfl⟩ := trodVars_none hV
  obtain ⟨a0, len0, cap0, rfl⟩ := okWide_slice Try.underlying58 (hval 0 58 v0 rfl rfl)
  have k0 := h0
  have lt0 : ∀ x ∈ p0, x.block < W.heap.size := by obtain ⟨m, hm⟩ := k0; exact DataW.trod_lt m _ _ _ hm
  obtain ⟨A0, c0, l0, e0, hc0, hr0⟩ := P.opens58 h0
  have e0' : len0 = l0.length ∧ cap0 = c0 ∧ a0 = A0 := by simp [Value.cells] at e0; exact ⟨e0.2.1, e0.2.2, e0.1⟩
  obtain ⟨rfl, rfl, rfl⟩ := e0'
  obtain ⟨a1, len1, cap1, rfl⟩ := okWide_slice Try.underlying58 (hval 1 58 v1 rfl rfl)
  have k1 := h1
  have lt1 : ∀ x ∈ p1, x.block < W.heap.size := by obtain ⟨m, hm⟩ := k1; exact DataW.trod_lt m _ _ _ hm
  obtain ⟨A1, c1, l1, e1, hc1, hr1⟩ := P.opens58 h1
  have e1' : len1 = l1.length ∧ cap1 = c1 ∧ a1 = A1 := by simp [Value.cells] at e1; exact ⟨e1.2.1, e1.2.2, e1.1⟩
  obtain ⟨rfl, rfl, rfl⟩ := e1'
  clear hA0 hval0 hsz0
  obtain ⟨k, hk⟩ := P.RegionCombines_pure l0 l1
  refine (P.bitemporallaw05_RegionCombines.calls k _ _ l0 _ _ l1 true W hr0 hc0 hr1 hc1 hk).mono ?_
  rintro e W' ⟨rfl, bel⟩
  exact ⟨_, rfl, _, _, _, [], _, [], hW', trodAll_mk1 (shut_bool Try.underlying4 _), (trodAll_cons_mk (Below.trod laidOut (by kernel_rfl) (of_decide_eq_true (by kernel_rfl)) k0 bel lt0) (trodAll_cons_mk (Below.trod laidOut (by kernel_rfl) (of_decide_eq_true (by kernel_rfl)) k1 bel lt1) trodAll_mk0)), rfl, bel.frame _, fun h => by cases h⟩
set_option maxRecDepth 100000 in
theorem closed : joinedFacts Try.prog 11 Try.f11 Rows.regionCombinesSpec Rows.regionCombinesRow = true := by
  unfold joinedFacts
  rw [make_eq, liftsFinal_eq, mayEnter_eq]
  kernel_rfl
theorem over : Rows.regionCombinesRow.holds Try.pinned (OpenSpec.ofChange Rows.regionCombinesSpec) :=
  OpenClaim.holds_of_wide 11 Try.f11 rfl rfl rfl rfl rfl rfl rfl ⟨rfl, rfl, rfl, rfl, rfl⟩ rfl rfl rfl rfl rfl (by kernel_rfl) Try.func11 closed
    (of_decide_eq_true (by kernel_rfl)) (by unfold Func.isWrapper; first | (rw [if_pos (by decide +kernel)]; kernel_rfl) | (rw [if_neg (by decide +kernel)]; exact ⟨rfl, rfl⟩))
    (fun os started H enc _ => lifted os started H enc)
theorem proved : Rows.RegionCombinesSaid := over
#print axioms proved
end Go.Proofs.Ytdcelpppgbmlaaa.regionCombines
namespace Go.Proofs.Ytdcelpppgbmlaaa
theorem regionCombines_holds : Rows.RegionCombinesSaid := regionCombines.proved
end Go.Proofs.Ytdcelpppgbmlaaa
