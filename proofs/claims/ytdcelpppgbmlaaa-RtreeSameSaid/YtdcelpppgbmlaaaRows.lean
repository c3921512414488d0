/-
  No cell of these rows narrows 'for every input' (looked for: loops, veiled, ifaces, maps, wideKeys, modest, calm, conditions, laid).
  DERIVED. THE GIVEN ROWS OF THIS SEAT. 23 by the template 'for every input the law returns true; each argument reads behind the call as it read before'; 0 by the template 'total and deterministic' (their statements: YtdcelpppgbmlaaaTotals.lean).
  GIVEN WITH THE SEED: the statements are not yours to turn. If you find one false, say at which input.
  Laid BY PROGRAM, IN A SANDBOX (cutbox-rows.mjs): the forced cells as the released guide's own fill.sh prints them over the translation 799b8f140a63b695… (all of the seat's roots in one cut). By AI agents, Wed Nov 11 2026. No macro, syntax, notation, axiom, sorry.
-/
import Derived.Test.YtdcelpppgbmlaaaChecked
import GoSem.Claim
import GoSem.ClaimJoined
import GoSem.ClaimMapViews
import Derived.JoinedTies
import Derived.KernelRfl
namespace Go.Proofs.Ytdcelpppgbmlaaa
/- THE CELL 'sum', in the pinned program and in every row, IS THE sha256 OF THE DUMP (.gsa) THAT YtdcelpppgbmlaaaProg.lean LOADS. Nothing in Lean hashes anything: it is a label: what it is worth is what the hold of that sum in a sandbox is worth. -/
noncomputable def Try.pinned : Pinned := { name := "ytdcelpppgbmlaaa", sum := "799b8f140a63b695358e4ef255f8f3f3ecbca2b322590b5fca685c3c86aa016d", checked := Try.checked }
namespace Rows
def none {H : Type} : Left H := { results := [], args := [] }

/-- 'bitemporallaw03.SpanOf': WHATEVER THE INPUT: true; the input reads as it did. -/
def spanOfSpec : ChangeSpec := { name := "spanOf", fn := fun _ => fun
  | [d] => { results := [.lit (.bool true)], args := [d] }
  | _ => none }
def spanOfRow : OpenClaim := { program := "ytdcelpppgbmlaaa", sum := "799b8f140a63b695358e4ef255f8f3f3ecbca2b322590b5fca685c3c86aa016d", func := "bitemporal/bitemporallaw03.SpanOf", spec := "spanOf", unfollowed := true, recurses := true, apart := false }
def SpanOfSaid : Prop := spanOfRow.holds Try.pinned (OpenSpec.ofChange spanOfSpec)

/-- ITS FALSE NEIGHBOUR: 'it returns false'. Refute it at one input. -/
def spanOfWrong : ChangeSpec := { name := "spanOf", fn := fun _ => fun
  | [d] => { results := [.lit (.bool false)], args := [d] }
  | _ => none }
def SpanOfWrongFalsely : Prop := spanOfRow.holds Try.pinned (OpenSpec.ofChange spanOfWrong)

/-- 'bitemporallaw03.SpanSlices': WHATEVER THE INPUT: true; the input reads as it did. -/
def spanSlicesSpec : ChangeSpec := { name := "spanSlices", fn := fun _ => fun
  | [d] => { results := [.lit (.bool true)], args := [d] }
  | _ => none }
def spanSlicesRow : OpenClaim := { program := "ytdcelpppgbmlaaa", sum := "799b8f140a63b695358e4ef255f8f3f3ecbca2b322590b5fca685c3c86aa016d", func := "bitemporal/bitemporallaw03.SpanSlices", spec := "spanSlices", unfollowed := true, recurses := true, apart := false }
def SpanSlicesSaid : Prop := spanSlicesRow.holds Try.pinned (OpenSpec.ofChange spanSlicesSpec)

/-- ITS FALSE NEIGHBOUR: 'it returns false'. Refute it at one input. -/
def spanSlicesWrong : ChangeSpec := { name := "spanSlices", fn := fun _ => fun
  | [d] => { results := [.lit (.bool false)], args := [d] }
  | _ => none }
def SpanSlicesWrongFalsely : Prop := spanSlicesRow.holds Try.pinned (OpenSpec.ofChange spanSlicesWrong)

/-- 'bitemporallaw03.SpanLengths': WHATEVER THE INPUT: true; the input reads as it did. -/
def spanLengthsSpec : ChangeSpec := { name := "spanLengths", fn := fun _ => fun
  | [d1, d2] => { results := [.lit (.bool true)], args := [d1, d2] }
  | _ => none }
def spanLengthsRow : OpenClaim := { program := "ytdcelpppgbmlaaa", sum := "799b8f140a63b695358e4ef255f8f3f3ecbca2b322590b5fca685c3c86aa016d", func := "bitemporal/bitemporallaw03.SpanLengths", spec := "spanLengths", unfollowed := true, recurses := true, apart := false }
def SpanLengthsSaid : Prop := spanLengthsRow.holds Try.pinned (OpenSpec.ofChange spanLengthsSpec)

/-- ITS FALSE NEIGHBOUR: 'it returns false'. Refute it at one input. -/
def spanLengthsWrong : ChangeSpec := { name := "spanLengths", fn := fun _ => fun
  | [d1, d2] => { results := [.lit (.bool false)], args := [d1, d2] }
  | _ => none }
def SpanLengthsWrongFalsely : Prop := spanLengthsRow.holds Try.pinned (OpenSpec.ofChange spanLengthsWrong)

/-- 'bitemporallaw03.SpanCombines': WHATEVER THE INPUT: true; the input reads as it did. -/
def spanCombinesSpec : ChangeSpec := { name := "spanCombines", fn := fun _ => fun
  | [d1, d2] => { results := [.lit (.bool true)], args := [d1, d2] }
  | _ => none }
def spanCombinesRow : OpenClaim := { program := "ytdcelpppgbmlaaa", sum := "799b8f140a63b695358e4ef255f8f3f3ecbca2b322590b5fca685c3c86aa016d", func := "bitemporal/bitemporallaw03.SpanCombines", spec := "spanCombines", unfollowed := true, recurses := true, apart := false }
def SpanCombinesSaid : Prop := spanCombinesRow.holds Try.pinned (OpenSpec.ofChange spanCombinesSpec)

/-- ITS FALSE NEIGHBOUR: 'it returns false'. Refute it at one input. -/
def spanCombinesWrong : ChangeSpec := { name := "spanCombines", fn := fun _ => fun
  | [d1, d2] => { results := [.lit (.bool false)], args := [d1, d2] }
  | _ => none }
def SpanCombinesWrongFalsely : Prop := spanCombinesRow.holds Try.pinned (OpenSpec.ofChange spanCombinesWrong)

/-- 'bitemporallaw03.SpanAlgebra': WHATEVER THE INPUT: true; the input reads as it did. -/
def spanAlgebraSpec : ChangeSpec := { name := "spanAlgebra", fn := fun _ => fun
  | [d1, d2, d3] => { results := [.lit (.bool true)], args := [d1, d2, d3] }
  | _ => none }
def spanAlgebraRow : OpenClaim := { program := "ytdcelpppgbmlaaa", sum := "799b8f140a63b695358e4ef255f8f3f3ecbca2b322590b5fca685c3c86aa016d", func := "bitemporal/bitemporallaw03.SpanAlgebra", spec := "spanAlgebra", unfollowed := true, recurses := true, apart := false }
def SpanAlgebraSaid : Prop := spanAlgebraRow.holds Try.pinned (OpenSpec.ofChange spanAlgebraSpec)

/-- ITS FALSE NEIGHBOUR: 'it returns false'. Refute it at one input. -/
def spanAlgebraWrong : ChangeSpec := { name := "spanAlgebra", fn := fun _ => fun
  | [d1, d2, d3] => { results := [.lit (.bool false)], args := [d1, d2, d3] }
  | _ => none }
def SpanAlgebraWrongFalsely : Prop := spanAlgebraRow.holds Try.pinned (OpenSpec.ofChange spanAlgebraWrong)

/-- 'bitemporallaw03.SpanPoints': WHATEVER THE INPUT: true; the input reads as it did. -/
def spanPointsSpec : ChangeSpec := { name := "spanPoints", fn := fun _ => fun
  | [d1, d2, d3] => { results := [.lit (.bool true)], args := [d1, d2, d3] }
  | _ => none }
def spanPointsRow : OpenClaim := { program := "ytdcelpppgbmlaaa", sum := "799b8f140a63b695358e4ef255f8f3f3ecbca2b322590b5fca685c3c86aa016d", func := "bitemporal/bitemporallaw03.SpanPoints", spec := "spanPoints", unfollowed := true, recurses := true, apart := false }
def SpanPointsSaid : Prop := spanPointsRow.holds Try.pinned (OpenSpec.ofChange spanPointsSpec)

/-- ITS FALSE NEIGHBOUR: 'it returns false'. Refute it at one input. -/
def spanPointsWrong : ChangeSpec := { name := "spanPoints", fn := fun _ => fun
  | [d1, d2, d3] => { results := [.lit (.bool false)], args := [d1, d2, d3] }
  | _ => none }
def SpanPointsWrongFalsely : Prop := spanPointsRow.holds Try.pinned (OpenSpec.ofChange spanPointsWrong)

/-- 'bitemporaltop.TopIndexes': WHATEVER THE INPUT: true; the input reads as it did. -/
def topIndexesSpec : ChangeSpec := { name := "topIndexes", fn := fun _ => fun
  | [d1, d2] => { results := [.lit (.bool true)], args := [d1, d2] }
  | _ => none }
def topIndexesRow : OpenClaim := { program := "ytdcelpppgbmlaaa", sum := "799b8f140a63b695358e4ef255f8f3f3ecbca2b322590b5fca685c3c86aa016d", func := "bitemporal/bitemporaltop.TopIndexes", spec := "topIndexes", unfollowed := true, recurses := true, apart := false }
def TopIndexesSaid : Prop := topIndexesRow.holds Try.pinned (OpenSpec.ofChange topIndexesSpec)

/-- ITS FALSE NEIGHBOUR: 'it returns false'. Refute it at one input. -/
def topIndexesWrong : ChangeSpec := { name := "topIndexes", fn := fun _ => fun
  | [d1, d2] => { results := [.lit (.bool false)], args := [d1, d2] }
  | _ => none }
def TopIndexesWrongFalsely : Prop := topIndexesRow.holds Try.pinned (OpenSpec.ofChange topIndexesWrong)

/-- 'bitemporallaw03.SpanTells': WHATEVER THE INPUT: true; the input reads as it did. -/
def spanTellsSpec : ChangeSpec := { name := "spanTells", fn := fun _ => fun
  | [d1, d2] => { results := [.lit (.bool true)], args := [d1, d2] }
  | _ => none }
def spanTellsRow : OpenClaim := { program := "ytdcelpppgbmlaaa", sum := "799b8f140a63b695358e4ef255f8f3f3ecbca2b322590b5fca685c3c86aa016d", func := "bitemporal/bitemporallaw03.SpanTells", spec := "spanTells", unfollowed := true, recurses := true, apart := false }
def SpanTellsSaid : Prop := spanTellsRow.holds Try.pinned (OpenSpec.ofChange spanTellsSpec)

/-- ITS FALSE NEIGHBOUR: 'it returns false'. Refute it at one input. -/
def spanTellsWrong : ChangeSpec := { name := "spanTells", fn := fun _ => fun
  | [d1, d2] => { results := [.lit (.bool false)], args := [d1, d2] }
  | _ => none }
def SpanTellsWrongFalsely : Prop := spanTellsRow.holds Try.pinned (OpenSpec.ofChange spanTellsWrong)

/-- 'bitemporallaw05.RegionCombines': WHATEVER THE INPUT: true; the input reads as it did. -/
def regionCombinesSpec : ChangeSpec := { name := "regionCombines", fn := fun _ => fun
  | [d1, d2] => { results := [.lit (.bool true)], args := [d1, d2] }
  | _ => none }
def regionCombinesRow : OpenClaim := { program := "ytdcelpppgbmlaaa", sum := "799b8f140a63b695358e4ef255f8f3f3ecbca2b322590b5fca685c3c86aa016d", func := "bitemporal/bitemporallaw05.RegionCombines", spec := "regionCombines", unfollowed := true, recurses := true, apart := false }
def RegionCombinesSaid : Prop := regionCombinesRow.holds Try.pinned (OpenSpec.ofChange regionCombinesSpec)

/-- ITS FALSE NEIGHBOUR: 'it returns false'. Refute it at one input. -/
def regionCombinesWrong : ChangeSpec := { name := "regionCombines", fn := fun _ => fun
  | [d1, d2] => { results := [.lit (.bool false)], args := [d1, d2] }
  | _ => none }
def RegionCombinesWrongFalsely : Prop := regionCombinesRow.holds Try.pinned (OpenSpec.ofChange regionCombinesWrong)

/-- 'bitemporallaw05.RegionAlgebra': WHATEVER THE INPUT: true; the input reads as it did. -/
def regionAlgebraSpec : ChangeSpec := { name := "regionAlgebra", fn := fun _ => fun
  | [d1, d2, d3] => { results := [.lit (.bool true)], args := [d1, d2, d3] }
  | _ => none }
def regionAlgebraRow : OpenClaim := { program := "ytdcelpppgbmlaaa", sum := "799b8f140a63b695358e4ef255f8f3f3ecbca2b322590b5fca685c3c86aa016d", func := "bitemporal/bitemporallaw05.RegionAlgebra", spec := "regionAlgebra", unfollowed := true, recurses := true, apart := false }
def RegionAlgebraSaid : Prop := regionAlgebraRow.holds Try.pinned (OpenSpec.ofChange regionAlgebraSpec)

/-- ITS FALSE NEIGHBOUR: 'it returns false'. Refute it at one input. -/
def regionAlgebraWrong : ChangeSpec := { name := "regionAlgebra", fn := fun _ => fun
  | [d1, d2, d3] => { results := [.lit (.bool false)], args := [d1, d2, d3] }
  | _ => none }
def RegionAlgebraWrongFalsely : Prop := regionAlgebraRow.holds Try.pinned (OpenSpec.ofChange regionAlgebraWrong)

/-- 'bitemporallaw05.RegionSlices': WHATEVER THE INPUT: true; the input reads as it did. -/
def regionSlicesSpec : ChangeSpec := { name := "regionSlices", fn := fun _ => fun
  | [d1, d2, d3] => { results := [.lit (.bool true)], args := [d1, d2, d3] }
  | _ => none }
def regionSlicesRow : OpenClaim := { program := "ytdcelpppgbmlaaa", sum := "799b8f140a63b695358e4ef255f8f3f3ecbca2b322590b5fca685c3c86aa016d", func := "bitemporal/bitemporallaw05.RegionSlices", spec := "regionSlices", unfollowed := true, recurses := true, apart := false }
def RegionSlicesSaid : Prop := regionSlicesRow.holds Try.pinned (OpenSpec.ofChange regionSlicesSpec)

/-- ITS FALSE NEIGHBOUR: 'it returns false'. Refute it at one input. -/
def regionSlicesWrong : ChangeSpec := { name := "regionSlices", fn := fun _ => fun
  | [d1, d2, d3] => { results := [.lit (.bool false)], args := [d1, d2, d3] }
  | _ => none }
def RegionSlicesWrongFalsely : Prop := regionSlicesRow.holds Try.pinned (OpenSpec.ofChange regionSlicesWrong)

/-- 'bitemporallaw05.RegionApart': WHATEVER THE INPUT: true; the input reads as it did. -/
def regionApartSpec : ChangeSpec := { name := "regionApart", fn := fun _ => fun
  | [d1, d2, d3] => { results := [.lit (.bool true)], args := [d1, d2, d3] }
  | _ => none }
def regionApartRow : OpenClaim := { program := "ytdcelpppgbmlaaa", sum := "799b8f140a63b695358e4ef255f8f3f3ecbca2b322590b5fca685c3c86aa016d", func := "bitemporal/bitemporallaw05.RegionApart", spec := "regionApart", unfollowed := true, recurses := true, apart := false }
def RegionApartSaid : Prop := regionApartRow.holds Try.pinned (OpenSpec.ofChange regionApartSpec)

/-- ITS FALSE NEIGHBOUR: 'it returns false'. Refute it at one input. -/
def regionApartWrong : ChangeSpec := { name := "regionApart", fn := fun _ => fun
  | [d1, d2, d3] => { results := [.lit (.bool false)], args := [d1, d2, d3] }
  | _ => none }
def RegionApartWrongFalsely : Prop := regionApartRow.holds Try.pinned (OpenSpec.ofChange regionApartWrong)

/-- 'bitemporallaw05.RegionOf': WHATEVER THE INPUT: true; the input reads as it did. -/
def regionOfSpec : ChangeSpec := { name := "regionOf", fn := fun _ => fun
  | [d] => { results := [.lit (.bool true)], args := [d] }
  | _ => none }
def regionOfRow : OpenClaim := { program := "ytdcelpppgbmlaaa", sum := "799b8f140a63b695358e4ef255f8f3f3ecbca2b322590b5fca685c3c86aa016d", func := "bitemporal/bitemporallaw05.RegionOf", spec := "regionOf", unfollowed := true, recurses := true, apart := false }
def RegionOfSaid : Prop := regionOfRow.holds Try.pinned (OpenSpec.ofChange regionOfSpec)

/-- ITS FALSE NEIGHBOUR: 'it returns false'. Refute it at one input. -/
def regionOfWrong : ChangeSpec := { name := "regionOf", fn := fun _ => fun
  | [d] => { results := [.lit (.bool false)], args := [d] }
  | _ => none }
def RegionOfWrongFalsely : Prop := regionOfRow.holds Try.pinned (OpenSpec.ofChange regionOfWrong)

/-- 'bitemporallaw05.RegionPoints': WHATEVER THE INPUT: true; the input reads as it did. -/
def regionPointsSpec : ChangeSpec := { name := "regionPoints", fn := fun _ => fun
  | [d1, d2, d3] => { results := [.lit (.bool true)], args := [d1, d2, d3] }
  | _ => none }
def regionPointsRow : OpenClaim := { program := "ytdcelpppgbmlaaa", sum := "799b8f140a63b695358e4ef255f8f3f3ecbca2b322590b5fca685c3c86aa016d", func := "bitemporal/bitemporallaw05.RegionPoints", spec := "regionPoints", unfollowed := true, recurses := true, apart := false }
def RegionPointsSaid : Prop := regionPointsRow.holds Try.pinned (OpenSpec.ofChange regionPointsSpec)

/-- ITS FALSE NEIGHBOUR: 'it returns false'. Refute it at one input. -/
def regionPointsWrong : ChangeSpec := { name := "regionPoints", fn := fun _ => fun
  | [d1, d2, d3] => { results := [.lit (.bool false)], args := [d1, d2, d3] }
  | _ => none }
def RegionPointsWrongFalsely : Prop := regionPointsRow.holds Try.pinned (OpenSpec.ofChange regionPointsWrong)

/-- 'bitemporallaw05.RegionTells': WHATEVER THE INPUT: true; the input reads as it did. -/
def regionTellsSpec : ChangeSpec := { name := "regionTells", fn := fun _ => fun
  | [d1, d2, d3] => { results := [.lit (.bool true)], args := [d1, d2, d3] }
  | _ => none }
def regionTellsRow : OpenClaim := { program := "ytdcelpppgbmlaaa", sum := "799b8f140a63b695358e4ef255f8f3f3ecbca2b322590b5fca685c3c86aa016d", func := "bitemporal/bitemporallaw05.RegionTells", spec := "regionTells", unfollowed := true, recurses := true, apart := false }
def RegionTellsSaid : Prop := regionTellsRow.holds Try.pinned (OpenSpec.ofChange regionTellsSpec)

/-- ITS FALSE NEIGHBOUR: 'it returns false'. Refute it at one input. -/
def regionTellsWrong : ChangeSpec := { name := "regionTells", fn := fun _ => fun
  | [d1, d2, d3] => { results := [.lit (.bool false)], args := [d1, d2, d3] }
  | _ => none }
def RegionTellsWrongFalsely : Prop := regionTellsRow.holds Try.pinned (OpenSpec.ofChange regionTellsWrong)

/-- 'bitemporallaw31.RtreeBuild': WHATEVER THE INPUT: true; the input reads as it did. -/
def rtreeBuildSpec : ChangeSpec := { name := "rtreeBuild", fn := fun _ => fun
  | [d1, d2] => { results := [.lit (.bool true)], args := [d1, d2] }
  | _ => none }
def rtreeBuildRow : OpenClaim := { program := "ytdcelpppgbmlaaa", sum := "799b8f140a63b695358e4ef255f8f3f3ecbca2b322590b5fca685c3c86aa016d", func := "bitemporal/bitemporallaw31.RtreeBuild", spec := "rtreeBuild", unfollowed := true, recurses := true, apart := false }
def RtreeBuildSaid : Prop := rtreeBuildRow.holds Try.pinned (OpenSpec.ofChange rtreeBuildSpec)

/-- ITS FALSE NEIGHBOUR: 'it returns false'. Refute it at one input. -/
def rtreeBuildWrong : ChangeSpec := { name := "rtreeBuild", fn := fun _ => fun
  | [d1, d2] => { results := [.lit (.bool false)], args := [d1, d2] }
  | _ => none }
def RtreeBuildWrongFalsely : Prop := rtreeBuildRow.holds Try.pinned (OpenSpec.ofChange rtreeBuildWrong)

/-- 'bitemporallaw31.RtreeSearch': WHATEVER THE INPUT: true; the input reads as it did. -/
def rtreeSearchSpec : ChangeSpec := { name := "rtreeSearch", fn := fun _ => fun
  | [d1, d2, d3] => { results := [.lit (.bool true)], args := [d1, d2, d3] }
  | _ => none }
def rtreeSearchRow : OpenClaim := { program := "ytdcelpppgbmlaaa", sum := "799b8f140a63b695358e4ef255f8f3f3ecbca2b322590b5fca685c3c86aa016d", func := "bitemporal/bitemporallaw31.RtreeSearch", spec := "rtreeSearch", unfollowed := true, recurses := true, apart := false }
def RtreeSearchSaid : Prop := rtreeSearchRow.holds Try.pinned (OpenSpec.ofChange rtreeSearchSpec)

/-- ITS FALSE NEIGHBOUR: 'it returns false'. Refute it at one input. -/
def rtreeSearchWrong : ChangeSpec := { name := "rtreeSearch", fn := fun _ => fun
  | [d1, d2, d3] => { results := [.lit (.bool false)], args := [d1, d2, d3] }
  | _ => none }
def RtreeSearchWrongFalsely : Prop := rtreeSearchRow.holds Try.pinned (OpenSpec.ofChange rtreeSearchWrong)

/-- 'bitemporallaw31.RtreeStab': WHATEVER THE INPUT: true; the input reads as it did. -/
def rtreeStabSpec : ChangeSpec := { name := "rtreeStab", fn := fun _ => fun
  | [d1, d2, d3, d4] => { results := [.lit (.bool true)], args := [d1, d2, d3, d4] }
  | _ => none }
def rtreeStabRow : OpenClaim := { program := "ytdcelpppgbmlaaa", sum := "799b8f140a63b695358e4ef255f8f3f3ecbca2b322590b5fca685c3c86aa016d", func := "bitemporal/bitemporallaw31.RtreeStab", spec := "rtreeStab", unfollowed := true, recurses := true, apart := false }
def RtreeStabSaid : Prop := rtreeStabRow.holds Try.pinned (OpenSpec.ofChange rtreeStabSpec)

/-- ITS FALSE NEIGHBOUR: 'it returns false'. Refute it at one input. -/
def rtreeStabWrong : ChangeSpec := { name := "rtreeStab", fn := fun _ => fun
  | [d1, d2, d3, d4] => { results := [.lit (.bool false)], args := [d1, d2, d3, d4] }
  | _ => none }
def RtreeStabWrongFalsely : Prop := rtreeStabRow.holds Try.pinned (OpenSpec.ofChange rtreeStabWrong)

/-- 'bitemporallaw31.RtreeSame': WHATEVER THE INPUT: true; the input reads as it did. -/
def rtreeSameSpec : ChangeSpec := { name := "rtreeSame", fn := fun _ => fun
  | [d1, d2, d3, d4] => { results := [.lit (.bool true)], args := [d1, d2, d3, d4] }
  | _ => none }
def rtreeSameRow : OpenClaim := { program := "ytdcelpppgbmlaaa", sum := "799b8f140a63b695358e4ef255f8f3f3ecbca2b322590b5fca685c3c86aa016d", func := "bitemporal/bitemporallaw31.RtreeSame", spec := "rtreeSame", unfollowed := true, recurses := true, apart := false }
def RtreeSameSaid : Prop := rtreeSameRow.holds Try.pinned (OpenSpec.ofChange rtreeSameSpec)

/-- ITS FALSE NEIGHBOUR: 'it returns false'. Refute it at one input. -/
def rtreeSameWrong : ChangeSpec := { name := "rtreeSame", fn := fun _ => fun
  | [d1, d2, d3, d4] => { results := [.lit (.bool false)], args := [d1, d2, d3, d4] }
  | _ => none }
def RtreeSameWrongFalsely : Prop := rtreeSameRow.holds Try.pinned (OpenSpec.ofChange rtreeSameWrong)

/-- 'bitemporallaw31.RtreeParts': WHATEVER THE INPUT: true; the input reads as it did. -/
def rtreePartsSpec : ChangeSpec := { name := "rtreeParts", fn := fun _ => fun
  | [d1, d2, d3, d4] => { results := [.lit (.bool true)], args := [d1, d2, d3, d4] }
  | _ => none }
def rtreePartsRow : OpenClaim := { program := "ytdcelpppgbmlaaa", sum := "799b8f140a63b695358e4ef255f8f3f3ecbca2b322590b5fca685c3c86aa016d", func := "bitemporal/bitemporallaw31.RtreeParts", spec := "rtreeParts", unfollowed := true, recurses := true, apart := false }
def RtreePartsSaid : Prop := rtreePartsRow.holds Try.pinned (OpenSpec.ofChange rtreePartsSpec)

/-- ITS FALSE NEIGHBOUR: 'it returns false'. Refute it at one input. -/
def rtreePartsWrong : ChangeSpec := { name := "rtreeParts", fn := fun _ => fun
  | [d1, d2, d3, d4] => { results := [.lit (.bool false)], args := [d1, d2, d3, d4] }
  | _ => none }
def RtreePartsWrongFalsely : Prop := rtreePartsRow.holds Try.pinned (OpenSpec.ofChange rtreePartsWrong)

/-- 'bitemporallaw31.RtreePrunes': WHATEVER THE INPUT: true; the input reads as it did. -/
def rtreePrunesSpec : ChangeSpec := { name := "rtreePrunes", fn := fun _ => fun
  | [d1, d2, d3] => { results := [.lit (.bool true)], args := [d1, d2, d3] }
  | _ => none }
def rtreePrunesRow : OpenClaim := { program := "ytdcelpppgbmlaaa", sum := "799b8f140a63b695358e4ef255f8f3f3ecbca2b322590b5fca685c3c86aa016d", func := "bitemporal/bitemporallaw31.RtreePrunes", spec := "rtreePrunes", unfollowed := true, recurses := true, apart := false }
def RtreePrunesSaid : Prop := rtreePrunesRow.holds Try.pinned (OpenSpec.ofChange rtreePrunesSpec)

/-- ITS FALSE NEIGHBOUR: 'it returns false'. Refute it at one input. -/
def rtreePrunesWrong : ChangeSpec := { name := "rtreePrunes", fn := fun _ => fun
  | [d1, d2, d3] => { results := [.lit (.bool false)], args := [d1, d2, d3] }
  | _ => none }
def RtreePrunesWrongFalsely : Prop := rtreePrunesRow.holds Try.pinned (OpenSpec.ofChange rtreePrunesWrong)

/-- 'bitemporallaw46.ConflictInstants': WHATEVER THE INPUT: true; the input reads as it did. -/
def conflictInstantsSpec : ChangeSpec := { name := "conflictInstants", fn := fun _ => fun
  | [d1, d2, d3] => { results := [.lit (.bool true)], args := [d1, d2, d3] }
  | _ => none }
def conflictInstantsRow : OpenClaim := { program := "ytdcelpppgbmlaaa", sum := "799b8f140a63b695358e4ef255f8f3f3ecbca2b322590b5fca685c3c86aa016d", func := "bitemporal/bitemporallaw46.ConflictInstants", spec := "conflictInstants", inPlace := ["internal/bytealg.abigen_runtime_cmpstring"], unfollowed := true, recurses := true, apart := false }
def ConflictInstantsSaid : Prop := conflictInstantsRow.holds Try.pinned (OpenSpec.ofChange conflictInstantsSpec)

/-- ITS FALSE NEIGHBOUR: 'it returns false'. Refute it at one input. -/
def conflictInstantsWrong : ChangeSpec := { name := "conflictInstants", fn := fun _ => fun
  | [d1, d2, d3] => { results := [.lit (.bool false)], args := [d1, d2, d3] }
  | _ => none }
def ConflictInstantsWrongFalsely : Prop := conflictInstantsRow.holds Try.pinned (OpenSpec.ofChange conflictInstantsWrong)

/-- 'bitemporallaw46.ConflictNothing': WHATEVER THE INPUT: true; the input reads as it did. -/
def conflictNothingSpec : ChangeSpec := { name := "conflictNothing", fn := fun _ => fun
  | [d1, d2] => { results := [.lit (.bool true)], args := [d1, d2] }
  | _ => none }
def conflictNothingRow : OpenClaim := { program := "ytdcelpppgbmlaaa", sum := "799b8f140a63b695358e4ef255f8f3f3ecbca2b322590b5fca685c3c86aa016d", func := "bitemporal/bitemporallaw46.ConflictNothing", spec := "conflictNothing", inPlace := ["internal/bytealg.abigen_runtime_cmpstring"], unfollowed := true, recurses := true, apart := false }
def ConflictNothingSaid : Prop := conflictNothingRow.holds Try.pinned (OpenSpec.ofChange conflictNothingSpec)

/-- ITS FALSE NEIGHBOUR: 'it returns false'. Refute it at one input. -/
def conflictNothingWrong : ChangeSpec := { name := "conflictNothing", fn := fun _ => fun
  | [d1, d2] => { results := [.lit (.bool false)], args := [d1, d2] }
  | _ => none }
def ConflictNothingWrongFalsely : Prop := conflictNothingRow.holds Try.pinned (OpenSpec.ofChange conflictNothingWrong)

/- THE SECOND FORM. 'bulk': how many values and letters a reading holds, each counted each time it is reached (what is shared counts as often as it is met; a slice's spare places count too). A statement '..UptoSaid' is the law's where the arguments, and the package variables that the reading takes, are together of bulk at most 1048576: NARROWER than '..Said'. Prove '..Said' where nothing that the law and all that it calls make is longer than what came in: it says more and counts as full. Else prove '..UptoSaid'. A law counts once. -/
mutual
def uptoBulk {H : Type} : DataW H → Nat
  | .lit (.string bytes) => bytes.length + 1
  | .lit _ => 1
  | .nil => 1
  | .ptr d => uptoBulk d + 1
  | .slice elems spare => uptoBulkAll elems + uptoBulkAll spare + 1
  | .agg parts => uptoBulkAll parts + 1
  | .iface _ d => uptoBulk d + 1
  | .map entries => uptoBulkEntries entries + 1
  | .held _ => 1
def uptoBulkAll {H : Type} : List (DataW H) → Nat
  | [] => 0
  | d :: r => uptoBulk d + uptoBulkAll r
def uptoBulkEntries {H : Type} : List (Lit × DataW H) → Nat
  | [] => 0
  | x :: r => uptoBulkEntry x + uptoBulkEntries r
def uptoBulkEntry {H : Type} : Lit × DataW H → Nat
  | (.string bytes, d) => bytes.length + uptoBulk d + 1
  | (_, d) => uptoBulk d + 1
 end
def uptoSmall : (H : Type) → List (DataW H) → Bool := fun _ ds => decide (uptoBulkAll ds ≤ 1048576)
def OpenSpec.upto (s : _root_.Go.ChangeSpec) : _root_.Go.OpenSpec := { _root_.Go.OpenSpec.ofChange s with cond := some uptoSmall }

/-- 'bitemporallaw03.SpanOf', WHERE WHAT IT READS IS OF BULK AT MOST 1048576: true; the input reads as it did. -/
def spanOfUptoRow : OpenClaim := { program := "ytdcelpppgbmlaaa", sum := "799b8f140a63b695358e4ef255f8f3f3ecbca2b322590b5fca685c3c86aa016d", func := "bitemporal/bitemporallaw03.SpanOf", spec := "spanOf", unfollowed := true, recurses := true, apart := false, narrowed := true }
def SpanOfUptoSaid : Prop := spanOfUptoRow.holds Try.pinned (OpenSpec.upto spanOfSpec)

/-- 'bitemporallaw03.SpanSlices', WHERE WHAT IT READS IS OF BULK AT MOST 1048576: true; the input reads as it did. -/
def spanSlicesUptoRow : OpenClaim := { program := "ytdcelpppgbmlaaa", sum := "799b8f140a63b695358e4ef255f8f3f3ecbca2b322590b5fca685c3c86aa016d", func := "bitemporal/bitemporallaw03.SpanSlices", spec := "spanSlices", unfollowed := true, recurses := true, apart := false, narrowed := true }
def SpanSlicesUptoSaid : Prop := spanSlicesUptoRow.holds Try.pinned (OpenSpec.upto spanSlicesSpec)

/-- 'bitemporallaw03.SpanLengths', WHERE WHAT IT READS IS OF BULK AT MOST 1048576: true; the input reads as it did. -/
def spanLengthsUptoRow : OpenClaim := { program := "ytdcelpppgbmlaaa", sum := "799b8f140a63b695358e4ef255f8f3f3ecbca2b322590b5fca685c3c86aa016d", func := "bitemporal/bitemporallaw03.SpanLengths", spec := "spanLengths", unfollowed := true, recurses := true, apart := false, narrowed := true }
def SpanLengthsUptoSaid : Prop := spanLengthsUptoRow.holds Try.pinned (OpenSpec.upto spanLengthsSpec)

/-- 'bitemporallaw03.SpanCombines', WHERE WHAT IT READS IS OF BULK AT MOST 1048576: true; the input reads as it did. -/
def spanCombinesUptoRow : OpenClaim := { program := "ytdcelpppgbmlaaa", sum := "799b8f140a63b695358e4ef255f8f3f3ecbca2b322590b5fca685c3c86aa016d", func := "bitemporal/bitemporallaw03.SpanCombines", spec := "spanCombines", unfollowed := true, recurses := true, apart := false, narrowed := true }
def SpanCombinesUptoSaid : Prop := spanCombinesUptoRow.holds Try.pinned (OpenSpec.upto spanCombinesSpec)

/-- 'bitemporallaw03.SpanAlgebra', WHERE WHAT IT READS IS OF BULK AT MOST 1048576: true; the input reads as it did. -/
def spanAlgebraUptoRow : OpenClaim := { program := "ytdcelpppgbmlaaa", sum := "799b8f140a63b695358e4ef255f8f3f3ecbca2b322590b5fca685c3c86aa016d", func := "bitemporal/bitemporallaw03.SpanAlgebra", spec := "spanAlgebra", unfollowed := true, recurses := true, apart := false, narrowed := true }
def SpanAlgebraUptoSaid : Prop := spanAlgebraUptoRow.holds Try.pinned (OpenSpec.upto spanAlgebraSpec)

/-- 'bitemporallaw03.SpanPoints', WHERE WHAT IT READS IS OF BULK AT MOST 1048576: true; the input reads as it did. -/
def spanPointsUptoRow : OpenClaim := { program := "ytdcelpppgbmlaaa", sum := "799b8f140a63b695358e4ef255f8f3f3ecbca2b322590b5fca685c3c86aa016d", func := "bitemporal/bitemporallaw03.SpanPoints", spec := "spanPoints", unfollowed := true, recurses := true, apart := false, narrowed := true }
def SpanPointsUptoSaid : Prop := spanPointsUptoRow.holds Try.pinned (OpenSpec.upto spanPointsSpec)

/-- 'bitemporaltop.TopIndexes', WHERE WHAT IT READS IS OF BULK AT MOST 1048576: true; the input reads as it did. -/
def topIndexesUptoRow : OpenClaim := { program := "ytdcelpppgbmlaaa", sum := "799b8f140a63b695358e4ef255f8f3f3ecbca2b322590b5fca685c3c86aa016d", func := "bitemporal/bitemporaltop.TopIndexes", spec := "topIndexes", unfollowed := true, recurses := true, apart := false, narrowed := true }
def TopIndexesUptoSaid : Prop := topIndexesUptoRow.holds Try.pinned (OpenSpec.upto topIndexesSpec)

/-- 'bitemporallaw03.SpanTells', WHERE WHAT IT READS IS OF BULK AT MOST 1048576: true; the input reads as it did. -/
def spanTellsUptoRow : OpenClaim := { program := "ytdcelpppgbmlaaa", sum := "799b8f140a63b695358e4ef255f8f3f3ecbca2b322590b5fca685c3c86aa016d", func := "bitemporal/bitemporallaw03.SpanTells", spec := "spanTells", unfollowed := true, recurses := true, apart := false, narrowed := true }
def SpanTellsUptoSaid : Prop := spanTellsUptoRow.holds Try.pinned (OpenSpec.upto spanTellsSpec)

/-- 'bitemporallaw05.RegionCombines', WHERE WHAT IT READS IS OF BULK AT MOST 1048576: true; the input reads as it did. -/
def regionCombinesUptoRow : OpenClaim := { program := "ytdcelpppgbmlaaa", sum := "799b8f140a63b695358e4ef255f8f3f3ecbca2b322590b5fca685c3c86aa016d", func := "bitemporal/bitemporallaw05.RegionCombines", spec := "regionCombines", unfollowed := true, recurses := true, apart := false, narrowed := true }
def RegionCombinesUptoSaid : Prop := regionCombinesUptoRow.holds Try.pinned (OpenSpec.upto regionCombinesSpec)

/-- 'bitemporallaw05.RegionAlgebra', WHERE WHAT IT READS IS OF BULK AT MOST 1048576: true; the input reads as it did. -/
def regionAlgebraUptoRow : OpenClaim := { program := "ytdcelpppgbmlaaa", sum := "799b8f140a63b695358e4ef255f8f3f3ecbca2b322590b5fca685c3c86aa016d", func := "bitemporal/bitemporallaw05.RegionAlgebra", spec := "regionAlgebra", unfollowed := true, recurses := true, apart := false, narrowed := true }
def RegionAlgebraUptoSaid : Prop := regionAlgebraUptoRow.holds Try.pinned (OpenSpec.upto regionAlgebraSpec)

/-- 'bitemporallaw05.RegionSlices', WHERE WHAT IT READS IS OF BULK AT MOST 1048576: true; the input reads as it did. -/
def regionSlicesUptoRow : OpenClaim := { program := "ytdcelpppgbmlaaa", sum := "799b8f140a63b695358e4ef255f8f3f3ecbca2b322590b5fca685c3c86aa016d", func := "bitemporal/bitemporallaw05.RegionSlices", spec := "regionSlices", unfollowed := true, recurses := true, apart := false, narrowed := true }
def RegionSlicesUptoSaid : Prop := regionSlicesUptoRow.holds Try.pinned (OpenSpec.upto regionSlicesSpec)

/-- 'bitemporallaw05.RegionApart', WHERE WHAT IT READS IS OF BULK AT MOST 1048576: true; the input reads as it did. -/
def regionApartUptoRow : OpenClaim := { program := "ytdcelpppgbmlaaa", sum := "799b8f140a63b695358e4ef255f8f3f3ecbca2b322590b5fca685c3c86aa016d", func := "bitemporal/bitemporallaw05.RegionApart", spec := "regionApart", unfollowed := true, recurses := true, apart := false, narrowed := true }
def RegionApartUptoSaid : Prop := regionApartUptoRow.holds Try.pinned (OpenSpec.upto regionApartSpec)

/-- 'bitemporallaw05.RegionOf', WHERE WHAT IT READS IS OF BULK AT MOST 1048576: true; the input reads as it did. -/
def regionOfUptoRow : OpenClaim := { program := "ytdcelpppgbmlaaa", sum := "799b8f140a63b695358e4ef255f8f3f3ecbca2b322590b5fca685c3c86aa016d", func := "bitemporal/bitemporallaw05.RegionOf", spec := "regionOf", unfollowed := true, recurses := true, apart := false, narrowed := true }
def RegionOfUptoSaid : Prop := regionOfUptoRow.holds Try.pinned (OpenSpec.upto regionOfSpec)

/-- 'bitemporallaw05.RegionPoints', WHERE WHAT IT READS IS OF BULK AT MOST 1048576: true; the input reads as it did. -/
def regionPointsUptoRow : OpenClaim := { program := "ytdcelpppgbmlaaa", sum := "799b8f140a63b695358e4ef255f8f3f3ecbca2b322590b5fca685c3c86aa016d", func := "bitemporal/bitemporallaw05.RegionPoints", spec := "regionPoints", unfollowed := true, recurses := true, apart := false, narrowed := true }
def RegionPointsUptoSaid : Prop := regionPointsUptoRow.holds Try.pinned (OpenSpec.upto regionPointsSpec)

/-- 'bitemporallaw05.RegionTells', WHERE WHAT IT READS IS OF BULK AT MOST 1048576: true; the input reads as it did. -/
def regionTellsUptoRow : OpenClaim := { program := "ytdcelpppgbmlaaa", sum := "799b8f140a63b695358e4ef255f8f3f3ecbca2b322590b5fca685c3c86aa016d", func := "bitemporal/bitemporallaw05.RegionTells", spec := "regionTells", unfollowed := true, recurses := true, apart := false, narrowed := true }
def RegionTellsUptoSaid : Prop := regionTellsUptoRow.holds Try.pinned (OpenSpec.upto regionTellsSpec)

/-- 'bitemporallaw31.RtreeBuild', WHERE WHAT IT READS IS OF BULK AT MOST 1048576: true; the input reads as it did. -/
def rtreeBuildUptoRow : OpenClaim := { program := "ytdcelpppgbmlaaa", sum := "799b8f140a63b695358e4ef255f8f3f3ecbca2b322590b5fca685c3c86aa016d", func := "bitemporal/bitemporallaw31.RtreeBuild", spec := "rtreeBuild", unfollowed := true, recurses := true, apart := false, narrowed := true }
def RtreeBuildUptoSaid : Prop := rtreeBuildUptoRow.holds Try.pinned (OpenSpec.upto rtreeBuildSpec)

/-- 'bitemporallaw31.RtreeSearch', WHERE WHAT IT READS IS OF BULK AT MOST 1048576: true; the input reads as it did. -/
def rtreeSearchUptoRow : OpenClaim := { program := "ytdcelpppgbmlaaa", sum := "799b8f140a63b695358e4ef255f8f3f3ecbca2b322590b5fca685c3c86aa016d", func := "bitemporal/bitemporallaw31.RtreeSearch", spec := "rtreeSearch", unfollowed := true, recurses := true, apart := false, narrowed := true }
def RtreeSearchUptoSaid : Prop := rtreeSearchUptoRow.holds Try.pinned (OpenSpec.upto rtreeSearchSpec)

/-- 'bitemporallaw31.RtreeStab', WHERE WHAT IT READS IS OF BULK AT MOST 1048576: true; the input reads as it did. -/
def rtreeStabUptoRow : OpenClaim := { program := "ytdcelpppgbmlaaa", sum := "799b8f140a63b695358e4ef255f8f3f3ecbca2b322590b5fca685c3c86aa016d", func := "bitemporal/bitemporallaw31.RtreeStab", spec := "rtreeStab", unfollowed := true, recurses := true, apart := false, narrowed := true }
def RtreeStabUptoSaid : Prop := rtreeStabUptoRow.holds Try.pinned (OpenSpec.upto rtreeStabSpec)

/-- 'bitemporallaw31.RtreeSame', WHERE WHAT IT READS IS OF BULK AT MOST 1048576: true; the input reads as it did. -/
def rtreeSameUptoRow : OpenClaim := { program := "ytdcelpppgbmlaaa", sum := "799b8f140a63b695358e4ef255f8f3f3ecbca2b322590b5fca685c3c86aa016d", func := "bitemporal/bitemporallaw31.RtreeSame", spec := "rtreeSame", unfollowed := true, recurses := true, apart := false, narrowed := true }
def RtreeSameUptoSaid : Prop := rtreeSameUptoRow.holds Try.pinned (OpenSpec.upto rtreeSameSpec)

/-- 'bitemporallaw31.RtreeParts', WHERE WHAT IT READS IS OF BULK AT MOST 1048576: true; the input reads as it did. -/
def rtreePartsUptoRow : OpenClaim := { program := "ytdcelpppgbmlaaa", sum := "799b8f140a63b695358e4ef255f8f3f3ecbca2b322590b5fca685c3c86aa016d", func := "bitemporal/bitemporallaw31.RtreeParts", spec := "rtreeParts", unfollowed := true, recurses := true, apart := false, narrowed := true }
def RtreePartsUptoSaid : Prop := rtreePartsUptoRow.holds Try.pinned (OpenSpec.upto rtreePartsSpec)

/-- 'bitemporallaw31.RtreePrunes', WHERE WHAT IT READS IS OF BULK AT MOST 1048576: true; the input reads as it did. -/
def rtreePrunesUptoRow : OpenClaim := { program := "ytdcelpppgbmlaaa", sum := "799b8f140a63b695358e4ef255f8f3f3ecbca2b322590b5fca685c3c86aa016d", func := "bitemporal/bitemporallaw31.RtreePrunes", spec := "rtreePrunes", unfollowed := true, recurses := true, apart := false, narrowed := true }
def RtreePrunesUptoSaid : Prop := rtreePrunesUptoRow.holds Try.pinned (OpenSpec.upto rtreePrunesSpec)

/-- 'bitemporallaw46.ConflictInstants', WHERE WHAT IT READS IS OF BULK AT MOST 1048576: true; the input reads as it did. -/
def conflictInstantsUptoRow : OpenClaim := { program := "ytdcelpppgbmlaaa", sum := "799b8f140a63b695358e4ef255f8f3f3ecbca2b322590b5fca685c3c86aa016d", func := "bitemporal/bitemporallaw46.ConflictInstants", spec := "conflictInstants", inPlace := ["internal/bytealg.abigen_runtime_cmpstring"], unfollowed := true, recurses := true, apart := false, narrowed := true }
def ConflictInstantsUptoSaid : Prop := conflictInstantsUptoRow.holds Try.pinned (OpenSpec.upto conflictInstantsSpec)

/-- 'bitemporallaw46.ConflictNothing', WHERE WHAT IT READS IS OF BULK AT MOST 1048576: true; the input reads as it did. -/
def conflictNothingUptoRow : OpenClaim := { program := "ytdcelpppgbmlaaa", sum := "799b8f140a63b695358e4ef255f8f3f3ecbca2b322590b5fca685c3c86aa016d", func := "bitemporal/bitemporallaw46.ConflictNothing", spec := "conflictNothing", inPlace := ["internal/bytealg.abigen_runtime_cmpstring"], unfollowed := true, recurses := true, apart := false, narrowed := true }
def ConflictNothingUptoSaid : Prop := conflictNothingUptoRow.holds Try.pinned (OpenSpec.upto conflictNothingSpec)

end Rows
end Go.Proofs.Ytdcelpppgbmlaaa
