/-
  No cell of these rows narrows 'for every input' (looked for: loops, veiled, ifaces, maps, wideKeys, modest, calm, conditions, laid).
  DERIVED. THE GIVEN ROWS OF THIS SEAT. 17 by the template 'for every input the law returns true; each argument reads behind the call as it read before'; 0 by the template 'total and deterministic' (their statements: YtpcfcdnmpginhaaTotals.lean).
  GIVEN WITH THE SEED: the statements are not yours to turn. If you find one false, say at which input.
  Laid BY PROGRAM, IN A SANDBOX (cutbox-rows.mjs): the forced cells as the released guide's own fill.sh prints them over the translation c1f806e00dfb5c81… (all of the seat's roots in one cut). By AI agents, Wed Nov 11 2026. No macro, syntax, notation, axiom, sorry.
-/
import Derived.Test.YtpcfcdnmpginhaaChecked
import GoSem.Claim
import GoSem.ClaimJoined
import GoSem.ClaimMapViews
import Derived.JoinedTies
import Derived.KernelRfl
namespace Go.Proofs.Ytpcfcdnmpginhaa
/- THE CELL 'sum', in the pinned program and in every row, IS THE sha256 OF THE DUMP (.gsa) THAT YtpcfcdnmpginhaaProg.lean LOADS. Nothing in Lean hashes anything: it is a label: what it is worth is what the hold of that sum in a sandbox is worth. -/
noncomputable def Try.pinned : Pinned := { name := "ytpcfcdnmpginhaa", sum := "c1f806e00dfb5c81da2dca7cb27cada3d60143a2f0c632f495d974ac96b2ed4a", checked := Try.checked }
namespace Rows
def none {H : Type} : Left H := { results := [], args := [] }

/-- 'laws.FnExactBenchOk': WHATEVER THE INPUT: true; the input reads as it did. -/
def fnExactBenchOkSpec : ChangeSpec := { name := "fnExactBenchOk", fn := fun _ => fun
  | [d] => { results := [.lit (.bool true)], args := [d] }
  | _ => none }
def fnExactBenchOkRow : OpenClaim := { program := "ytpcfcdnmpginhaa", sum := "c1f806e00dfb5c81da2dca7cb27cada3d60143a2f0c632f495d974ac96b2ed4a", func := "loop.example/g00712/laws.FnExactBenchOk", spec := "fnExactBenchOk", apart := false }
def FnExactBenchOkSaid : Prop := fnExactBenchOkRow.holds Try.pinned (OpenSpec.ofChange fnExactBenchOkSpec)

/-- ITS FALSE NEIGHBOUR: 'it returns false'. Refute it at one input. -/
def fnExactBenchOkWrong : ChangeSpec := { name := "fnExactBenchOk", fn := fun _ => fun
  | [d] => { results := [.lit (.bool false)], args := [d] }
  | _ => none }
def FnExactBenchOkWrongFalsely : Prop := fnExactBenchOkRow.holds Try.pinned (OpenSpec.ofChange fnExactBenchOkWrong)

/-- 'laws.FnExactSafeBench': WHATEVER THE INPUT: true; the input reads as it did. -/
def fnExactSafeBenchSpec : ChangeSpec := { name := "fnExactSafeBench", fn := fun _ => fun
  | [d] => { results := [.lit (.bool true)], args := [d] }
  | _ => none }
def fnExactSafeBenchRow : OpenClaim := { program := "ytpcfcdnmpginhaa", sum := "c1f806e00dfb5c81da2dca7cb27cada3d60143a2f0c632f495d974ac96b2ed4a", func := "loop.example/g00712/laws.FnExactSafeBench", spec := "fnExactSafeBench", unfollowed := true, recurses := true, apart := false }
def FnExactSafeBenchSaid : Prop := fnExactSafeBenchRow.holds Try.pinned (OpenSpec.ofChange fnExactSafeBenchSpec)

/-- ITS FALSE NEIGHBOUR: 'it returns false'. Refute it at one input. -/
def fnExactSafeBenchWrong : ChangeSpec := { name := "fnExactSafeBench", fn := fun _ => fun
  | [d] => { results := [.lit (.bool false)], args := [d] }
  | _ => none }
def FnExactSafeBenchWrongFalsely : Prop := fnExactSafeBenchRow.holds Try.pinned (OpenSpec.ofChange fnExactSafeBenchWrong)

/-- 'laws.FnExactHolds': WHATEVER THE INPUT: true; the input reads as it did. -/
def fnExactHoldsSpec : ChangeSpec := { name := "fnExactHolds", fn := fun _ => fun
  | [d1, d2] => { results := [.lit (.bool true)], args := [d1, d2] }
  | _ => none }
def fnExactHoldsRow : OpenClaim := { program := "ytpcfcdnmpginhaa", sum := "c1f806e00dfb5c81da2dca7cb27cada3d60143a2f0c632f495d974ac96b2ed4a", func := "loop.example/g00712/laws.FnExactHolds", spec := "fnExactHolds", unfollowed := true, recurses := true, apart := false }
def FnExactHoldsSaid : Prop := fnExactHoldsRow.holds Try.pinned (OpenSpec.ofChange fnExactHoldsSpec)

/-- ITS FALSE NEIGHBOUR: 'it returns false'. Refute it at one input. -/
def fnExactHoldsWrong : ChangeSpec := { name := "fnExactHolds", fn := fun _ => fun
  | [d1, d2] => { results := [.lit (.bool false)], args := [d1, d2] }
  | _ => none }
def FnExactHoldsWrongFalsely : Prop := fnExactHoldsRow.holds Try.pinned (OpenSpec.ofChange fnExactHoldsWrong)

/-- 'laws.FnExactHeldBy': WHATEVER THE INPUT: true; the input reads as it did. -/
def fnExactHeldBySpec : ChangeSpec := { name := "fnExactHeldBy", fn := fun _ => fun
  | [d1, d2] => { results := [.lit (.bool true)], args := [d1, d2] }
  | _ => none }
def fnExactHeldByRow : OpenClaim := { program := "ytpcfcdnmpginhaa", sum := "c1f806e00dfb5c81da2dca7cb27cada3d60143a2f0c632f495d974ac96b2ed4a", func := "loop.example/g00712/laws.FnExactHeldBy", spec := "fnExactHeldBy", apart := false }
def FnExactHeldBySaid : Prop := fnExactHeldByRow.holds Try.pinned (OpenSpec.ofChange fnExactHeldBySpec)

/-- ITS FALSE NEIGHBOUR: 'it returns false'. Refute it at one input. -/
def fnExactHeldByWrong : ChangeSpec := { name := "fnExactHeldBy", fn := fun _ => fun
  | [d1, d2] => { results := [.lit (.bool false)], args := [d1, d2] }
  | _ => none }
def FnExactHeldByWrongFalsely : Prop := fnExactHeldByRow.holds Try.pinned (OpenSpec.ofChange fnExactHeldByWrong)

/-- 'laws.FnExactHoldersOf': WHATEVER THE INPUT: true; the input reads as it did. -/
def fnExactHoldersOfSpec : ChangeSpec := { name := "fnExactHoldersOf", fn := fun _ => fun
  | [d1, d2] => { results := [.lit (.bool true)], args := [d1, d2] }
  | _ => none }
def fnExactHoldersOfRow : OpenClaim := { program := "ytpcfcdnmpginhaa", sum := "c1f806e00dfb5c81da2dca7cb27cada3d60143a2f0c632f495d974ac96b2ed4a", func := "loop.example/g00712/laws.FnExactHoldersOf", spec := "fnExactHoldersOf", apart := false }
def FnExactHoldersOfSaid : Prop := fnExactHoldersOfRow.holds Try.pinned (OpenSpec.ofChange fnExactHoldersOfSpec)

/-- ITS FALSE NEIGHBOUR: 'it returns false'. Refute it at one input. -/
def fnExactHoldersOfWrong : ChangeSpec := { name := "fnExactHoldersOf", fn := fun _ => fun
  | [d1, d2] => { results := [.lit (.bool false)], args := [d1, d2] }
  | _ => none }
def FnExactHoldersOfWrongFalsely : Prop := fnExactHoldersOfRow.holds Try.pinned (OpenSpec.ofChange fnExactHoldersOfWrong)

/-- 'laws.FnExactStripFences': WHATEVER THE INPUT: true; the input reads as it did. -/
def fnExactStripFencesSpec : ChangeSpec := { name := "fnExactStripFences", fn := fun _ => fun
  | [d] => { results := [.lit (.bool true)], args := [d] }
  | _ => none }
def fnExactStripFencesRow : OpenClaim := { program := "ytpcfcdnmpginhaa", sum := "c1f806e00dfb5c81da2dca7cb27cada3d60143a2f0c632f495d974ac96b2ed4a", func := "loop.example/g00712/laws.FnExactStripFences", spec := "fnExactStripFences", unfollowed := true, recurses := true, apart := false }
def FnExactStripFencesSaid : Prop := fnExactStripFencesRow.holds Try.pinned (OpenSpec.ofChange fnExactStripFencesSpec)

/-- ITS FALSE NEIGHBOUR: 'it returns false'. Refute it at one input. -/
def fnExactStripFencesWrong : ChangeSpec := { name := "fnExactStripFences", fn := fun _ => fun
  | [d] => { results := [.lit (.bool false)], args := [d] }
  | _ => none }
def FnExactStripFencesWrongFalsely : Prop := fnExactStripFencesRow.holds Try.pinned (OpenSpec.ofChange fnExactStripFencesWrong)

/-- 'laws.FnExactSpotsOf': WHATEVER THE INPUT: true; the input reads as it did. -/
def fnExactSpotsOfSpec : ChangeSpec := { name := "fnExactSpotsOf", fn := fun _ => fun
  | [d] => { results := [.lit (.bool true)], args := [d] }
  | _ => none }
def fnExactSpotsOfRow : OpenClaim := { program := "ytpcfcdnmpginhaa", sum := "c1f806e00dfb5c81da2dca7cb27cada3d60143a2f0c632f495d974ac96b2ed4a", func := "loop.example/g00712/laws.FnExactSpotsOf", spec := "fnExactSpotsOf", unfollowed := true, recurses := true, apart := false }
def FnExactSpotsOfSaid : Prop := fnExactSpotsOfRow.holds Try.pinned (OpenSpec.ofChange fnExactSpotsOfSpec)

/-- ITS FALSE NEIGHBOUR: 'it returns false'. Refute it at one input. -/
def fnExactSpotsOfWrong : ChangeSpec := { name := "fnExactSpotsOf", fn := fun _ => fun
  | [d] => { results := [.lit (.bool false)], args := [d] }
  | _ => none }
def FnExactSpotsOfWrongFalsely : Prop := fnExactSpotsOfRow.holds Try.pinned (OpenSpec.ofChange fnExactSpotsOfWrong)

/-- 'laws.FnExactStart': WHATEVER THE INPUT: true; the input reads as it did. -/
def fnExactStartSpec : ChangeSpec := { name := "fnExactStart", fn := fun _ => fun
  | [d] => { results := [.lit (.bool true)], args := [d] }
  | _ => none }
def fnExactStartRow : OpenClaim := { program := "ytpcfcdnmpginhaa", sum := "c1f806e00dfb5c81da2dca7cb27cada3d60143a2f0c632f495d974ac96b2ed4a", func := "loop.example/g00712/laws.FnExactStart", spec := "fnExactStart", unfollowed := true, recurses := true, apart := false }
def FnExactStartSaid : Prop := fnExactStartRow.holds Try.pinned (OpenSpec.ofChange fnExactStartSpec)

/-- ITS FALSE NEIGHBOUR: 'it returns false'. Refute it at one input. -/
def fnExactStartWrong : ChangeSpec := { name := "fnExactStart", fn := fun _ => fun
  | [d] => { results := [.lit (.bool false)], args := [d] }
  | _ => none }
def FnExactStartWrongFalsely : Prop := fnExactStartRow.holds Try.pinned (OpenSpec.ofChange fnExactStartWrong)

/-- 'laws.FnExactMachineOk': WHATEVER THE INPUT: true; the input reads as it did. -/
def fnExactMachineOkSpec : ChangeSpec := { name := "fnExactMachineOk", fn := fun _ => fun
  | [d1, d2] => { results := [.lit (.bool true)], args := [d1, d2] }
  | _ => none }
def fnExactMachineOkRow : OpenClaim := { program := "ytpcfcdnmpginhaa", sum := "c1f806e00dfb5c81da2dca7cb27cada3d60143a2f0c632f495d974ac96b2ed4a", func := "loop.example/g00712/laws.FnExactMachineOk", spec := "fnExactMachineOk", unfollowed := true, recurses := true, apart := false }
def FnExactMachineOkSaid : Prop := fnExactMachineOkRow.holds Try.pinned (OpenSpec.ofChange fnExactMachineOkSpec)

/-- ITS FALSE NEIGHBOUR: 'it returns false'. Refute it at one input. -/
def fnExactMachineOkWrong : ChangeSpec := { name := "fnExactMachineOk", fn := fun _ => fun
  | [d1, d2] => { results := [.lit (.bool false)], args := [d1, d2] }
  | _ => none }
def FnExactMachineOkWrongFalsely : Prop := fnExactMachineOkRow.holds Try.pinned (OpenSpec.ofChange fnExactMachineOkWrong)

/-- 'laws.FnExactPutFences': WHATEVER THE INPUT: true; the input reads as it did. -/
def fnExactPutFencesSpec : ChangeSpec := { name := "fnExactPutFences", fn := fun _ => fun
  | [d1, d2] => { results := [.lit (.bool true)], args := [d1, d2] }
  | _ => none }
def fnExactPutFencesRow : OpenClaim := { program := "ytpcfcdnmpginhaa", sum := "c1f806e00dfb5c81da2dca7cb27cada3d60143a2f0c632f495d974ac96b2ed4a", func := "loop.example/g00712/laws.FnExactPutFences", spec := "fnExactPutFences", unfollowed := true, recurses := true, apart := false }
def FnExactPutFencesSaid : Prop := fnExactPutFencesRow.holds Try.pinned (OpenSpec.ofChange fnExactPutFencesSpec)

/-- ITS FALSE NEIGHBOUR: 'it returns false'. Refute it at one input. -/
def fnExactPutFencesWrong : ChangeSpec := { name := "fnExactPutFences", fn := fun _ => fun
  | [d1, d2] => { results := [.lit (.bool false)], args := [d1, d2] }
  | _ => none }
def FnExactPutFencesWrongFalsely : Prop := fnExactPutFencesRow.holds Try.pinned (OpenSpec.ofChange fnExactPutFencesWrong)

/-- 'laws.FnExactAtEnd': WHATEVER THE INPUT: true; the input reads as it did. -/
def fnExactAtEndSpec : ChangeSpec := { name := "fnExactAtEnd", fn := fun _ => fun
  | [d1, d2] => { results := [.lit (.bool true)], args := [d1, d2] }
  | _ => none }
def fnExactAtEndRow : OpenClaim := { program := "ytpcfcdnmpginhaa", sum := "c1f806e00dfb5c81da2dca7cb27cada3d60143a2f0c632f495d974ac96b2ed4a", func := "loop.example/g00712/laws.FnExactAtEnd", spec := "fnExactAtEnd", unfollowed := true, recurses := true, apart := false }
def FnExactAtEndSaid : Prop := fnExactAtEndRow.holds Try.pinned (OpenSpec.ofChange fnExactAtEndSpec)

/-- ITS FALSE NEIGHBOUR: 'it returns false'. Refute it at one input. -/
def fnExactAtEndWrong : ChangeSpec := { name := "fnExactAtEnd", fn := fun _ => fun
  | [d1, d2] => { results := [.lit (.bool false)], args := [d1, d2] }
  | _ => none }
def FnExactAtEndWrongFalsely : Prop := fnExactAtEndRow.holds Try.pinned (OpenSpec.ofChange fnExactAtEndWrong)

/-- 'laws.FnExactCanMove': WHATEVER THE INPUT: true; the input reads as it did. -/
def fnExactCanMoveSpec : ChangeSpec := { name := "fnExactCanMove", fn := fun _ => fun
  | [d1, d2, d3] => { results := [.lit (.bool true)], args := [d1, d2, d3] }
  | _ => none }
def fnExactCanMoveRow : OpenClaim := { program := "ytpcfcdnmpginhaa", sum := "c1f806e00dfb5c81da2dca7cb27cada3d60143a2f0c632f495d974ac96b2ed4a", func := "loop.example/g00712/laws.FnExactCanMove", spec := "fnExactCanMove", unfollowed := true, recurses := true, apart := false }
def FnExactCanMoveSaid : Prop := fnExactCanMoveRow.holds Try.pinned (OpenSpec.ofChange fnExactCanMoveSpec)

/-- ITS FALSE NEIGHBOUR: 'it returns false'. Refute it at one input. -/
def fnExactCanMoveWrong : ChangeSpec := { name := "fnExactCanMove", fn := fun _ => fun
  | [d1, d2, d3] => { results := [.lit (.bool false)], args := [d1, d2, d3] }
  | _ => none }
def FnExactCanMoveWrongFalsely : Prop := fnExactCanMoveRow.holds Try.pinned (OpenSpec.ofChange fnExactCanMoveWrong)

/-- 'laws.FnExactAddressesOf': WHATEVER THE INPUT: true; the input reads as it did. -/
def fnExactAddressesOfSpec : ChangeSpec := { name := "fnExactAddressesOf", fn := fun _ => fun
  | [d] => { results := [.lit (.bool true)], args := [d] }
  | _ => none }
def fnExactAddressesOfRow : OpenClaim := { program := "ytpcfcdnmpginhaa", sum := "c1f806e00dfb5c81da2dca7cb27cada3d60143a2f0c632f495d974ac96b2ed4a", func := "loop.example/g00712/laws.FnExactAddressesOf", spec := "fnExactAddressesOf", recurses := true, apart := false }
def FnExactAddressesOfSaid : Prop := fnExactAddressesOfRow.holds Try.pinned (OpenSpec.ofChange fnExactAddressesOfSpec)

/-- ITS FALSE NEIGHBOUR: 'it returns false'. Refute it at one input. -/
def fnExactAddressesOfWrong : ChangeSpec := { name := "fnExactAddressesOf", fn := fun _ => fun
  | [d] => { results := [.lit (.bool false)], args := [d] }
  | _ => none }
def FnExactAddressesOfWrongFalsely : Prop := fnExactAddressesOfRow.holds Try.pinned (OpenSpec.ofChange fnExactAddressesOfWrong)

/-- 'laws.FnExactMoves': WHATEVER THE INPUT: true; the input reads as it did. -/
def fnExactMovesSpec : ChangeSpec := { name := "fnExactMoves", fn := fun _ => fun
  | [d1, d2] => { results := [.lit (.bool true)], args := [d1, d2] }
  | _ => none }
def fnExactMovesRow : OpenClaim := { program := "ytpcfcdnmpginhaa", sum := "c1f806e00dfb5c81da2dca7cb27cada3d60143a2f0c632f495d974ac96b2ed4a", func := "loop.example/g00712/laws.FnExactMoves", spec := "fnExactMoves", unfollowed := true, recurses := true, apart := false }
def FnExactMovesSaid : Prop := fnExactMovesRow.holds Try.pinned (OpenSpec.ofChange fnExactMovesSpec)

/-- ITS FALSE NEIGHBOUR: 'it returns false'. Refute it at one input. -/
def fnExactMovesWrong : ChangeSpec := { name := "fnExactMoves", fn := fun _ => fun
  | [d1, d2] => { results := [.lit (.bool false)], args := [d1, d2] }
  | _ => none }
def FnExactMovesWrongFalsely : Prop := fnExactMovesRow.holds Try.pinned (OpenSpec.ofChange fnExactMovesWrong)

/-- 'laws.FnExactWithFences': WHATEVER THE INPUT: true; the input reads as it did. -/
def fnExactWithFencesSpec : ChangeSpec := { name := "fnExactWithFences", fn := fun _ => fun
  | [d] => { results := [.lit (.bool true)], args := [d] }
  | _ => none }
def fnExactWithFencesRow : OpenClaim := { program := "ytpcfcdnmpginhaa", sum := "c1f806e00dfb5c81da2dca7cb27cada3d60143a2f0c632f495d974ac96b2ed4a", func := "loop.example/g00712/laws.FnExactWithFences", spec := "fnExactWithFences", unfollowed := true, recurses := true, apart := false }
def FnExactWithFencesSaid : Prop := fnExactWithFencesRow.holds Try.pinned (OpenSpec.ofChange fnExactWithFencesSpec)

/-- ITS FALSE NEIGHBOUR: 'it returns false'. Refute it at one input. -/
def fnExactWithFencesWrong : ChangeSpec := { name := "fnExactWithFences", fn := fun _ => fun
  | [d] => { results := [.lit (.bool false)], args := [d] }
  | _ => none }
def FnExactWithFencesWrongFalsely : Prop := fnExactWithFencesRow.holds Try.pinned (OpenSpec.ofChange fnExactWithFencesWrong)

/-- 'laws.FnExactPutSlot': WHATEVER THE INPUT: true; the input reads as it did. -/
def fnExactPutSlotSpec : ChangeSpec := { name := "fnExactPutSlot", fn := fun _ => fun
  | [d1, d2, d3] => { results := [.lit (.bool true)], args := [d1, d2, d3] }
  | _ => none }
def fnExactPutSlotRow : OpenClaim := { program := "ytpcfcdnmpginhaa", sum := "c1f806e00dfb5c81da2dca7cb27cada3d60143a2f0c632f495d974ac96b2ed4a", func := "loop.example/g00712/laws.FnExactPutSlot", spec := "fnExactPutSlot", unfollowed := true, recurses := true, apart := false }
def FnExactPutSlotSaid : Prop := fnExactPutSlotRow.holds Try.pinned (OpenSpec.ofChange fnExactPutSlotSpec)

/-- ITS FALSE NEIGHBOUR: 'it returns false'. Refute it at one input. -/
def fnExactPutSlotWrong : ChangeSpec := { name := "fnExactPutSlot", fn := fun _ => fun
  | [d1, d2, d3] => { results := [.lit (.bool false)], args := [d1, d2, d3] }
  | _ => none }
def FnExactPutSlotWrongFalsely : Prop := fnExactPutSlotRow.holds Try.pinned (OpenSpec.ofChange fnExactPutSlotWrong)

/-- 'laws.FnStripped': WHATEVER THE INPUT: true; the input reads as it did. -/
def fnStrippedSpec : ChangeSpec := { name := "fnStripped", fn := fun _ => fun
  | [d] => { results := [.lit (.bool true)], args := [d] }
  | _ => none }
def fnStrippedRow : OpenClaim := { program := "ytpcfcdnmpginhaa", sum := "c1f806e00dfb5c81da2dca7cb27cada3d60143a2f0c632f495d974ac96b2ed4a", func := "loop.example/g00712/laws.FnStripped", spec := "fnStripped", unfollowed := true, recurses := true, apart := false }
def FnStrippedSaid : Prop := fnStrippedRow.holds Try.pinned (OpenSpec.ofChange fnStrippedSpec)

/-- ITS FALSE NEIGHBOUR: 'it returns false'. Refute it at one input. -/
def fnStrippedWrong : ChangeSpec := { name := "fnStripped", fn := fun _ => fun
  | [d] => { results := [.lit (.bool false)], args := [d] }
  | _ => none }
def FnStrippedWrongFalsely : Prop := fnStrippedRow.holds Try.pinned (OpenSpec.ofChange fnStrippedWrong)

/- THE SECOND FORM. 'bulk': how many values and letters a reading holds, each counted each time it is reached (what is shared counts as often as it is met; a slice's spare places count too). A statement '..UptoSaid' is the law's where the arguments, and the package variables that the reading takes, are together of bulk at most 1048576: NARROWER than '..Said'. Prove '..Said' where nothing that the law and all that it calls make is longer than what came in: it says more and counts as full. Else prove '..UptoSaid'. A law counts once. -/
mutual
def uptoBulk {H : Type} : DataW H → Nat
  | .lit (.string bytes) => bytes.length + 1
  | .lit _ => 1
  | .nil => 1
  | .ptr d => uptoBulk d + 1
  | .slice elems spare => uptoBulkAll elems + uptoBulkAll spare + 1
  | .agg parts => uptoBulkAll parts + 1
  | .iface _ d => uptoBulk d + 1
  | .map entries => uptoBulkEntries entries + 1
  | .held _ => 1
def uptoBulkAll {H : Type} : List (DataW H) → Nat
  | [] => 0
  | d :: r => uptoBulk d + uptoBulkAll r
def uptoBulkEntries {H : Type} : List (Lit × DataW H) → Nat
  | [] => 0
  | x :: r => uptoBulkEntry x + uptoBulkEntries r
def uptoBulkEntry {H : Type} : Lit × DataW H → Nat
  | (.string bytes, d) => bytes.length + uptoBulk d + 1
  | (_, d) => uptoBulk d + 1
 end
def uptoSmall : (H : Type) → List (DataW H) → Bool := fun _ ds => decide (uptoBulkAll ds ≤ 1048576)
def OpenSpec.upto (s : _root_.Go.ChangeSpec) : _root_.Go.OpenSpec := { _root_.Go.OpenSpec.ofChange s with cond := some uptoSmall }

/-- 'laws.FnExactBenchOk', WHERE WHAT IT READS IS OF BULK AT MOST 1048576: true; the input reads as it did. -/
def fnExactBenchOkUptoRow : OpenClaim := { program := "ytpcfcdnmpginhaa", sum := "c1f806e00dfb5c81da2dca7cb27cada3d60143a2f0c632f495d974ac96b2ed4a", func := "loop.example/g00712/laws.FnExactBenchOk", spec := "fnExactBenchOk", apart := false, narrowed := true }
def FnExactBenchOkUptoSaid : Prop := fnExactBenchOkUptoRow.holds Try.pinned (OpenSpec.upto fnExactBenchOkSpec)

/-- 'laws.FnExactSafeBench', WHERE WHAT IT READS IS OF BULK AT MOST 1048576: true; the input reads as it did. -/
def fnExactSafeBenchUptoRow : OpenClaim := { program := "ytpcfcdnmpginhaa", sum := "c1f806e00dfb5c81da2dca7cb27cada3d60143a2f0c632f495d974ac96b2ed4a", func := "loop.example/g00712/laws.FnExactSafeBench", spec := "fnExactSafeBench", unfollowed := true, recurses := true, apart := false, narrowed := true }
def FnExactSafeBenchUptoSaid : Prop := fnExactSafeBenchUptoRow.holds Try.pinned (OpenSpec.upto fnExactSafeBenchSpec)

/-- 'laws.FnExactHolds', WHERE WHAT IT READS IS OF BULK AT MOST 1048576: true; the input reads as it did. -/
def fnExactHoldsUptoRow : OpenClaim := { program := "ytpcfcdnmpginhaa", sum := "c1f806e00dfb5c81da2dca7cb27cada3d60143a2f0c632f495d974ac96b2ed4a", func := "loop.example/g00712/laws.FnExactHolds", spec := "fnExactHolds", unfollowed := true, recurses := true, apart := false, narrowed := true }
def FnExactHoldsUptoSaid : Prop := fnExactHoldsUptoRow.holds Try.pinned (OpenSpec.upto fnExactHoldsSpec)

/-- 'laws.FnExactHeldBy', WHERE WHAT IT READS IS OF BULK AT MOST 1048576: true; the input reads as it did. -/
def fnExactHeldByUptoRow : OpenClaim := { program := "ytpcfcdnmpginhaa", sum := "c1f806e00dfb5c81da2dca7cb27cada3d60143a2f0c632f495d974ac96b2ed4a", func := "loop.example/g00712/laws.FnExactHeldBy", spec := "fnExactHeldBy", apart := false, narrowed := true }
def FnExactHeldByUptoSaid : Prop := fnExactHeldByUptoRow.holds Try.pinned (OpenSpec.upto fnExactHeldBySpec)

/-- 'laws.FnExactHoldersOf', WHERE WHAT IT READS IS OF BULK AT MOST 1048576: true; the input reads as it did. -/
def fnExactHoldersOfUptoRow : OpenClaim := { program := "ytpcfcdnmpginhaa", sum := "c1f806e00dfb5c81da2dca7cb27cada3d60143a2f0c632f495d974ac96b2ed4a", func := "loop.example/g00712/laws.FnExactHoldersOf", spec := "fnExactHoldersOf", apart := false, narrowed := true }
def FnExactHoldersOfUptoSaid : Prop := fnExactHoldersOfUptoRow.holds Try.pinned (OpenSpec.upto fnExactHoldersOfSpec)

/-- 'laws.FnExactStripFences', WHERE WHAT IT READS IS OF BULK AT MOST 1048576: true; the input reads as it did. -/
def fnExactStripFencesUptoRow : OpenClaim := { program := "ytpcfcdnmpginhaa", sum := "c1f806e00dfb5c81da2dca7cb27cada3d60143a2f0c632f495d974ac96b2ed4a", func := "loop.example/g00712/laws.FnExactStripFences", spec := "fnExactStripFences", unfollowed := true, recurses := true, apart := false, narrowed := true }
def FnExactStripFencesUptoSaid : Prop := fnExactStripFencesUptoRow.holds Try.pinned (OpenSpec.upto fnExactStripFencesSpec)

/-- 'laws.FnExactSpotsOf', WHERE WHAT IT READS IS OF BULK AT MOST 1048576: true; the input reads as it did. -/
def fnExactSpotsOfUptoRow : OpenClaim := { program := "ytpcfcdnmpginhaa", sum := "c1f806e00dfb5c81da2dca7cb27cada3d60143a2f0c632f495d974ac96b2ed4a", func := "loop.example/g00712/laws.FnExactSpotsOf", spec := "fnExactSpotsOf", unfollowed := true, recurses := true, apart := false, narrowed := true }
def FnExactSpotsOfUptoSaid : Prop := fnExactSpotsOfUptoRow.holds Try.pinned (OpenSpec.upto fnExactSpotsOfSpec)

/-- 'laws.FnExactStart', WHERE WHAT IT READS IS OF BULK AT MOST 1048576: true; the input reads as it did. -/
def fnExactStartUptoRow : OpenClaim := { program := "ytpcfcdnmpginhaa", sum := "c1f806e00dfb5c81da2dca7cb27cada3d60143a2f0c632f495d974ac96b2ed4a", func := "loop.example/g00712/laws.FnExactStart", spec := "fnExactStart", unfollowed := true, recurses := true, apart := false, narrowed := true }
def FnExactStartUptoSaid : Prop := fnExactStartUptoRow.holds Try.pinned (OpenSpec.upto fnExactStartSpec)

/-- 'laws.FnExactMachineOk', WHERE WHAT IT READS IS OF BULK AT MOST 1048576: true; the input reads as it did. -/
def fnExactMachineOkUptoRow : OpenClaim := { program := "ytpcfcdnmpginhaa", sum := "c1f806e00dfb5c81da2dca7cb27cada3d60143a2f0c632f495d974ac96b2ed4a", func := "loop.example/g00712/laws.FnExactMachineOk", spec := "fnExactMachineOk", unfollowed := true, recurses := true, apart := false, narrowed := true }
def FnExactMachineOkUptoSaid : Prop := fnExactMachineOkUptoRow.holds Try.pinned (OpenSpec.upto fnExactMachineOkSpec)

/-- 'laws.FnExactPutFences', WHERE WHAT IT READS IS OF BULK AT MOST 1048576: true; the input reads as it did. -/
def fnExactPutFencesUptoRow : OpenClaim := { program := "ytpcfcdnmpginhaa", sum := "c1f806e00dfb5c81da2dca7cb27cada3d60143a2f0c632f495d974ac96b2ed4a", func := "loop.example/g00712/laws.FnExactPutFences", spec := "fnExactPutFences", unfollowed := true, recurses := true, apart := false, narrowed := true }
def FnExactPutFencesUptoSaid : Prop := fnExactPutFencesUptoRow.holds Try.pinned (OpenSpec.upto fnExactPutFencesSpec)

/-- 'laws.FnExactAtEnd', WHERE WHAT IT READS IS OF BULK AT MOST 1048576: true; the input reads as it did. -/
def fnExactAtEndUptoRow : OpenClaim := { program := "ytpcfcdnmpginhaa", sum := "c1f806e00dfb5c81da2dca7cb27cada3d60143a2f0c632f495d974ac96b2ed4a", func := "loop.example/g00712/laws.FnExactAtEnd", spec := "fnExactAtEnd", unfollowed := true, recurses := true, apart := false, narrowed := true }
def FnExactAtEndUptoSaid : Prop := fnExactAtEndUptoRow.holds Try.pinned (OpenSpec.upto fnExactAtEndSpec)

/-- 'laws.FnExactCanMove', WHERE WHAT IT READS IS OF BULK AT MOST 1048576: true; the input reads as it did. -/
def fnExactCanMoveUptoRow : OpenClaim := { program := "ytpcfcdnmpginhaa", sum := "c1f806e00dfb5c81da2dca7cb27cada3d60143a2f0c632f495d974ac96b2ed4a", func := "loop.example/g00712/laws.FnExactCanMove", spec := "fnExactCanMove", unfollowed := true, recurses := true, apart := false, narrowed := true }
def FnExactCanMoveUptoSaid : Prop := fnExactCanMoveUptoRow.holds Try.pinned (OpenSpec.upto fnExactCanMoveSpec)

/-- 'laws.FnExactAddressesOf', WHERE WHAT IT READS IS OF BULK AT MOST 1048576: true; the input reads as it did. -/
def fnExactAddressesOfUptoRow : OpenClaim := { program := "ytpcfcdnmpginhaa", sum := "c1f806e00dfb5c81da2dca7cb27cada3d60143a2f0c632f495d974ac96b2ed4a", func := "loop.example/g00712/laws.FnExactAddressesOf", spec := "fnExactAddressesOf", recurses := true, apart := false, narrowed := true }
def FnExactAddressesOfUptoSaid : Prop := fnExactAddressesOfUptoRow.holds Try.pinned (OpenSpec.upto fnExactAddressesOfSpec)

/-- 'laws.FnExactMoves', WHERE WHAT IT READS IS OF BULK AT MOST 1048576: true; the input reads as it did. -/
def fnExactMovesUptoRow : OpenClaim := { program := "ytpcfcdnmpginhaa", sum := "c1f806e00dfb5c81da2dca7cb27cada3d60143a2f0c632f495d974ac96b2ed4a", func := "loop.example/g00712/laws.FnExactMoves", spec := "fnExactMoves", unfollowed := true, recurses := true, apart := false, narrowed := true }
def FnExactMovesUptoSaid : Prop := fnExactMovesUptoRow.holds Try.pinned (OpenSpec.upto fnExactMovesSpec)

/-- 'laws.FnExactWithFences', WHERE WHAT IT READS IS OF BULK AT MOST 1048576: true; the input reads as it did. -/
def fnExactWithFencesUptoRow : OpenClaim := { program := "ytpcfcdnmpginhaa", sum := "c1f806e00dfb5c81da2dca7cb27cada3d60143a2f0c632f495d974ac96b2ed4a", func := "loop.example/g00712/laws.FnExactWithFences", spec := "fnExactWithFences", unfollowed := true, recurses := true, apart := false, narrowed := true }
def FnExactWithFencesUptoSaid : Prop := fnExactWithFencesUptoRow.holds Try.pinned (OpenSpec.upto fnExactWithFencesSpec)

/-- 'laws.FnExactPutSlot', WHERE WHAT IT READS IS OF BULK AT MOST 1048576: true; the input reads as it did. -/
def fnExactPutSlotUptoRow : OpenClaim := { program := "ytpcfcdnmpginhaa", sum := "c1f806e00dfb5c81da2dca7cb27cada3d60143a2f0c632f495d974ac96b2ed4a", func := "loop.example/g00712/laws.FnExactPutSlot", spec := "fnExactPutSlot", unfollowed := true, recurses := true, apart := false, narrowed := true }
def FnExactPutSlotUptoSaid : Prop := fnExactPutSlotUptoRow.holds Try.pinned (OpenSpec.upto fnExactPutSlotSpec)

/-- 'laws.FnStripped', WHERE WHAT IT READS IS OF BULK AT MOST 1048576: true; the input reads as it did. -/
def fnStrippedUptoRow : OpenClaim := { program := "ytpcfcdnmpginhaa", sum := "c1f806e00dfb5c81da2dca7cb27cada3d60143a2f0c632f495d974ac96b2ed4a", func := "loop.example/g00712/laws.FnStripped", spec := "fnStripped", unfollowed := true, recurses := true, apart := false, narrowed := true }
def FnStrippedUptoSaid : Prop := fnStrippedUptoRow.holds Try.pinned (OpenSpec.upto fnStrippedSpec)

end Rows
end Go.Proofs.Ytpcfcdnmpginhaa
