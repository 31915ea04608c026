/-
  No cell of these rows narrows 'for every input' (looked for: loops, veiled, ifaces, maps, wideKeys, modest, calm, conditions, laid).
  DERIVED. THE GIVEN ROWS OF THIS SEAT. 7 by the template 'for every input the law returns true; each argument reads behind the call as it read before'; 0 by the template 'total and deterministic' (their statements: YtlfbdafghpmahaaTotals.lean).
  GIVEN WITH THE SEED: the statements are not yours to turn. If you find one false, say at which input.
  Laid BY PROGRAM, IN A SANDBOX (cutbox-rows.mjs): the forced cells as the released guide's own fill.sh prints them over the translation ec12db75e1571767… (all of the seat's roots in one cut). By AI agents, Wed Nov 11 2026. No macro, syntax, notation, axiom, sorry.
-/
import Derived.Test.YtlfbdafghpmahaaChecked
import GoSem.Claim
import GoSem.ClaimJoined
import GoSem.ClaimMapViews
import Derived.JoinedTies
import Derived.KernelRfl
namespace Go.Proofs.Ytlfbdafghpmahaa
/- THE CELL 'sum', in the pinned program and in every row, IS THE sha256 OF THE DUMP (.gsa) THAT YtlfbdafghpmahaaProg.lean LOADS. Nothing in Lean hashes anything: it is a label: what it is worth is what the hold of that sum in a sandbox is worth. -/
noncomputable def Try.pinned : Pinned := { name := "ytlfbdafghpmahaa", sum := "ec12db75e15717675a8ff7e69ae6adc08a7286ad2281f08981f481555a282b1a", checked := Try.checked }
namespace Rows
def none {H : Type} : Left H := { results := [], args := [] }

/-- 'laws.FnExactAddressesOf': WHATEVER THE INPUT: true; the input reads as it did. -/
def fnExactAddressesOfSpec : ChangeSpec := { name := "fnExactAddressesOf", fn := fun _ => fun
  | [d] => { results := [.lit (.bool true)], args := [d] }
  | _ => none }
def fnExactAddressesOfRow : OpenClaim := { program := "ytlfbdafghpmahaa", sum := "ec12db75e15717675a8ff7e69ae6adc08a7286ad2281f08981f481555a282b1a", func := "loop.example/g00712/laws.FnExactAddressesOf", spec := "fnExactAddressesOf", recurses := true, apart := false }
def FnExactAddressesOfSaid : Prop := fnExactAddressesOfRow.holds Try.pinned (OpenSpec.ofChange fnExactAddressesOfSpec)

/-- ITS FALSE NEIGHBOUR: 'it returns false'. Refute it at one input. -/
def fnExactAddressesOfWrong : ChangeSpec := { name := "fnExactAddressesOf", fn := fun _ => fun
  | [d] => { results := [.lit (.bool false)], args := [d] }
  | _ => none }
def FnExactAddressesOfWrongFalsely : Prop := fnExactAddressesOfRow.holds Try.pinned (OpenSpec.ofChange fnExactAddressesOfWrong)

/-- 'laws.FnExactStripFences': WHATEVER THE INPUT: true; the input reads as it did. -/
def fnExactStripFencesSpec : ChangeSpec := { name := "fnExactStripFences", fn := fun _ => fun
  | [d] => { results := [.lit (.bool true)], args := [d] }
  | _ => none }
def fnExactStripFencesRow : OpenClaim := { program := "ytlfbdafghpmahaa", sum := "ec12db75e15717675a8ff7e69ae6adc08a7286ad2281f08981f481555a282b1a", func := "loop.example/g00712/laws.FnExactStripFences", spec := "fnExactStripFences", unfollowed := true, recurses := true, apart := false }
def FnExactStripFencesSaid : Prop := fnExactStripFencesRow.holds Try.pinned (OpenSpec.ofChange fnExactStripFencesSpec)

/-- ITS FALSE NEIGHBOUR: 'it returns false'. Refute it at one input. -/
def fnExactStripFencesWrong : ChangeSpec := { name := "fnExactStripFences", fn := fun _ => fun
  | [d] => { results := [.lit (.bool false)], args := [d] }
  | _ => none }
def FnExactStripFencesWrongFalsely : Prop := fnExactStripFencesRow.holds Try.pinned (OpenSpec.ofChange fnExactStripFencesWrong)

/-- 'laws.FnExactSpotsOf': WHATEVER THE INPUT: true; the input reads as it did. -/
def fnExactSpotsOfSpec : ChangeSpec := { name := "fnExactSpotsOf", fn := fun _ => fun
  | [d] => { results := [.lit (.bool true)], args := [d] }
  | _ => none }
def fnExactSpotsOfRow : OpenClaim := { program := "ytlfbdafghpmahaa", sum := "ec12db75e15717675a8ff7e69ae6adc08a7286ad2281f08981f481555a282b1a", func := "loop.example/g00712/laws.FnExactSpotsOf", spec := "fnExactSpotsOf", unfollowed := true, recurses := true, apart := false }
def FnExactSpotsOfSaid : Prop := fnExactSpotsOfRow.holds Try.pinned (OpenSpec.ofChange fnExactSpotsOfSpec)

/-- ITS FALSE NEIGHBOUR: 'it returns false'. Refute it at one input. -/
def fnExactSpotsOfWrong : ChangeSpec := { name := "fnExactSpotsOf", fn := fun _ => fun
  | [d] => { results := [.lit (.bool false)], args := [d] }
  | _ => none }
def FnExactSpotsOfWrongFalsely : Prop := fnExactSpotsOfRow.holds Try.pinned (OpenSpec.ofChange fnExactSpotsOfWrong)

/-- 'laws.FnExactStart': WHATEVER THE INPUT: true; the input reads as it did. -/
def fnExactStartSpec : ChangeSpec := { name := "fnExactStart", fn := fun _ => fun
  | [d] => { results := [.lit (.bool true)], args := [d] }
  | _ => none }
def fnExactStartRow : OpenClaim := { program := "ytlfbdafghpmahaa", sum := "ec12db75e15717675a8ff7e69ae6adc08a7286ad2281f08981f481555a282b1a", func := "loop.example/g00712/laws.FnExactStart", spec := "fnExactStart", unfollowed := true, recurses := true, apart := false }
def FnExactStartSaid : Prop := fnExactStartRow.holds Try.pinned (OpenSpec.ofChange fnExactStartSpec)

/-- ITS FALSE NEIGHBOUR: 'it returns false'. Refute it at one input. -/
def fnExactStartWrong : ChangeSpec := { name := "fnExactStart", fn := fun _ => fun
  | [d] => { results := [.lit (.bool false)], args := [d] }
  | _ => none }
def FnExactStartWrongFalsely : Prop := fnExactStartRow.holds Try.pinned (OpenSpec.ofChange fnExactStartWrong)

/-- 'laws.FnStripped': WHATEVER THE INPUT: true; the input reads as it did. -/
def fnStrippedSpec : ChangeSpec := { name := "fnStripped", fn := fun _ => fun
  | [d] => { results := [.lit (.bool true)], args := [d] }
  | _ => none }
def fnStrippedRow : OpenClaim := { program := "ytlfbdafghpmahaa", sum := "ec12db75e15717675a8ff7e69ae6adc08a7286ad2281f08981f481555a282b1a", func := "loop.example/g00712/laws.FnStripped", spec := "fnStripped", unfollowed := true, recurses := true, apart := false }
def FnStrippedSaid : Prop := fnStrippedRow.holds Try.pinned (OpenSpec.ofChange fnStrippedSpec)

/-- ITS FALSE NEIGHBOUR: 'it returns false'. Refute it at one input. -/
def fnStrippedWrong : ChangeSpec := { name := "fnStripped", fn := fun _ => fun
  | [d] => { results := [.lit (.bool false)], args := [d] }
  | _ => none }
def FnStrippedWrongFalsely : Prop := fnStrippedRow.holds Try.pinned (OpenSpec.ofChange fnStrippedWrong)

/-- 'laws.FnExactPutFences': WHATEVER THE INPUT: true; the input reads as it did. -/
def fnExactPutFencesSpec : ChangeSpec := { name := "fnExactPutFences", fn := fun _ => fun
  | [d1, d2] => { results := [.lit (.bool true)], args := [d1, d2] }
  | _ => none }
def fnExactPutFencesRow : OpenClaim := { program := "ytlfbdafghpmahaa", sum := "ec12db75e15717675a8ff7e69ae6adc08a7286ad2281f08981f481555a282b1a", func := "loop.example/g00712/laws.FnExactPutFences", spec := "fnExactPutFences", unfollowed := true, recurses := true, apart := false }
def FnExactPutFencesSaid : Prop := fnExactPutFencesRow.holds Try.pinned (OpenSpec.ofChange fnExactPutFencesSpec)

/-- ITS FALSE NEIGHBOUR: 'it returns false'. Refute it at one input. -/
def fnExactPutFencesWrong : ChangeSpec := { name := "fnExactPutFences", fn := fun _ => fun
  | [d1, d2] => { results := [.lit (.bool false)], args := [d1, d2] }
  | _ => none }
def FnExactPutFencesWrongFalsely : Prop := fnExactPutFencesRow.holds Try.pinned (OpenSpec.ofChange fnExactPutFencesWrong)

/-- 'laws.FnExactMoves': WHATEVER THE INPUT: true; the input reads as it did. -/
def fnExactMovesSpec : ChangeSpec := { name := "fnExactMoves", fn := fun _ => fun
  | [d1, d2] => { results := [.lit (.bool true)], args := [d1, d2] }
  | _ => none }
def fnExactMovesRow : OpenClaim := { program := "ytlfbdafghpmahaa", sum := "ec12db75e15717675a8ff7e69ae6adc08a7286ad2281f08981f481555a282b1a", func := "loop.example/g00712/laws.FnExactMoves", spec := "fnExactMoves", unfollowed := true, recurses := true, apart := false }
def FnExactMovesSaid : Prop := fnExactMovesRow.holds Try.pinned (OpenSpec.ofChange fnExactMovesSpec)

/-- ITS FALSE NEIGHBOUR: 'it returns false'. Refute it at one input. -/
def fnExactMovesWrong : ChangeSpec := { name := "fnExactMoves", fn := fun _ => fun
  | [d1, d2] => { results := [.lit (.bool false)], args := [d1, d2] }
  | _ => none }
def FnExactMovesWrongFalsely : Prop := fnExactMovesRow.holds Try.pinned (OpenSpec.ofChange fnExactMovesWrong)

/- THE SECOND FORM. 'bulk': how many values and letters a reading holds, each counted each time it is reached (what is shared counts as often as it is met; a slice's spare places count too). A statement '..UptoSaid' is the law's where the arguments, and the package variables that the reading takes, are together of bulk at most 1048576: NARROWER than '..Said'. Prove '..Said' where nothing that the law and all that it calls make is longer than what came in: it says more and counts as full. Else prove '..UptoSaid'. A law counts once. -/
mutual
def uptoBulk {H : Type} : DataW H → Nat
  | .lit (.string bytes) => bytes.length + 1
  | .lit _ => 1
  | .nil => 1
  | .ptr d => uptoBulk d + 1
  | .slice elems spare => uptoBulkAll elems + uptoBulkAll spare + 1
  | .agg parts => uptoBulkAll parts + 1
  | .iface _ d => uptoBulk d + 1
  | .map entries => uptoBulkEntries entries + 1
  | .held _ => 1
def uptoBulkAll {H : Type} : List (DataW H) → Nat
  | [] => 0
  | d :: r => uptoBulk d + uptoBulkAll r
def uptoBulkEntries {H : Type} : List (Lit × DataW H) → Nat
  | [] => 0
  | x :: r => uptoBulkEntry x + uptoBulkEntries r
def uptoBulkEntry {H : Type} : Lit × DataW H → Nat
  | (.string bytes, d) => bytes.length + uptoBulk d + 1
  | (_, d) => uptoBulk d + 1
 end
def uptoSmall : (H : Type) → List (DataW H) → Bool := fun _ ds => decide (uptoBulkAll ds ≤ 1048576)
def OpenSpec.upto (s : _root_.Go.ChangeSpec) : _root_.Go.OpenSpec := { _root_.Go.OpenSpec.ofChange s with cond := some uptoSmall }

/-- 'laws.FnExactAddressesOf', WHERE WHAT IT READS IS OF BULK AT MOST 1048576: true; the input reads as it did. -/
def fnExactAddressesOfUptoRow : OpenClaim := { program := "ytlfbdafghpmahaa", sum := "ec12db75e15717675a8ff7e69ae6adc08a7286ad2281f08981f481555a282b1a", func := "loop.example/g00712/laws.FnExactAddressesOf", spec := "fnExactAddressesOf", recurses := true, apart := false, narrowed := true }
def FnExactAddressesOfUptoSaid : Prop := fnExactAddressesOfUptoRow.holds Try.pinned (OpenSpec.upto fnExactAddressesOfSpec)

/-- 'laws.FnExactStripFences', WHERE WHAT IT READS IS OF BULK AT MOST 1048576: true; the input reads as it did. -/
def fnExactStripFencesUptoRow : OpenClaim := { program := "ytlfbdafghpmahaa", sum := "ec12db75e15717675a8ff7e69ae6adc08a7286ad2281f08981f481555a282b1a", func := "loop.example/g00712/laws.FnExactStripFences", spec := "fnExactStripFences", unfollowed := true, recurses := true, apart := false, narrowed := true }
def FnExactStripFencesUptoSaid : Prop := fnExactStripFencesUptoRow.holds Try.pinned (OpenSpec.upto fnExactStripFencesSpec)

/-- 'laws.FnExactSpotsOf', WHERE WHAT IT READS IS OF BULK AT MOST 1048576: true; the input reads as it did. -/
def fnExactSpotsOfUptoRow : OpenClaim := { program := "ytlfbdafghpmahaa", sum := "ec12db75e15717675a8ff7e69ae6adc08a7286ad2281f08981f481555a282b1a", func := "loop.example/g00712/laws.FnExactSpotsOf", spec := "fnExactSpotsOf", unfollowed := true, recurses := true, apart := false, narrowed := true }
def FnExactSpotsOfUptoSaid : Prop := fnExactSpotsOfUptoRow.holds Try.pinned (OpenSpec.upto fnExactSpotsOfSpec)

/-- 'laws.FnExactStart', WHERE WHAT IT READS IS OF BULK AT MOST 1048576: true; the input reads as it did. -/
def fnExactStartUptoRow : OpenClaim := { program := "ytlfbdafghpmahaa", sum := "ec12db75e15717675a8ff7e69ae6adc08a7286ad2281f08981f481555a282b1a", func := "loop.example/g00712/laws.FnExactStart", spec := "fnExactStart", unfollowed := true, recurses := true, apart := false, narrowed := true }
def FnExactStartUptoSaid : Prop := fnExactStartUptoRow.holds Try.pinned (OpenSpec.upto fnExactStartSpec)

/-- 'laws.FnStripped', WHERE WHAT IT READS IS OF BULK AT MOST 1048576: true; the input reads as it did. -/
def fnStrippedUptoRow : OpenClaim := { program := "ytlfbdafghpmahaa", sum := "ec12db75e15717675a8ff7e69ae6adc08a7286ad2281f08981f481555a282b1a", func := "loop.example/g00712/laws.FnStripped", spec := "fnStripped", unfollowed := true, recurses := true, apart := false, narrowed := true }
def FnStrippedUptoSaid : Prop := fnStrippedUptoRow.holds Try.pinned (OpenSpec.upto fnStrippedSpec)

/-- 'laws.FnExactPutFences', WHERE WHAT IT READS IS OF BULK AT MOST 1048576: true; the input reads as it did. -/
def fnExactPutFencesUptoRow : OpenClaim := { program := "ytlfbdafghpmahaa", sum := "ec12db75e15717675a8ff7e69ae6adc08a7286ad2281f08981f481555a282b1a", func := "loop.example/g00712/laws.FnExactPutFences", spec := "fnExactPutFences", unfollowed := true, recurses := true, apart := false, narrowed := true }
def FnExactPutFencesUptoSaid : Prop := fnExactPutFencesUptoRow.holds Try.pinned (OpenSpec.upto fnExactPutFencesSpec)

/-- 'laws.FnExactMoves', WHERE WHAT IT READS IS OF BULK AT MOST 1048576: true; the input reads as it did. -/
def fnExactMovesUptoRow : OpenClaim := { program := "ytlfbdafghpmahaa", sum := "ec12db75e15717675a8ff7e69ae6adc08a7286ad2281f08981f481555a282b1a", func := "loop.example/g00712/laws.FnExactMoves", spec := "fnExactMoves", unfollowed := true, recurses := true, apart := false, narrowed := true }
def FnExactMovesUptoSaid : Prop := fnExactMovesUptoRow.holds Try.pinned (OpenSpec.upto fnExactMovesSpec)

end Rows
end Go.Proofs.Ytlfbdafghpmahaa
