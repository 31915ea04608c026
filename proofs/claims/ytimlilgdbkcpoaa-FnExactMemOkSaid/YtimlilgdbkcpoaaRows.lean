/-
  No cell of these rows narrows 'for every input' (looked for: loops, veiled, ifaces, maps, wideKeys, modest, calm, conditions, laid).
  DERIVED. THE GIVEN ROWS OF THIS SEAT. 12 by the template 'for every input the law returns true; each argument reads behind the call as it read before'; 0 by the template 'total and deterministic' (their statements: YtimlilgdbkcpoaaTotals.lean).
  GIVEN WITH THE SEED: the statements are not yours to turn. If you find one false, say at which input.
  Laid BY PROGRAM, IN A SANDBOX (cutbox-rows.mjs): the forced cells as the released guide's own fill.sh prints them over the translation 91721b9e0977bce5… (all of the seat's roots in one cut). By AI agents, Wed Nov 11 2026. No macro, syntax, notation, axiom, sorry.
-/
import Derived.Test.YtimlilgdbkcpoaaChecked
import GoSem.Claim
import GoSem.ClaimJoined
import GoSem.ClaimMapViews
import Derived.JoinedTies
import Derived.KernelRfl
namespace Go.Proofs.Ytimlilgdbkcpoaa
/- THE CELL 'sum', in the pinned program and in every row, IS THE sha256 OF THE DUMP (.gsa) THAT YtimlilgdbkcpoaaProg.lean LOADS. Nothing in Lean hashes anything: it is a label: what it is worth is what the hold of that sum in a sandbox is worth. -/
noncomputable def Try.pinned : Pinned := { name := "ytimlilgdbkcpoaa", sum := "91721b9e0977bce54c8299af3bd160706127f2a66ad81f6df114518d70d08cc2", checked := Try.checked }
namespace Rows
def none {H : Type} : Left H := { results := [], args := [] }

/-- 'laws.FnExactConstants': WHATEVER THE INPUT: true; the input reads as it did. -/
def fnExactConstantsSpec : ChangeSpec := { name := "fnExactConstants", fn := fun _ => fun
  | [] => { results := [.lit (.bool true)], args := [] }
  | _ => none }
def fnExactConstantsRow : OpenClaim := { program := "ytimlilgdbkcpoaa", sum := "91721b9e0977bce54c8299af3bd160706127f2a66ad81f6df114518d70d08cc2", func := "loop.example/g00712/laws.FnExactConstants", spec := "fnExactConstants", apart := false }
def FnExactConstantsSaid : Prop := fnExactConstantsRow.holds Try.pinned (OpenSpec.ofChange fnExactConstantsSpec)

/-- ITS FALSE NEIGHBOUR: 'it returns false'. Refute it at one input. -/
def fnExactConstantsWrong : ChangeSpec := { name := "fnExactConstants", fn := fun _ => fun
  | [] => { results := [.lit (.bool false)], args := [] }
  | _ => none }
def FnExactConstantsWrongFalsely : Prop := fnExactConstantsRow.holds Try.pinned (OpenSpec.ofChange fnExactConstantsWrong)

/-- 'laws.FnExactClamp': WHATEVER THE INPUT: true; the input reads as it did. -/
def fnExactClampSpec : ChangeSpec := { name := "fnExactClamp", fn := fun _ => fun
  | [d] => { results := [.lit (.bool true)], args := [d] }
  | _ => none }
def fnExactClampRow : OpenClaim := { program := "ytimlilgdbkcpoaa", sum := "91721b9e0977bce54c8299af3bd160706127f2a66ad81f6df114518d70d08cc2", func := "loop.example/g00712/laws.FnExactClamp", spec := "fnExactClamp", apart := false }
def FnExactClampSaid : Prop := fnExactClampRow.holds Try.pinned (OpenSpec.ofChange fnExactClampSpec)

/-- ITS FALSE NEIGHBOUR: 'it returns false'. Refute it at one input. -/
def fnExactClampWrong : ChangeSpec := { name := "fnExactClamp", fn := fun _ => fun
  | [d] => { results := [.lit (.bool false)], args := [d] }
  | _ => none }
def FnExactClampWrongFalsely : Prop := fnExactClampRow.holds Try.pinned (OpenSpec.ofChange fnExactClampWrong)

/-- 'laws.FnExactHasFence': WHATEVER THE INPUT: true; the input reads as it did. -/
def fnExactHasFenceSpec : ChangeSpec := { name := "fnExactHasFence", fn := fun _ => fun
  | [d] => { results := [.lit (.bool true)], args := [d] }
  | _ => none }
def fnExactHasFenceRow : OpenClaim := { program := "ytimlilgdbkcpoaa", sum := "91721b9e0977bce54c8299af3bd160706127f2a66ad81f6df114518d70d08cc2", func := "loop.example/g00712/laws.FnExactHasFence", spec := "fnExactHasFence", apart := false }
def FnExactHasFenceSaid : Prop := fnExactHasFenceRow.holds Try.pinned (OpenSpec.ofChange fnExactHasFenceSpec)

/-- ITS FALSE NEIGHBOUR: 'it returns false'. Refute it at one input. -/
def fnExactHasFenceWrong : ChangeSpec := { name := "fnExactHasFence", fn := fun _ => fun
  | [d] => { results := [.lit (.bool false)], args := [d] }
  | _ => none }
def FnExactHasFenceWrongFalsely : Prop := fnExactHasFenceRow.holds Try.pinned (OpenSpec.ofChange fnExactHasFenceWrong)

/-- 'laws.FnExactNewMem': WHATEVER THE INPUT: true; the input reads as it did. -/
def fnExactNewMemSpec : ChangeSpec := { name := "fnExactNewMem", fn := fun _ => fun
  | [d] => { results := [.lit (.bool true)], args := [d] }
  | _ => none }
def fnExactNewMemRow : OpenClaim := { program := "ytimlilgdbkcpoaa", sum := "91721b9e0977bce54c8299af3bd160706127f2a66ad81f6df114518d70d08cc2", func := "loop.example/g00712/laws.FnExactNewMem", spec := "fnExactNewMem", apart := false }
def FnExactNewMemSaid : Prop := fnExactNewMemRow.holds Try.pinned (OpenSpec.ofChange fnExactNewMemSpec)

/-- ITS FALSE NEIGHBOUR: 'it returns false'. Refute it at one input. -/
def fnExactNewMemWrong : ChangeSpec := { name := "fnExactNewMem", fn := fun _ => fun
  | [d] => { results := [.lit (.bool false)], args := [d] }
  | _ => none }
def FnExactNewMemWrongFalsely : Prop := fnExactNewMemRow.holds Try.pinned (OpenSpec.ofChange fnExactNewMemWrong)

/-- 'laws.FnExactInstrOk': WHATEVER THE INPUT: true; the input reads as it did. -/
def fnExactInstrOkSpec : ChangeSpec := { name := "fnExactInstrOk", fn := fun _ => fun
  | [d1, d2, d3] => { results := [.lit (.bool true)], args := [d1, d2, d3] }
  | _ => none }
def fnExactInstrOkRow : OpenClaim := { program := "ytimlilgdbkcpoaa", sum := "91721b9e0977bce54c8299af3bd160706127f2a66ad81f6df114518d70d08cc2", func := "loop.example/g00712/laws.FnExactInstrOk", spec := "fnExactInstrOk", apart := false }
def FnExactInstrOkSaid : Prop := fnExactInstrOkRow.holds Try.pinned (OpenSpec.ofChange fnExactInstrOkSpec)

/-- ITS FALSE NEIGHBOUR: 'it returns false'. Refute it at one input. -/
def fnExactInstrOkWrong : ChangeSpec := { name := "fnExactInstrOk", fn := fun _ => fun
  | [d1, d2, d3] => { results := [.lit (.bool false)], args := [d1, d2, d3] }
  | _ => none }
def FnExactInstrOkWrongFalsely : Prop := fnExactInstrOkRow.holds Try.pinned (OpenSpec.ofChange fnExactInstrOkWrong)

/-- 'laws.FnExactBufOk': WHATEVER THE INPUT: true; the input reads as it did. -/
def fnExactBufOkSpec : ChangeSpec := { name := "fnExactBufOk", fn := fun _ => fun
  | [d] => { results := [.lit (.bool true)], args := [d] }
  | _ => none }
def fnExactBufOkRow : OpenClaim := { program := "ytimlilgdbkcpoaa", sum := "91721b9e0977bce54c8299af3bd160706127f2a66ad81f6df114518d70d08cc2", func := "loop.example/g00712/laws.FnExactBufOk", spec := "fnExactBufOk", unfollowed := true, recurses := true, apart := false }
def FnExactBufOkSaid : Prop := fnExactBufOkRow.holds Try.pinned (OpenSpec.ofChange fnExactBufOkSpec)

/-- ITS FALSE NEIGHBOUR: 'it returns false'. Refute it at one input. -/
def fnExactBufOkWrong : ChangeSpec := { name := "fnExactBufOk", fn := fun _ => fun
  | [d] => { results := [.lit (.bool false)], args := [d] }
  | _ => none }
def FnExactBufOkWrongFalsely : Prop := fnExactBufOkRow.holds Try.pinned (OpenSpec.ofChange fnExactBufOkWrong)

/-- 'laws.FnExactMemOk': WHATEVER THE INPUT: true; the input reads as it did. -/
def fnExactMemOkSpec : ChangeSpec := { name := "fnExactMemOk", fn := fun _ => fun
  | [d] => { results := [.lit (.bool true)], args := [d] }
  | _ => none }
def fnExactMemOkRow : OpenClaim := { program := "ytimlilgdbkcpoaa", sum := "91721b9e0977bce54c8299af3bd160706127f2a66ad81f6df114518d70d08cc2", func := "loop.example/g00712/laws.FnExactMemOk", spec := "fnExactMemOk", unfollowed := true, recurses := true, apart := false }
def FnExactMemOkSaid : Prop := fnExactMemOkRow.holds Try.pinned (OpenSpec.ofChange fnExactMemOkSpec)

/-- ITS FALSE NEIGHBOUR: 'it returns false'. Refute it at one input. -/
def fnExactMemOkWrong : ChangeSpec := { name := "fnExactMemOk", fn := fun _ => fun
  | [d] => { results := [.lit (.bool false)], args := [d] }
  | _ => none }
def FnExactMemOkWrongFalsely : Prop := fnExactMemOkRow.holds Try.pinned (OpenSpec.ofChange fnExactMemOkWrong)

/-- 'laws.FnExactPeek': WHATEVER THE INPUT: true; the input reads as it did. -/
def fnExactPeekSpec : ChangeSpec := { name := "fnExactPeek", fn := fun _ => fun
  | [d1, d2] => { results := [.lit (.bool true)], args := [d1, d2] }
  | _ => none }
def fnExactPeekRow : OpenClaim := { program := "ytimlilgdbkcpoaa", sum := "91721b9e0977bce54c8299af3bd160706127f2a66ad81f6df114518d70d08cc2", func := "loop.example/g00712/laws.FnExactPeek", spec := "fnExactPeek", unfollowed := true, recurses := true, apart := false }
def FnExactPeekSaid : Prop := fnExactPeekRow.holds Try.pinned (OpenSpec.ofChange fnExactPeekSpec)

/-- ITS FALSE NEIGHBOUR: 'it returns false'. Refute it at one input. -/
def fnExactPeekWrong : ChangeSpec := { name := "fnExactPeek", fn := fun _ => fun
  | [d1, d2] => { results := [.lit (.bool false)], args := [d1, d2] }
  | _ => none }
def FnExactPeekWrongFalsely : Prop := fnExactPeekRow.holds Try.pinned (OpenSpec.ofChange fnExactPeekWrong)

/-- 'laws.FnExactNewHeap': WHATEVER THE INPUT: true; the input reads as it did. -/
def fnExactNewHeapSpec : ChangeSpec := { name := "fnExactNewHeap", fn := fun _ => fun
  | [d] => { results := [.lit (.bool true)], args := [d] }
  | _ => none }
def fnExactNewHeapRow : OpenClaim := { program := "ytimlilgdbkcpoaa", sum := "91721b9e0977bce54c8299af3bd160706127f2a66ad81f6df114518d70d08cc2", func := "loop.example/g00712/laws.FnExactNewHeap", spec := "fnExactNewHeap", apart := false }
def FnExactNewHeapSaid : Prop := fnExactNewHeapRow.holds Try.pinned (OpenSpec.ofChange fnExactNewHeapSpec)

/-- ITS FALSE NEIGHBOUR: 'it returns false'. Refute it at one input. -/
def fnExactNewHeapWrong : ChangeSpec := { name := "fnExactNewHeap", fn := fun _ => fun
  | [d] => { results := [.lit (.bool false)], args := [d] }
  | _ => none }
def FnExactNewHeapWrongFalsely : Prop := fnExactNewHeapRow.holds Try.pinned (OpenSpec.ofChange fnExactNewHeapWrong)

/-- 'laws.FnExactWaits': WHATEVER THE INPUT: true; the input reads as it did. -/
def fnExactWaitsSpec : ChangeSpec := { name := "fnExactWaits", fn := fun _ => fun
  | [d1, d2] => { results := [.lit (.bool true)], args := [d1, d2] }
  | _ => none }
def fnExactWaitsRow : OpenClaim := { program := "ytimlilgdbkcpoaa", sum := "91721b9e0977bce54c8299af3bd160706127f2a66ad81f6df114518d70d08cc2", func := "loop.example/g00712/laws.FnExactWaits", spec := "fnExactWaits", unfollowed := true, recurses := true, apart := false }
def FnExactWaitsSaid : Prop := fnExactWaitsRow.holds Try.pinned (OpenSpec.ofChange fnExactWaitsSpec)

/-- ITS FALSE NEIGHBOUR: 'it returns false'. Refute it at one input. -/
def fnExactWaitsWrong : ChangeSpec := { name := "fnExactWaits", fn := fun _ => fun
  | [d1, d2] => { results := [.lit (.bool false)], args := [d1, d2] }
  | _ => none }
def FnExactWaitsWrongFalsely : Prop := fnExactWaitsRow.holds Try.pinned (OpenSpec.ofChange fnExactWaitsWrong)

/-- 'laws.FnExactSameMem': WHATEVER THE INPUT: true; the input reads as it did. -/
def fnExactSameMemSpec : ChangeSpec := { name := "fnExactSameMem", fn := fun _ => fun
  | [d1, d2] => { results := [.lit (.bool true)], args := [d1, d2] }
  | _ => none }
def fnExactSameMemRow : OpenClaim := { program := "ytimlilgdbkcpoaa", sum := "91721b9e0977bce54c8299af3bd160706127f2a66ad81f6df114518d70d08cc2", func := "loop.example/g00712/laws.FnExactSameMem", spec := "fnExactSameMem", unfollowed := true, recurses := true, apart := false }
def FnExactSameMemSaid : Prop := fnExactSameMemRow.holds Try.pinned (OpenSpec.ofChange fnExactSameMemSpec)

/-- ITS FALSE NEIGHBOUR: 'it returns false'. Refute it at one input. -/
def fnExactSameMemWrong : ChangeSpec := { name := "fnExactSameMem", fn := fun _ => fun
  | [d1, d2] => { results := [.lit (.bool false)], args := [d1, d2] }
  | _ => none }
def FnExactSameMemWrongFalsely : Prop := fnExactSameMemRow.holds Try.pinned (OpenSpec.ofChange fnExactSameMemWrong)

/-- 'laws.FnExactHeapOk': WHATEVER THE INPUT: true; the input reads as it did. -/
def fnExactHeapOkSpec : ChangeSpec := { name := "fnExactHeapOk", fn := fun _ => fun
  | [d] => { results := [.lit (.bool true)], args := [d] }
  | _ => none }
def fnExactHeapOkRow : OpenClaim := { program := "ytimlilgdbkcpoaa", sum := "91721b9e0977bce54c8299af3bd160706127f2a66ad81f6df114518d70d08cc2", func := "loop.example/g00712/laws.FnExactHeapOk", spec := "fnExactHeapOk", apart := false }
def FnExactHeapOkSaid : Prop := fnExactHeapOkRow.holds Try.pinned (OpenSpec.ofChange fnExactHeapOkSpec)

/-- ITS FALSE NEIGHBOUR: 'it returns false'. Refute it at one input. -/
def fnExactHeapOkWrong : ChangeSpec := { name := "fnExactHeapOk", fn := fun _ => fun
  | [d] => { results := [.lit (.bool false)], args := [d] }
  | _ => none }
def FnExactHeapOkWrongFalsely : Prop := fnExactHeapOkRow.holds Try.pinned (OpenSpec.ofChange fnExactHeapOkWrong)

/- THE SECOND FORM. 'bulk': how many values and letters a reading holds, each counted each time it is reached (what is shared counts as often as it is met; a slice's spare places count too). A statement '..UptoSaid' is the law's where the arguments, and the package variables that the reading takes, are together of bulk at most 1048576: NARROWER than '..Said'. Prove '..Said' where nothing that the law and all that it calls make is longer than what came in: it says more and counts as full. Else prove '..UptoSaid'. A law counts once. -/
mutual
def uptoBulk {H : Type} : DataW H → Nat
  | .lit (.string bytes) => bytes.length + 1
  | .lit _ => 1
  | .nil => 1
  | .ptr d => uptoBulk d + 1
  | .slice elems spare => uptoBulkAll elems + uptoBulkAll spare + 1
  | .agg parts => uptoBulkAll parts + 1
  | .iface _ d => uptoBulk d + 1
  | .map entries => uptoBulkEntries entries + 1
  | .held _ => 1
def uptoBulkAll {H : Type} : List (DataW H) → Nat
  | [] => 0
  | d :: r => uptoBulk d + uptoBulkAll r
def uptoBulkEntries {H : Type} : List (Lit × DataW H) → Nat
  | [] => 0
  | x :: r => uptoBulkEntry x + uptoBulkEntries r
def uptoBulkEntry {H : Type} : Lit × DataW H → Nat
  | (.string bytes, d) => bytes.length + uptoBulk d + 1
  | (_, d) => uptoBulk d + 1
 end
def uptoSmall : (H : Type) → List (DataW H) → Bool := fun _ ds => decide (uptoBulkAll ds ≤ 1048576)
def OpenSpec.upto (s : _root_.Go.ChangeSpec) : _root_.Go.OpenSpec := { _root_.Go.OpenSpec.ofChange s with cond := some uptoSmall }

/-- 'laws.FnExactConstants', WHERE WHAT IT READS IS OF BULK AT MOST 1048576: true; the input reads as it did. -/
def fnExactConstantsUptoRow : OpenClaim := { program := "ytimlilgdbkcpoaa", sum := "91721b9e0977bce54c8299af3bd160706127f2a66ad81f6df114518d70d08cc2", func := "loop.example/g00712/laws.FnExactConstants", spec := "fnExactConstants", apart := false, narrowed := true }
def FnExactConstantsUptoSaid : Prop := fnExactConstantsUptoRow.holds Try.pinned (OpenSpec.upto fnExactConstantsSpec)

/-- 'laws.FnExactClamp', WHERE WHAT IT READS IS OF BULK AT MOST 1048576: true; the input reads as it did. -/
def fnExactClampUptoRow : OpenClaim := { program := "ytimlilgdbkcpoaa", sum := "91721b9e0977bce54c8299af3bd160706127f2a66ad81f6df114518d70d08cc2", func := "loop.example/g00712/laws.FnExactClamp", spec := "fnExactClamp", apart := false, narrowed := true }
def FnExactClampUptoSaid : Prop := fnExactClampUptoRow.holds Try.pinned (OpenSpec.upto fnExactClampSpec)

/-- 'laws.FnExactHasFence', WHERE WHAT IT READS IS OF BULK AT MOST 1048576: true; the input reads as it did. -/
def fnExactHasFenceUptoRow : OpenClaim := { program := "ytimlilgdbkcpoaa", sum := "91721b9e0977bce54c8299af3bd160706127f2a66ad81f6df114518d70d08cc2", func := "loop.example/g00712/laws.FnExactHasFence", spec := "fnExactHasFence", apart := false, narrowed := true }
def FnExactHasFenceUptoSaid : Prop := fnExactHasFenceUptoRow.holds Try.pinned (OpenSpec.upto fnExactHasFenceSpec)

/-- 'laws.FnExactNewMem', WHERE WHAT IT READS IS OF BULK AT MOST 1048576: true; the input reads as it did. -/
def fnExactNewMemUptoRow : OpenClaim := { program := "ytimlilgdbkcpoaa", sum := "91721b9e0977bce54c8299af3bd160706127f2a66ad81f6df114518d70d08cc2", func := "loop.example/g00712/laws.FnExactNewMem", spec := "fnExactNewMem", apart := false, narrowed := true }
def FnExactNewMemUptoSaid : Prop := fnExactNewMemUptoRow.holds Try.pinned (OpenSpec.upto fnExactNewMemSpec)

/-- 'laws.FnExactInstrOk', WHERE WHAT IT READS IS OF BULK AT MOST 1048576: true; the input reads as it did. -/
def fnExactInstrOkUptoRow : OpenClaim := { program := "ytimlilgdbkcpoaa", sum := "91721b9e0977bce54c8299af3bd160706127f2a66ad81f6df114518d70d08cc2", func := "loop.example/g00712/laws.FnExactInstrOk", spec := "fnExactInstrOk", apart := false, narrowed := true }
def FnExactInstrOkUptoSaid : Prop := fnExactInstrOkUptoRow.holds Try.pinned (OpenSpec.upto fnExactInstrOkSpec)

/-- 'laws.FnExactBufOk', WHERE WHAT IT READS IS OF BULK AT MOST 1048576: true; the input reads as it did. -/
def fnExactBufOkUptoRow : OpenClaim := { program := "ytimlilgdbkcpoaa", sum := "91721b9e0977bce54c8299af3bd160706127f2a66ad81f6df114518d70d08cc2", func := "loop.example/g00712/laws.FnExactBufOk", spec := "fnExactBufOk", unfollowed := true, recurses := true, apart := false, narrowed := true }
def FnExactBufOkUptoSaid : Prop := fnExactBufOkUptoRow.holds Try.pinned (OpenSpec.upto fnExactBufOkSpec)

/-- 'laws.FnExactMemOk', WHERE WHAT IT READS IS OF BULK AT MOST 1048576: true; the input reads as it did. -/
def fnExactMemOkUptoRow : OpenClaim := { program := "ytimlilgdbkcpoaa", sum := "91721b9e0977bce54c8299af3bd160706127f2a66ad81f6df114518d70d08cc2", func := "loop.example/g00712/laws.FnExactMemOk", spec := "fnExactMemOk", unfollowed := true, recurses := true, apart := false, narrowed := true }
def FnExactMemOkUptoSaid : Prop := fnExactMemOkUptoRow.holds Try.pinned (OpenSpec.upto fnExactMemOkSpec)

/-- 'laws.FnExactPeek', WHERE WHAT IT READS IS OF BULK AT MOST 1048576: true; the input reads as it did. -/
def fnExactPeekUptoRow : OpenClaim := { program := "ytimlilgdbkcpoaa", sum := "91721b9e0977bce54c8299af3bd160706127f2a66ad81f6df114518d70d08cc2", func := "loop.example/g00712/laws.FnExactPeek", spec := "fnExactPeek", unfollowed := true, recurses := true, apart := false, narrowed := true }
def FnExactPeekUptoSaid : Prop := fnExactPeekUptoRow.holds Try.pinned (OpenSpec.upto fnExactPeekSpec)

/-- 'laws.FnExactNewHeap', WHERE WHAT IT READS IS OF BULK AT MOST 1048576: true; the input reads as it did. -/
def fnExactNewHeapUptoRow : OpenClaim := { program := "ytimlilgdbkcpoaa", sum := "91721b9e0977bce54c8299af3bd160706127f2a66ad81f6df114518d70d08cc2", func := "loop.example/g00712/laws.FnExactNewHeap", spec := "fnExactNewHeap", apart := false, narrowed := true }
def FnExactNewHeapUptoSaid : Prop := fnExactNewHeapUptoRow.holds Try.pinned (OpenSpec.upto fnExactNewHeapSpec)

/-- 'laws.FnExactWaits', WHERE WHAT IT READS IS OF BULK AT MOST 1048576: true; the input reads as it did. -/
def fnExactWaitsUptoRow : OpenClaim := { program := "ytimlilgdbkcpoaa", sum := "91721b9e0977bce54c8299af3bd160706127f2a66ad81f6df114518d70d08cc2", func := "loop.example/g00712/laws.FnExactWaits", spec := "fnExactWaits", unfollowed := true, recurses := true, apart := false, narrowed := true }
def FnExactWaitsUptoSaid : Prop := fnExactWaitsUptoRow.holds Try.pinned (OpenSpec.upto fnExactWaitsSpec)

/-- 'laws.FnExactSameMem', WHERE WHAT IT READS IS OF BULK AT MOST 1048576: true; the input reads as it did. -/
def fnExactSameMemUptoRow : OpenClaim := { program := "ytimlilgdbkcpoaa", sum := "91721b9e0977bce54c8299af3bd160706127f2a66ad81f6df114518d70d08cc2", func := "loop.example/g00712/laws.FnExactSameMem", spec := "fnExactSameMem", unfollowed := true, recurses := true, apart := false, narrowed := true }
def FnExactSameMemUptoSaid : Prop := fnExactSameMemUptoRow.holds Try.pinned (OpenSpec.upto fnExactSameMemSpec)

/-- 'laws.FnExactHeapOk', WHERE WHAT IT READS IS OF BULK AT MOST 1048576: true; the input reads as it did. -/
def fnExactHeapOkUptoRow : OpenClaim := { program := "ytimlilgdbkcpoaa", sum := "91721b9e0977bce54c8299af3bd160706127f2a66ad81f6df114518d70d08cc2", func := "loop.example/g00712/laws.FnExactHeapOk", spec := "fnExactHeapOk", apart := false, narrowed := true }
def FnExactHeapOkUptoSaid : Prop := fnExactHeapOkUptoRow.holds Try.pinned (OpenSpec.upto fnExactHeapOkSpec)

end Rows
end Go.Proofs.Ytimlilgdbkcpoaa
