/-
  DERIVED. GIVEN WITH THE SEED: THE CARDS: each row of YtchpopocnaoabaaDoorRows.lean that lists a variable, with what it lists TIED to the program's text (the seventh form; the later family's looks); each row that meets fmt, with fmt's text TOLD by the authors' own Lean function (tested against real Go, not proved from fmt's source: count such statements apart). THE CARD IS WHAT COUNTS. Prove the row's statement (the work); the ties are given (YtchpopocnaoabaaDoorTie.lean); close each card by the builder's one call (the guide's Derived/Test/ToyasCard.lean, 'card_holds'). Laid BY PROGRAM, IN A SANDBOX (cutbox-door.mjs). By AI agents, Wed Nov 11 2026. No macro, syntax, notation, axiom, sorry.
-/
import Derived.Test.YtchpopocnaoabaaDoorRows
import GoSem.ClaimSeven
namespace Go.Proofs.YtchpopocnaoabaaDoor
namespace Rows

/-- THE TIED CARD OF 'laws.FnCodes'. -/
def fnCodesCard : Claim7 := { stood := { row := fnCodesRow, standIns := [], harness := (true, "40909ffbdfce446d41544ab50ad726d5182760ef3d57485115cd8ef42070093b"), looks := true }, kinds := [], alts := [], laidByText := true, laidKinds := [.data, .data, .data, .data, .sentinel, .sentinel, .pinned], laidTests := true, laidLooks := .later }
def FnCodesCardSaid : Prop := Claim7.holds Tryd.pinned (.plain (OpenSpec.ofChange fnCodesSpec)) fnCodesCard

/-- THE TIED CARD OF 'laws.FnExactParseAsk'. -/
def fnExactParseAskCard : Claim7 := { stood := { row := fnExactParseAskRow, standIns := [], harness := (true, "40909ffbdfce446d41544ab50ad726d5182760ef3d57485115cd8ef42070093b"), looks := true }, kinds := [], alts := [], laidByText := true, laidKinds := [.data, .data, .data, .data, .sentinel, .sentinel, .pinned], laidTests := true, laidLooks := .later }
def FnExactParseAskCardSaid : Prop := Claim7.holds Tryd.pinned (.plain (OpenSpec.ofChange fnExactParseAskSpec)) fnExactParseAskCard

/-- THE TIED CARD OF 'laws.FnExactInstrText'. -/
def fnExactInstrTextCard : Claim7 := { stood := { row := fnExactInstrTextRow, standIns := [], harness := (true, "40909ffbdfce446d41544ab50ad726d5182760ef3d57485115cd8ef42070093b"), looks := true }, kinds := [], alts := [], laidByText := true, laidKinds := [.data, .data, .data], laidTests := true, laidLooks := .later }
def FnExactInstrTextCardSaid : Prop := Claim7.holds Tryd.pinned (.plain (OpenSpec.ofChange fnExactInstrTextSpec)) fnExactInstrTextCard

/-- THE TIED CARD OF 'laws.FnExactBufText'. -/
def fnExactBufTextCard : Claim7 := { stood := { row := fnExactBufTextRow, standIns := [], harness := (true, "40909ffbdfce446d41544ab50ad726d5182760ef3d57485115cd8ef42070093b"), looks := true }, kinds := [], alts := [], laidByText := true, laidKinds := [.data, .data, .data], laidTests := true, laidLooks := .later }
def FnExactBufTextCardSaid : Prop := Claim7.holds Tryd.pinned (.plain (OpenSpec.ofChange fnExactBufTextSpec)) fnExactBufTextCard

/-- THE TIED CARD OF 'laws.FnExactMemText'. -/
def fnExactMemTextCard : Claim7 := { stood := { row := fnExactMemTextRow, standIns := [], harness := (true, "40909ffbdfce446d41544ab50ad726d5182760ef3d57485115cd8ef42070093b"), looks := true }, kinds := [], alts := [], laidByText := true, laidKinds := [.data, .data, .data], laidTests := true, laidLooks := .later }
def FnExactMemTextCardSaid : Prop := Claim7.holds Tryd.pinned (.plain (OpenSpec.ofChange fnExactMemTextSpec)) fnExactMemTextCard

/-- THE TIED CARD OF 'laws.FnExactAskText'. -/
def fnExactAskTextCard : Claim7 := { stood := { row := fnExactAskTextRow, standIns := [], harness := (true, "40909ffbdfce446d41544ab50ad726d5182760ef3d57485115cd8ef42070093b"), looks := true }, kinds := [], alts := [], laidByText := true, laidKinds := [.data, .data, .data], laidTests := true, laidLooks := .later }
def FnExactAskTextCardSaid : Prop := Claim7.holds Tryd.pinned (.plain (OpenSpec.ofChange fnExactAskTextSpec)) fnExactAskTextCard

/-- THE TIED CARD OF 'laws.FnExactCodeText'. -/
def fnExactCodeTextCard : Claim7 := { stood := { row := fnExactCodeTextRow, standIns := [], harness := (true, "40909ffbdfce446d41544ab50ad726d5182760ef3d57485115cd8ef42070093b"), looks := true }, kinds := [], alts := [], laidByText := true, laidKinds := [.data, .data, .data], laidTests := true, laidLooks := .later }
def FnExactCodeTextCardSaid : Prop := Claim7.holds Tryd.pinned (.plain (OpenSpec.ofChange fnExactCodeTextSpec)) fnExactCodeTextCard

/-- THE TIED CARD OF 'laws.FnExactOutcomeOf'. -/
def fnExactOutcomeOfCard : Claim7 := { stood := { row := fnExactOutcomeOfRow, standIns := [], harness := (true, "40909ffbdfce446d41544ab50ad726d5182760ef3d57485115cd8ef42070093b"), looks := true }, kinds := [], alts := [], laidByText := true, laidKinds := [.data, .data, .data], laidTests := true, laidLooks := .later }
def FnExactOutcomeOfCardSaid : Prop := Claim7.holds Tryd.pinned (.plain (OpenSpec.ofChange fnExactOutcomeOfSpec)) fnExactOutcomeOfCard

/-- THE TIED CARD OF 'laws.FnExactMachineText'. -/
def fnExactMachineTextCard : Claim7 := { stood := { row := fnExactMachineTextRow, standIns := [], harness := (true, "40909ffbdfce446d41544ab50ad726d5182760ef3d57485115cd8ef42070093b"), looks := true }, kinds := [], alts := [], laidByText := true, laidKinds := [.data, .data, .data], laidTests := true, laidLooks := .later }
def FnExactMachineTextCardSaid : Prop := Claim7.holds Tryd.pinned (.plain (OpenSpec.ofChange fnExactMachineTextSpec)) fnExactMachineTextCard

/-- THE TIED CARD OF 'laws.FnMemTexts'. -/
def fnMemTextsCard : Claim7 := { stood := { row := fnMemTextsRow, standIns := [], harness := (true, "40909ffbdfce446d41544ab50ad726d5182760ef3d57485115cd8ef42070093b"), looks := true }, kinds := [], alts := [], laidByText := true, laidKinds := [.data, .data, .data, .data, .sentinel, .sentinel, .pinned], laidTests := true, laidLooks := .later }
def FnMemTextsCardSaid : Prop := Claim7.holds Tryd.pinned (.plain (OpenSpec.ofChange fnMemTextsSpec)) fnMemTextsCard

/-- THE TIED CARD OF 'laws.FnExactParseInstr'. -/
def fnExactParseInstrCard : Claim7 := { stood := { row := fnExactParseInstrRow, standIns := [], harness := (true, "40909ffbdfce446d41544ab50ad726d5182760ef3d57485115cd8ef42070093b"), looks := true }, kinds := [], alts := [], laidByText := true, laidKinds := [.data, .data, .data, .data, .sentinel, .sentinel, .pinned], laidTests := true, laidLooks := .later }
def FnExactParseInstrCardSaid : Prop := Claim7.holds Tryd.pinned (.plain (OpenSpec.ofChange fnExactParseInstrSpec)) fnExactParseInstrCard

/-- THE TIED CARD OF 'laws.FnExactParseMem'. -/
def fnExactParseMemCard : Claim7 := { stood := { row := fnExactParseMemRow, standIns := [], harness := (true, "40909ffbdfce446d41544ab50ad726d5182760ef3d57485115cd8ef42070093b"), looks := true }, kinds := [], alts := [], laidByText := true, laidKinds := [.data, .data, .data, .data, .sentinel, .sentinel, .pinned], laidTests := true, laidLooks := .later }
def FnExactParseMemCardSaid : Prop := Claim7.holds Tryd.pinned (.plain (OpenSpec.ofChange fnExactParseMemSpec)) fnExactParseMemCard

/-- THE TIED CARD OF 'laws.FnExactParseCode'. -/
def fnExactParseCodeCard : Claim7 := { stood := { row := fnExactParseCodeRow, standIns := [], harness := (true, "40909ffbdfce446d41544ab50ad726d5182760ef3d57485115cd8ef42070093b"), looks := true }, kinds := [], alts := [], laidByText := true, laidKinds := [.data, .data, .data, .data, .sentinel, .sentinel, .pinned], laidTests := true, laidLooks := .later }
def FnExactParseCodeCardSaid : Prop := Claim7.holds Tryd.pinned (.plain (OpenSpec.ofChange fnExactParseCodeSpec)) fnExactParseCodeCard

/-- THE SECOND FORM's CARD OF 'laws.FnCodes'. -/
def fnCodesUptoCard : Claim7 := { stood := { row := fnCodesUptoRow, standIns := [], harness := (true, "40909ffbdfce446d41544ab50ad726d5182760ef3d57485115cd8ef42070093b"), looks := true }, kinds := [], alts := [], laidByText := true, laidKinds := [.data, .data, .data, .data, .sentinel, .sentinel, .pinned], laidTests := true, laidLooks := .later }
def FnCodesUptoCardSaid : Prop := Claim7.holds Tryd.pinned (.plain (OpenSpec.upto fnCodesSpec)) fnCodesUptoCard

/-- THE SECOND FORM's CARD OF 'laws.FnExactParseAsk'. -/
def fnExactParseAskUptoCard : Claim7 := { stood := { row := fnExactParseAskUptoRow, standIns := [], harness := (true, "40909ffbdfce446d41544ab50ad726d5182760ef3d57485115cd8ef42070093b"), looks := true }, kinds := [], alts := [], laidByText := true, laidKinds := [.data, .data, .data, .data, .sentinel, .sentinel, .pinned], laidTests := true, laidLooks := .later }
def FnExactParseAskUptoCardSaid : Prop := Claim7.holds Tryd.pinned (.plain (OpenSpec.upto fnExactParseAskSpec)) fnExactParseAskUptoCard

/-- THE SECOND FORM's CARD OF 'laws.FnExactInstrText'. -/
def fnExactInstrTextUptoCard : Claim7 := { stood := { row := fnExactInstrTextUptoRow, standIns := [], harness := (true, "40909ffbdfce446d41544ab50ad726d5182760ef3d57485115cd8ef42070093b"), looks := true }, kinds := [], alts := [], laidByText := true, laidKinds := [.data, .data, .data], laidTests := true, laidLooks := .later }
def FnExactInstrTextUptoCardSaid : Prop := Claim7.holds Tryd.pinned (.plain (OpenSpec.upto fnExactInstrTextSpec)) fnExactInstrTextUptoCard

/-- THE SECOND FORM's CARD OF 'laws.FnExactBufText'. -/
def fnExactBufTextUptoCard : Claim7 := { stood := { row := fnExactBufTextUptoRow, standIns := [], harness := (true, "40909ffbdfce446d41544ab50ad726d5182760ef3d57485115cd8ef42070093b"), looks := true }, kinds := [], alts := [], laidByText := true, laidKinds := [.data, .data, .data], laidTests := true, laidLooks := .later }
def FnExactBufTextUptoCardSaid : Prop := Claim7.holds Tryd.pinned (.plain (OpenSpec.upto fnExactBufTextSpec)) fnExactBufTextUptoCard

/-- THE SECOND FORM's CARD OF 'laws.FnExactMemText'. -/
def fnExactMemTextUptoCard : Claim7 := { stood := { row := fnExactMemTextUptoRow, standIns := [], harness := (true, "40909ffbdfce446d41544ab50ad726d5182760ef3d57485115cd8ef42070093b"), looks := true }, kinds := [], alts := [], laidByText := true, laidKinds := [.data, .data, .data], laidTests := true, laidLooks := .later }
def FnExactMemTextUptoCardSaid : Prop := Claim7.holds Tryd.pinned (.plain (OpenSpec.upto fnExactMemTextSpec)) fnExactMemTextUptoCard

/-- THE SECOND FORM's CARD OF 'laws.FnExactAskText'. -/
def fnExactAskTextUptoCard : Claim7 := { stood := { row := fnExactAskTextUptoRow, standIns := [], harness := (true, "40909ffbdfce446d41544ab50ad726d5182760ef3d57485115cd8ef42070093b"), looks := true }, kinds := [], alts := [], laidByText := true, laidKinds := [.data, .data, .data], laidTests := true, laidLooks := .later }
def FnExactAskTextUptoCardSaid : Prop := Claim7.holds Tryd.pinned (.plain (OpenSpec.upto fnExactAskTextSpec)) fnExactAskTextUptoCard

/-- THE SECOND FORM's CARD OF 'laws.FnExactCodeText'. -/
def fnExactCodeTextUptoCard : Claim7 := { stood := { row := fnExactCodeTextUptoRow, standIns := [], harness := (true, "40909ffbdfce446d41544ab50ad726d5182760ef3d57485115cd8ef42070093b"), looks := true }, kinds := [], alts := [], laidByText := true, laidKinds := [.data, .data, .data], laidTests := true, laidLooks := .later }
def FnExactCodeTextUptoCardSaid : Prop := Claim7.holds Tryd.pinned (.plain (OpenSpec.upto fnExactCodeTextSpec)) fnExactCodeTextUptoCard

/-- THE SECOND FORM's CARD OF 'laws.FnExactOutcomeOf'. -/
def fnExactOutcomeOfUptoCard : Claim7 := { stood := { row := fnExactOutcomeOfUptoRow, standIns := [], harness := (true, "40909ffbdfce446d41544ab50ad726d5182760ef3d57485115cd8ef42070093b"), looks := true }, kinds := [], alts := [], laidByText := true, laidKinds := [.data, .data, .data], laidTests := true, laidLooks := .later }
def FnExactOutcomeOfUptoCardSaid : Prop := Claim7.holds Tryd.pinned (.plain (OpenSpec.upto fnExactOutcomeOfSpec)) fnExactOutcomeOfUptoCard

/-- THE SECOND FORM's CARD OF 'laws.FnExactMachineText'. -/
def fnExactMachineTextUptoCard : Claim7 := { stood := { row := fnExactMachineTextUptoRow, standIns := [], harness := (true, "40909ffbdfce446d41544ab50ad726d5182760ef3d57485115cd8ef42070093b"), looks := true }, kinds := [], alts := [], laidByText := true, laidKinds := [.data, .data, .data], laidTests := true, laidLooks := .later }
def FnExactMachineTextUptoCardSaid : Prop := Claim7.holds Tryd.pinned (.plain (OpenSpec.upto fnExactMachineTextSpec)) fnExactMachineTextUptoCard

/-- THE SECOND FORM's CARD OF 'laws.FnMemTexts'. -/
def fnMemTextsUptoCard : Claim7 := { stood := { row := fnMemTextsUptoRow, standIns := [], harness := (true, "40909ffbdfce446d41544ab50ad726d5182760ef3d57485115cd8ef42070093b"), looks := true }, kinds := [], alts := [], laidByText := true, laidKinds := [.data, .data, .data, .data, .sentinel, .sentinel, .pinned], laidTests := true, laidLooks := .later }
def FnMemTextsUptoCardSaid : Prop := Claim7.holds Tryd.pinned (.plain (OpenSpec.upto fnMemTextsSpec)) fnMemTextsUptoCard

/-- THE SECOND FORM's CARD OF 'laws.FnExactParseInstr'. -/
def fnExactParseInstrUptoCard : Claim7 := { stood := { row := fnExactParseInstrUptoRow, standIns := [], harness := (true, "40909ffbdfce446d41544ab50ad726d5182760ef3d57485115cd8ef42070093b"), looks := true }, kinds := [], alts := [], laidByText := true, laidKinds := [.data, .data, .data, .data, .sentinel, .sentinel, .pinned], laidTests := true, laidLooks := .later }
def FnExactParseInstrUptoCardSaid : Prop := Claim7.holds Tryd.pinned (.plain (OpenSpec.upto fnExactParseInstrSpec)) fnExactParseInstrUptoCard

/-- THE SECOND FORM's CARD OF 'laws.FnExactParseMem'. -/
def fnExactParseMemUptoCard : Claim7 := { stood := { row := fnExactParseMemUptoRow, standIns := [], harness := (true, "40909ffbdfce446d41544ab50ad726d5182760ef3d57485115cd8ef42070093b"), looks := true }, kinds := [], alts := [], laidByText := true, laidKinds := [.data, .data, .data, .data, .sentinel, .sentinel, .pinned], laidTests := true, laidLooks := .later }
def FnExactParseMemUptoCardSaid : Prop := Claim7.holds Tryd.pinned (.plain (OpenSpec.upto fnExactParseMemSpec)) fnExactParseMemUptoCard

/-- THE SECOND FORM's CARD OF 'laws.FnExactParseCode'. -/
def fnExactParseCodeUptoCard : Claim7 := { stood := { row := fnExactParseCodeUptoRow, standIns := [], harness := (true, "40909ffbdfce446d41544ab50ad726d5182760ef3d57485115cd8ef42070093b"), looks := true }, kinds := [], alts := [], laidByText := true, laidKinds := [.data, .data, .data, .data, .sentinel, .sentinel, .pinned], laidTests := true, laidLooks := .later }
def FnExactParseCodeUptoCardSaid : Prop := Claim7.holds Tryd.pinned (.plain (OpenSpec.upto fnExactParseCodeSpec)) fnExactParseCodeUptoCard
end Rows
end Go.Proofs.YtchpopocnaoabaaDoor
