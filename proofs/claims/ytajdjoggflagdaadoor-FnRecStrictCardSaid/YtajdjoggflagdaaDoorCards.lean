/-
  DERIVED. GIVEN WITH THE SEED: THE CARDS: each row of YtajdjoggflagdaaDoorRows.lean that lists a variable, with what it lists TIED to the program's text (the seventh form; the later family's looks); each row that meets fmt, with fmt's text TOLD by the authors' own Lean function (tested against real Go, not proved from fmt's source: count such statements apart). THE CARD IS WHAT COUNTS. Prove the row's statement (the work); the ties are given (YtajdjoggflagdaaDoorTie.lean); close each card by the builder's one call (the guide's Derived/Test/ToyasCard.lean, 'card_holds'). Laid BY PROGRAM, IN A SANDBOX (cutbox-door.mjs). By AI agents, Wed Nov 11 2026. No macro, syntax, notation, axiom, sorry.
-/
import Derived.Test.YtajdjoggflagdaaDoorRows
import GoSem.ClaimSeven
namespace Go.Proofs.YtajdjoggflagdaaDoor
namespace Rows

/-- THE TIED CARD OF 'laws.FnPageCopy'. -/
def fnPageCopyCard : Claim7 := { stood := { row := fnPageCopyRow, standIns := [], harness := (true, "efdd17f1c2921730cd08ba58fb662e57480d1962c060d171d5d2b2f618b0e42d"), looks := true }, kinds := [], alts := [], laidByText := true, laidKinds := [.data, .data, .data], laidTests := true, laidLooks := .later }
def FnPageCopyCardSaid : Prop := Claim7.holds Tryd.pinned (.plain (OpenSpec.ofChange fnPageCopySpec)) fnPageCopyCard

/-- THE TIED CARD OF 'laws.FnExactPageText'. -/
def fnExactPageTextCard : Claim7 := { stood := { row := fnExactPageTextRow, standIns := [], harness := (true, "efdd17f1c2921730cd08ba58fb662e57480d1962c060d171d5d2b2f618b0e42d"), looks := true }, kinds := [], alts := [], laidByText := true, laidKinds := [.data, .data, .data], laidTests := true, laidLooks := .later }
def FnExactPageTextCardSaid : Prop := Claim7.holds Tryd.pinned (.plain (OpenSpec.ofChange fnExactPageTextSpec)) fnExactPageTextCard

/-- THE TIED CARD OF 'laws.FnPageText'. -/
def fnPageTextCard : Claim7 := { stood := { row := fnPageTextRow, standIns := [], harness := (true, "efdd17f1c2921730cd08ba58fb662e57480d1962c060d171d5d2b2f618b0e42d"), looks := true }, kinds := [], alts := [], laidByText := true, laidKinds := [.data, .data, .data], laidTests := true, laidLooks := .later }
def FnPageTextCardSaid : Prop := Claim7.holds Tryd.pinned (.plain (OpenSpec.ofChange fnPageTextSpec)) fnPageTextCard

/-- THE TIED CARD OF 'laws.FnExactRecText'. -/
def fnExactRecTextCard : Claim7 := { stood := { row := fnExactRecTextRow, standIns := [], harness := (true, "efdd17f1c2921730cd08ba58fb662e57480d1962c060d171d5d2b2f618b0e42d"), looks := true }, kinds := [], alts := [], laidByText := true, laidKinds := [.data, .data, .data], laidTests := true, laidLooks := .later }
def FnExactRecTextCardSaid : Prop := Claim7.holds Tryd.pinned (.plain (OpenSpec.ofChange fnExactRecTextSpec)) fnExactRecTextCard

/-- THE TIED CARD OF 'laws.FnRecSame'. -/
def fnRecSameCard : Claim7 := { stood := { row := fnRecSameRow, standIns := [], harness := (true, "efdd17f1c2921730cd08ba58fb662e57480d1962c060d171d5d2b2f618b0e42d"), looks := true }, kinds := [], alts := [], laidByText := true, laidKinds := [.data, .data, .data], laidTests := true, laidLooks := .later }
def FnRecSameCardSaid : Prop := Claim7.holds Tryd.pinned (.plain (OpenSpec.ofChange fnRecSameSpec)) fnRecSameCard

/-- THE TIED CARD OF 'laws.FnRecBack'. -/
def fnRecBackCard : Claim7 := { stood := { row := fnRecBackRow, standIns := [], harness := (true, "efdd17f1c2921730cd08ba58fb662e57480d1962c060d171d5d2b2f618b0e42d"), looks := true }, kinds := [], alts := [], laidByText := true, laidKinds := [.data, .data, .data, .data, .sentinel, .sentinel, .pinned], laidTests := true, laidLooks := .later }
def FnRecBackCardSaid : Prop := Claim7.holds Tryd.pinned (.plain (OpenSpec.ofChange fnRecBackSpec)) fnRecBackCard

/-- THE TIED CARD OF 'laws.FnRecCut'. -/
def fnRecCutCard : Claim7 := { stood := { row := fnRecCutRow, standIns := [], harness := (true, "efdd17f1c2921730cd08ba58fb662e57480d1962c060d171d5d2b2f618b0e42d"), looks := true }, kinds := [], alts := [], laidByText := true, laidKinds := [.data, .data, .data, .data, .sentinel, .sentinel, .pinned], laidTests := true, laidLooks := .later }
def FnRecCutCardSaid : Prop := Claim7.holds Tryd.pinned (.plain (OpenSpec.ofChange fnRecCutSpec)) fnRecCutCard

/-- THE TIED CARD OF 'laws.FnExactRecRead'. -/
def fnExactRecReadCard : Claim7 := { stood := { row := fnExactRecReadRow, standIns := [], harness := (true, "efdd17f1c2921730cd08ba58fb662e57480d1962c060d171d5d2b2f618b0e42d"), looks := true }, kinds := [], alts := [], laidByText := true, laidKinds := [.data, .data, .data, .data, .sentinel, .sentinel, .pinned], laidTests := true, laidLooks := .later }
def FnExactRecReadCardSaid : Prop := Claim7.holds Tryd.pinned (.plain (OpenSpec.ofChange fnExactRecReadSpec)) fnExactRecReadCard

/-- THE TIED CARD OF 'laws.FnRecStrict'. -/
def fnRecStrictCard : Claim7 := { stood := { row := fnRecStrictRow, standIns := [], harness := (true, "efdd17f1c2921730cd08ba58fb662e57480d1962c060d171d5d2b2f618b0e42d"), looks := true }, kinds := [], alts := [], laidByText := true, laidKinds := [.data, .data, .data, .data, .sentinel, .sentinel, .pinned], laidTests := true, laidLooks := .later }
def FnRecStrictCardSaid : Prop := Claim7.holds Tryd.pinned (.plain (OpenSpec.ofChange fnRecStrictSpec)) fnRecStrictCard

/-- THE SECOND FORM's CARD OF 'laws.FnPageCopy'. -/
def fnPageCopyUptoCard : Claim7 := { stood := { row := fnPageCopyUptoRow, standIns := [], harness := (true, "efdd17f1c2921730cd08ba58fb662e57480d1962c060d171d5d2b2f618b0e42d"), looks := true }, kinds := [], alts := [], laidByText := true, laidKinds := [.data, .data, .data], laidTests := true, laidLooks := .later }
def FnPageCopyUptoCardSaid : Prop := Claim7.holds Tryd.pinned (.plain (OpenSpec.upto fnPageCopySpec)) fnPageCopyUptoCard

/-- THE SECOND FORM's CARD OF 'laws.FnExactPageText'. -/
def fnExactPageTextUptoCard : Claim7 := { stood := { row := fnExactPageTextUptoRow, standIns := [], harness := (true, "efdd17f1c2921730cd08ba58fb662e57480d1962c060d171d5d2b2f618b0e42d"), looks := true }, kinds := [], alts := [], laidByText := true, laidKinds := [.data, .data, .data], laidTests := true, laidLooks := .later }
def FnExactPageTextUptoCardSaid : Prop := Claim7.holds Tryd.pinned (.plain (OpenSpec.upto fnExactPageTextSpec)) fnExactPageTextUptoCard

/-- THE SECOND FORM's CARD OF 'laws.FnPageText'. -/
def fnPageTextUptoCard : Claim7 := { stood := { row := fnPageTextUptoRow, standIns := [], harness := (true, "efdd17f1c2921730cd08ba58fb662e57480d1962c060d171d5d2b2f618b0e42d"), looks := true }, kinds := [], alts := [], laidByText := true, laidKinds := [.data, .data, .data], laidTests := true, laidLooks := .later }
def FnPageTextUptoCardSaid : Prop := Claim7.holds Tryd.pinned (.plain (OpenSpec.upto fnPageTextSpec)) fnPageTextUptoCard

/-- THE SECOND FORM's CARD OF 'laws.FnExactRecText'. -/
def fnExactRecTextUptoCard : Claim7 := { stood := { row := fnExactRecTextUptoRow, standIns := [], harness := (true, "efdd17f1c2921730cd08ba58fb662e57480d1962c060d171d5d2b2f618b0e42d"), looks := true }, kinds := [], alts := [], laidByText := true, laidKinds := [.data, .data, .data], laidTests := true, laidLooks := .later }
def FnExactRecTextUptoCardSaid : Prop := Claim7.holds Tryd.pinned (.plain (OpenSpec.upto fnExactRecTextSpec)) fnExactRecTextUptoCard

/-- THE SECOND FORM's CARD OF 'laws.FnRecSame'. -/
def fnRecSameUptoCard : Claim7 := { stood := { row := fnRecSameUptoRow, standIns := [], harness := (true, "efdd17f1c2921730cd08ba58fb662e57480d1962c060d171d5d2b2f618b0e42d"), looks := true }, kinds := [], alts := [], laidByText := true, laidKinds := [.data, .data, .data], laidTests := true, laidLooks := .later }
def FnRecSameUptoCardSaid : Prop := Claim7.holds Tryd.pinned (.plain (OpenSpec.upto fnRecSameSpec)) fnRecSameUptoCard

/-- THE SECOND FORM's CARD OF 'laws.FnRecBack'. -/
def fnRecBackUptoCard : Claim7 := { stood := { row := fnRecBackUptoRow, standIns := [], harness := (true, "efdd17f1c2921730cd08ba58fb662e57480d1962c060d171d5d2b2f618b0e42d"), looks := true }, kinds := [], alts := [], laidByText := true, laidKinds := [.data, .data, .data, .data, .sentinel, .sentinel, .pinned], laidTests := true, laidLooks := .later }
def FnRecBackUptoCardSaid : Prop := Claim7.holds Tryd.pinned (.plain (OpenSpec.upto fnRecBackSpec)) fnRecBackUptoCard

/-- THE SECOND FORM's CARD OF 'laws.FnRecCut'. -/
def fnRecCutUptoCard : Claim7 := { stood := { row := fnRecCutUptoRow, standIns := [], harness := (true, "efdd17f1c2921730cd08ba58fb662e57480d1962c060d171d5d2b2f618b0e42d"), looks := true }, kinds := [], alts := [], laidByText := true, laidKinds := [.data, .data, .data, .data, .sentinel, .sentinel, .pinned], laidTests := true, laidLooks := .later }
def FnRecCutUptoCardSaid : Prop := Claim7.holds Tryd.pinned (.plain (OpenSpec.upto fnRecCutSpec)) fnRecCutUptoCard

/-- THE SECOND FORM's CARD OF 'laws.FnExactRecRead'. -/
def fnExactRecReadUptoCard : Claim7 := { stood := { row := fnExactRecReadUptoRow, standIns := [], harness := (true, "efdd17f1c2921730cd08ba58fb662e57480d1962c060d171d5d2b2f618b0e42d"), looks := true }, kinds := [], alts := [], laidByText := true, laidKinds := [.data, .data, .data, .data, .sentinel, .sentinel, .pinned], laidTests := true, laidLooks := .later }
def FnExactRecReadUptoCardSaid : Prop := Claim7.holds Tryd.pinned (.plain (OpenSpec.upto fnExactRecReadSpec)) fnExactRecReadUptoCard

/-- THE SECOND FORM's CARD OF 'laws.FnRecStrict'. -/
def fnRecStrictUptoCard : Claim7 := { stood := { row := fnRecStrictUptoRow, standIns := [], harness := (true, "efdd17f1c2921730cd08ba58fb662e57480d1962c060d171d5d2b2f618b0e42d"), looks := true }, kinds := [], alts := [], laidByText := true, laidKinds := [.data, .data, .data, .data, .sentinel, .sentinel, .pinned], laidTests := true, laidLooks := .later }
def FnRecStrictUptoCardSaid : Prop := Claim7.holds Tryd.pinned (.plain (OpenSpec.upto fnRecStrictSpec)) fnRecStrictUptoCard
end Rows
end Go.Proofs.YtajdjoggflagdaaDoor
