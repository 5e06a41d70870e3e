/-
  DERIVED. GIVEN WITH THE SEED: THE CARDS: each row of YtdgleeglndcjhaaGreatDoorRows.lean that lists a variable, with what it lists TIED to the program's text (the seventh form; the later family's looks); each row that meets fmt, with fmt's text TOLD by the authors' own Lean function (tested against real Go, not proved from fmt's source: count such statements apart). THE CARD IS WHAT COUNTS. Prove the row's statement (the work); the ties are given (YtdgleeglndcjhaaGreatDoorTie.lean); close each card by the builder's one call (the guide's Derived/Test/ToyasCard.lean, 'card_holds'). Laid BY PROGRAM, IN A SANDBOX (cutbox-door.mjs). By AI agents, Wed Nov 11 2026. No macro, syntax, notation, axiom, sorry.
-/
import Derived.Test.YtdgleeglndcjhaaGreatDoorRows
import GoSem.ClaimSeven
namespace Go.Proofs.YtdgleeglndcjhaaGreatDoor
namespace Rows

/-- THE TIED CARD OF 'cubitlaw19.RuleOr'. -/
def ruleOrCard : Claim7 := { stood := { row := ruleOrRow, standIns := [], harness := (true, "ad18e35032db7dfc4837fe7a16005cdbbcc3bcb790952796527d307c34b52375"), looks := true }, kinds := [], alts := [], laidByText := true, laidKinds := [.data, .data, .data, .data, .sentinel, .sentinel, .pinned], laidTests := true, laidLooks := .later }
def RuleOrCardSaid : Prop := Claim7.holds Tryz.pinned (.plain (OpenSpec.ofChange ruleOrSpec)) ruleOrCard

/-- THE TIED CARD OF 'cubitlaw19.RuleNumbers'. -/
def ruleNumbersCard : Claim7 := { stood := { row := ruleNumbersRow, standIns := [], harness := (true, "ad18e35032db7dfc4837fe7a16005cdbbcc3bcb790952796527d307c34b52375"), looks := true }, kinds := [], alts := [], laidByText := true, laidKinds := [.data, .data, .data, .data, .sentinel, .sentinel, .pinned], laidTests := true, laidLooks := .later }
def RuleNumbersCardSaid : Prop := Claim7.holds Tryz.pinned (.plain (OpenSpec.ofChange ruleNumbersSpec)) ruleNumbersCard

/-- THE TIED CARD OF 'cubitlaw19.RuleNot'. -/
def ruleNotCard : Claim7 := { stood := { row := ruleNotRow, standIns := [], harness := (true, "ad18e35032db7dfc4837fe7a16005cdbbcc3bcb790952796527d307c34b52375"), looks := true }, kinds := [], alts := [], laidByText := true, laidKinds := [.data, .data, .data, .data, .sentinel, .sentinel, .pinned], laidTests := true, laidLooks := .later }
def RuleNotCardSaid : Prop := Claim7.holds Tryz.pinned (.plain (OpenSpec.ofChange ruleNotSpec)) ruleNotCard

/-- THE TIED CARD OF 'cubitlaw19.RuleKnown'. -/
def ruleKnownCard : Claim7 := { stood := { row := ruleKnownRow, standIns := [], harness := (true, "ad18e35032db7dfc4837fe7a16005cdbbcc3bcb790952796527d307c34b52375"), looks := true }, kinds := [], alts := [], laidByText := true, laidKinds := [.data, .data, .data, .data, .sentinel, .sentinel, .pinned], laidTests := true, laidLooks := .later }
def RuleKnownCardSaid : Prop := Claim7.holds Tryz.pinned (.plain (OpenSpec.ofChange ruleKnownSpec)) ruleKnownCard

/-- THE TIED CARD OF 'cubitlaw19.RuleSays'. -/
def ruleSaysCard : Claim7 := { stood := { row := ruleSaysRow, standIns := [], harness := (true, "ad18e35032db7dfc4837fe7a16005cdbbcc3bcb790952796527d307c34b52375"), looks := true }, kinds := [], alts := [], laidByText := true, laidKinds := [.data, .data, .data, .data, .sentinel, .sentinel, .pinned], laidTests := true, laidLooks := .later }
def RuleSaysCardSaid : Prop := Claim7.holds Tryz.pinned (.plain (OpenSpec.ofChange ruleSaysSpec)) ruleSaysCard

/-- THE TIED CARD OF 'cubitlaw19.RuleBack'. -/
def ruleBackCard : Claim7 := { stood := { row := ruleBackRow, standIns := [], harness := (true, "ad18e35032db7dfc4837fe7a16005cdbbcc3bcb790952796527d307c34b52375"), looks := true }, kinds := [], alts := [], laidByText := true, laidKinds := [.data, .data, .data, .data, .sentinel, .sentinel, .pinned], laidTests := true, laidLooks := .later }
def RuleBackCardSaid : Prop := Claim7.holds Tryz.pinned (.plain (OpenSpec.ofChange ruleBackSpec)) ruleBackCard

/-- THE TIED CARD OF 'cubitlaw20.PluralEnglish'. -/
def pluralEnglishCard : Claim7 := { stood := { row := pluralEnglishRow, standIns := [], harness := (true, "ad18e35032db7dfc4837fe7a16005cdbbcc3bcb790952796527d307c34b52375"), looks := true }, kinds := [], alts := [], laidByText := true, laidKinds := [.data, .data, .data, .data, .sentinel, .sentinel, .pinned], laidTests := true, laidLooks := .later }
def PluralEnglishCardSaid : Prop := Claim7.holds Tryz.pinned (.plain (OpenSpec.ofChange pluralEnglishSpec)) pluralEnglishCard

/-- THE TIED CARD OF 'cubitlaw20.PluralKnown'. -/
def pluralKnownCard : Claim7 := { stood := { row := pluralKnownRow, standIns := [], harness := (true, "ad18e35032db7dfc4837fe7a16005cdbbcc3bcb790952796527d307c34b52375"), looks := true }, kinds := [], alts := [], laidByText := true, laidKinds := [.data, .data, .data, .data, .sentinel, .sentinel, .pinned], laidTests := true, laidLooks := .later }
def PluralKnownCardSaid : Prop := Claim7.holds Tryz.pinned (.plain (OpenSpec.ofChange pluralKnownSpec)) pluralKnownCard

/-- THE TIED CARD OF 'cubitlaw20.PluralSays'. -/
def pluralSaysCard : Claim7 := { stood := { row := pluralSaysRow, standIns := [], harness := (true, "ad18e35032db7dfc4837fe7a16005cdbbcc3bcb790952796527d307c34b52375"), looks := true }, kinds := [], alts := [], laidByText := true, laidKinds := [.data, .data, .data, .data, .sentinel, .sentinel, .pinned], laidTests := true, laidLooks := .later }
def PluralSaysCardSaid : Prop := Claim7.holds Tryz.pinned (.plain (OpenSpec.ofChange pluralSaysSpec)) pluralSaysCard

/-- THE TIED CARD OF 'cubitlaw20.PluralIs'. -/
def pluralIsCard : Claim7 := { stood := { row := pluralIsRow, standIns := [], harness := (true, "ad18e35032db7dfc4837fe7a16005cdbbcc3bcb790952796527d307c34b52375"), looks := true }, kinds := [], alts := [], laidByText := true, laidKinds := [.data, .data, .data, .data, .sentinel, .sentinel, .pinned], laidTests := true, laidLooks := .later }
def PluralIsCardSaid : Prop := Claim7.holds Tryz.pinned (.plain (OpenSpec.ofChange pluralIsSpec)) pluralIsCard

/-- THE SECOND FORM's CARD OF 'cubitlaw19.RuleOr'. -/
def ruleOrUptoCard : Claim7 := { stood := { row := ruleOrUptoRow, standIns := [], harness := (true, "ad18e35032db7dfc4837fe7a16005cdbbcc3bcb790952796527d307c34b52375"), looks := true }, kinds := [], alts := [], laidByText := true, laidKinds := [.data, .data, .data, .data, .sentinel, .sentinel, .pinned], laidTests := true, laidLooks := .later }
def RuleOrUptoCardSaid : Prop := Claim7.holds Tryz.pinned (.plain (OpenSpec.upto ruleOrSpec)) ruleOrUptoCard

/-- THE SECOND FORM's CARD OF 'cubitlaw19.RuleNumbers'. -/
def ruleNumbersUptoCard : Claim7 := { stood := { row := ruleNumbersUptoRow, standIns := [], harness := (true, "ad18e35032db7dfc4837fe7a16005cdbbcc3bcb790952796527d307c34b52375"), looks := true }, kinds := [], alts := [], laidByText := true, laidKinds := [.data, .data, .data, .data, .sentinel, .sentinel, .pinned], laidTests := true, laidLooks := .later }
def RuleNumbersUptoCardSaid : Prop := Claim7.holds Tryz.pinned (.plain (OpenSpec.upto ruleNumbersSpec)) ruleNumbersUptoCard

/-- THE SECOND FORM's CARD OF 'cubitlaw19.RuleNot'. -/
def ruleNotUptoCard : Claim7 := { stood := { row := ruleNotUptoRow, standIns := [], harness := (true, "ad18e35032db7dfc4837fe7a16005cdbbcc3bcb790952796527d307c34b52375"), looks := true }, kinds := [], alts := [], laidByText := true, laidKinds := [.data, .data, .data, .data, .sentinel, .sentinel, .pinned], laidTests := true, laidLooks := .later }
def RuleNotUptoCardSaid : Prop := Claim7.holds Tryz.pinned (.plain (OpenSpec.upto ruleNotSpec)) ruleNotUptoCard

/-- THE SECOND FORM's CARD OF 'cubitlaw19.RuleKnown'. -/
def ruleKnownUptoCard : Claim7 := { stood := { row := ruleKnownUptoRow, standIns := [], harness := (true, "ad18e35032db7dfc4837fe7a16005cdbbcc3bcb790952796527d307c34b52375"), looks := true }, kinds := [], alts := [], laidByText := true, laidKinds := [.data, .data, .data, .data, .sentinel, .sentinel, .pinned], laidTests := true, laidLooks := .later }
def RuleKnownUptoCardSaid : Prop := Claim7.holds Tryz.pinned (.plain (OpenSpec.upto ruleKnownSpec)) ruleKnownUptoCard

/-- THE SECOND FORM's CARD OF 'cubitlaw19.RuleSays'. -/
def ruleSaysUptoCard : Claim7 := { stood := { row := ruleSaysUptoRow, standIns := [], harness := (true, "ad18e35032db7dfc4837fe7a16005cdbbcc3bcb790952796527d307c34b52375"), looks := true }, kinds := [], alts := [], laidByText := true, laidKinds := [.data, .data, .data, .data, .sentinel, .sentinel, .pinned], laidTests := true, laidLooks := .later }
def RuleSaysUptoCardSaid : Prop := Claim7.holds Tryz.pinned (.plain (OpenSpec.upto ruleSaysSpec)) ruleSaysUptoCard

/-- THE SECOND FORM's CARD OF 'cubitlaw19.RuleBack'. -/
def ruleBackUptoCard : Claim7 := { stood := { row := ruleBackUptoRow, standIns := [], harness := (true, "ad18e35032db7dfc4837fe7a16005cdbbcc3bcb790952796527d307c34b52375"), looks := true }, kinds := [], alts := [], laidByText := true, laidKinds := [.data, .data, .data, .data, .sentinel, .sentinel, .pinned], laidTests := true, laidLooks := .later }
def RuleBackUptoCardSaid : Prop := Claim7.holds Tryz.pinned (.plain (OpenSpec.upto ruleBackSpec)) ruleBackUptoCard

/-- THE SECOND FORM's CARD OF 'cubitlaw20.PluralEnglish'. -/
def pluralEnglishUptoCard : Claim7 := { stood := { row := pluralEnglishUptoRow, standIns := [], harness := (true, "ad18e35032db7dfc4837fe7a16005cdbbcc3bcb790952796527d307c34b52375"), looks := true }, kinds := [], alts := [], laidByText := true, laidKinds := [.data, .data, .data, .data, .sentinel, .sentinel, .pinned], laidTests := true, laidLooks := .later }
def PluralEnglishUptoCardSaid : Prop := Claim7.holds Tryz.pinned (.plain (OpenSpec.upto pluralEnglishSpec)) pluralEnglishUptoCard

/-- THE SECOND FORM's CARD OF 'cubitlaw20.PluralKnown'. -/
def pluralKnownUptoCard : Claim7 := { stood := { row := pluralKnownUptoRow, standIns := [], harness := (true, "ad18e35032db7dfc4837fe7a16005cdbbcc3bcb790952796527d307c34b52375"), looks := true }, kinds := [], alts := [], laidByText := true, laidKinds := [.data, .data, .data, .data, .sentinel, .sentinel, .pinned], laidTests := true, laidLooks := .later }
def PluralKnownUptoCardSaid : Prop := Claim7.holds Tryz.pinned (.plain (OpenSpec.upto pluralKnownSpec)) pluralKnownUptoCard

/-- THE SECOND FORM's CARD OF 'cubitlaw20.PluralSays'. -/
def pluralSaysUptoCard : Claim7 := { stood := { row := pluralSaysUptoRow, standIns := [], harness := (true, "ad18e35032db7dfc4837fe7a16005cdbbcc3bcb790952796527d307c34b52375"), looks := true }, kinds := [], alts := [], laidByText := true, laidKinds := [.data, .data, .data, .data, .sentinel, .sentinel, .pinned], laidTests := true, laidLooks := .later }
def PluralSaysUptoCardSaid : Prop := Claim7.holds Tryz.pinned (.plain (OpenSpec.upto pluralSaysSpec)) pluralSaysUptoCard

/-- THE SECOND FORM's CARD OF 'cubitlaw20.PluralIs'. -/
def pluralIsUptoCard : Claim7 := { stood := { row := pluralIsUptoRow, standIns := [], harness := (true, "ad18e35032db7dfc4837fe7a16005cdbbcc3bcb790952796527d307c34b52375"), looks := true }, kinds := [], alts := [], laidByText := true, laidKinds := [.data, .data, .data, .data, .sentinel, .sentinel, .pinned], laidTests := true, laidLooks := .later }
def PluralIsUptoCardSaid : Prop := Claim7.holds Tryz.pinned (.plain (OpenSpec.upto pluralIsSpec)) pluralIsUptoCard
end Rows
end Go.Proofs.YtdgleeglndcjhaaGreatDoor
