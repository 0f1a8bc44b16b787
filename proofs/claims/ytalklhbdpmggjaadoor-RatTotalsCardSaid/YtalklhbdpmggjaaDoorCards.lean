/-
  DERIVED. GIVEN WITH THE SEED: THE CARDS: each row of YtalklhbdpmggjaaDoorRows.lean that lists a variable, with what it lists TIED to the program's text (the seventh form; the later family's looks); each row that meets fmt, with fmt's text TOLD by the authors' own Lean function (tested against real Go, not proved from fmt's source: count such statements apart). THE CARD IS WHAT COUNTS. Prove the row's statement (the work); the ties are given (YtalklhbdpmggjaaDoorTie.lean); close each card by the builder's one call (the guide's Derived/Test/ToyasCard.lean, 'card_holds'). Laid BY PROGRAM, IN A SANDBOX (cutbox-door.mjs). By AI agents, Wed Nov 11 2026. No macro, syntax, notation, axiom, sorry.
-/
import Derived.Test.YtalklhbdpmggjaaDoorRows
import GoSem.ClaimSeven
namespace Go.Proofs.YtalklhbdpmggjaaDoor
namespace Rows

/-- THE TIED CARD OF 'papermilllaw02.NatProducts'. -/
def natProductsCard : Claim7 := { stood := { row := natProductsRow, standIns := [], harness := (true, "be9665efe8b326d5843256fe0f9c8f863bf539fbb73824fe9c349cb01fba4eaf"), looks := false }, kinds := [], alts := [], laidByText := true, laidKinds := [.data, .data, .data], laidTests := true, laidLooks := .later }
def NatProductsCardSaid : Prop := Claim7.holds Tryd.pinned (.plain (OpenSpec.ofChange natProductsSpec)) natProductsCard

/-- THE TIED CARD OF 'papermilllaw02.NatQuotients'. -/
def natQuotientsCard : Claim7 := { stood := { row := natQuotientsRow, standIns := [], harness := (true, "be9665efe8b326d5843256fe0f9c8f863bf539fbb73824fe9c349cb01fba4eaf"), looks := false }, kinds := [], alts := [], laidByText := true, laidKinds := [.data, .data, .data], laidTests := true, laidLooks := .later }
def NatQuotientsCardSaid : Prop := Claim7.holds Tryd.pinned (.plain (OpenSpec.ofChange natQuotientsSpec)) natQuotientsCard

/-- THE TIED CARD OF 'papermilllaw02.NatDivisors'. -/
def natDivisorsCard : Claim7 := { stood := { row := natDivisorsRow, standIns := [], harness := (true, "be9665efe8b326d5843256fe0f9c8f863bf539fbb73824fe9c349cb01fba4eaf"), looks := false }, kinds := [], alts := [], laidByText := true, laidKinds := [.data, .data, .data], laidTests := true, laidLooks := .later }
def NatDivisorsCardSaid : Prop := Claim7.holds Tryd.pinned (.plain (OpenSpec.ofChange natDivisorsSpec)) natDivisorsCard

/-- THE TIED CARD OF 'papermilllaw02.NatTexts'. -/
def natTextsCard : Claim7 := { stood := { row := natTextsRow, standIns := [], harness := (true, "be9665efe8b326d5843256fe0f9c8f863bf539fbb73824fe9c349cb01fba4eaf"), looks := false }, kinds := [], alts := [], laidByText := true, laidKinds := [.data, .data, .data], laidTests := true, laidLooks := .later }
def NatTextsCardSaid : Prop := Claim7.holds Tryd.pinned (.plain (OpenSpec.ofChange natTextsSpec)) natTextsCard

/-- THE TIED CARD OF 'papermilllaw02.NatCompares'. -/
def natComparesCard : Claim7 := { stood := { row := natComparesRow, standIns := [], harness := (true, "be9665efe8b326d5843256fe0f9c8f863bf539fbb73824fe9c349cb01fba4eaf"), looks := false }, kinds := [], alts := [], laidByText := true, laidKinds := [.data, .data, .data], laidTests := true, laidLooks := .later }
def NatComparesCardSaid : Prop := Claim7.holds Tryd.pinned (.plain (OpenSpec.ofChange natComparesSpec)) natComparesCard

/-- THE TIED CARD OF 'papermilllaw02.NatForms'. -/
def natFormsCard : Claim7 := { stood := { row := natFormsRow, standIns := [], harness := (true, "be9665efe8b326d5843256fe0f9c8f863bf539fbb73824fe9c349cb01fba4eaf"), looks := false }, kinds := [], alts := [], laidByText := true, laidKinds := [.data, .data, .data], laidTests := true, laidLooks := .later }
def NatFormsCardSaid : Prop := Claim7.holds Tryd.pinned (.plain (OpenSpec.ofChange natFormsSpec)) natFormsCard

/-- THE TIED CARD OF 'papermilllaw02.NatInts'. -/
def natIntsCard : Claim7 := { stood := { row := natIntsRow, standIns := [], harness := (true, "be9665efe8b326d5843256fe0f9c8f863bf539fbb73824fe9c349cb01fba4eaf"), looks := false }, kinds := [], alts := [], laidByText := true, laidKinds := [.data, .data, .data], laidTests := true, laidLooks := .later }
def NatIntsCardSaid : Prop := Claim7.holds Tryd.pinned (.plain (OpenSpec.ofChange natIntsSpec)) natIntsCard

/-- THE TIED CARD OF 'papermilllaw02.NatSums'. -/
def natSumsCard : Claim7 := { stood := { row := natSumsRow, standIns := [], harness := (true, "be9665efe8b326d5843256fe0f9c8f863bf539fbb73824fe9c349cb01fba4eaf"), looks := false }, kinds := [], alts := [], laidByText := true, laidKinds := [.data, .data, .data], laidTests := true, laidLooks := .later }
def NatSumsCardSaid : Prop := Claim7.holds Tryd.pinned (.plain (OpenSpec.ofChange natSumsSpec)) natSumsCard

/-- THE TIED CARD OF 'papermilllaw02.NatDivides'. -/
def natDividesCard : Claim7 := { stood := { row := natDividesRow, standIns := [], harness := (true, "be9665efe8b326d5843256fe0f9c8f863bf539fbb73824fe9c349cb01fba4eaf"), looks := false }, kinds := [], alts := [], laidByText := true, laidKinds := [.data, .data, .data], laidTests := true, laidLooks := .later }
def NatDividesCardSaid : Prop := Claim7.holds Tryd.pinned (.plain (OpenSpec.ofChange natDividesSpec)) natDividesCard

/-- THE TIED CARD OF 'papermilllaw03.RatMakes'. -/
def ratMakesCard : Claim7 := { stood := { row := ratMakesRow, standIns := [], harness := (true, "be9665efe8b326d5843256fe0f9c8f863bf539fbb73824fe9c349cb01fba4eaf"), looks := false }, kinds := [], alts := [], laidByText := true, laidKinds := [.data, .data, .data], laidTests := true, laidLooks := .later }
def RatMakesCardSaid : Prop := Claim7.holds Tryd.pinned (.plain (OpenSpec.ofChange ratMakesSpec)) ratMakesCard

/-- THE TIED CARD OF 'papermilllaw03.RatValids'. -/
def ratValidsCard : Claim7 := { stood := { row := ratValidsRow, standIns := [], harness := (true, "be9665efe8b326d5843256fe0f9c8f863bf539fbb73824fe9c349cb01fba4eaf"), looks := false }, kinds := [], alts := [], laidByText := true, laidKinds := [.data, .data, .data], laidTests := true, laidLooks := .later }
def RatValidsCardSaid : Prop := Claim7.holds Tryd.pinned (.plain (OpenSpec.ofChange ratValidsSpec)) ratValidsCard

/-- THE TIED CARD OF 'papermilllaw03.RatSums'. -/
def ratSumsCard : Claim7 := { stood := { row := ratSumsRow, standIns := [], harness := (true, "be9665efe8b326d5843256fe0f9c8f863bf539fbb73824fe9c349cb01fba4eaf"), looks := false }, kinds := [], alts := [], laidByText := true, laidKinds := [.data, .data, .data], laidTests := true, laidLooks := .later }
def RatSumsCardSaid : Prop := Claim7.holds Tryd.pinned (.plain (OpenSpec.ofChange ratSumsSpec)) ratSumsCard

/-- THE TIED CARD OF 'papermilllaw03.RatOrder'. -/
def ratOrderCard : Claim7 := { stood := { row := ratOrderRow, standIns := [], harness := (true, "be9665efe8b326d5843256fe0f9c8f863bf539fbb73824fe9c349cb01fba4eaf"), looks := false }, kinds := [], alts := [], laidByText := true, laidKinds := [.data, .data, .data], laidTests := true, laidLooks := .later }
def RatOrderCardSaid : Prop := Claim7.holds Tryd.pinned (.plain (OpenSpec.ofChange ratOrderSpec)) ratOrderCard

/-- THE TIED CARD OF 'papermilllaw03.RatTotals'. -/
def ratTotalsCard : Claim7 := { stood := { row := ratTotalsRow, standIns := [], harness := (true, "be9665efe8b326d5843256fe0f9c8f863bf539fbb73824fe9c349cb01fba4eaf"), looks := false }, kinds := [], alts := [], laidByText := true, laidKinds := [.data, .data, .data], laidTests := true, laidLooks := .later }
def RatTotalsCardSaid : Prop := Claim7.holds Tryd.pinned (.plain (OpenSpec.ofChange ratTotalsSpec)) ratTotalsCard

/-- THE TIED CARD OF 'papermilllaw03.RatProducts'. -/
def ratProductsCard : Claim7 := { stood := { row := ratProductsRow, standIns := [], harness := (true, "be9665efe8b326d5843256fe0f9c8f863bf539fbb73824fe9c349cb01fba4eaf"), looks := false }, kinds := [], alts := [], laidByText := true, laidKinds := [.data, .data, .data], laidTests := true, laidLooks := .later }
def RatProductsCardSaid : Prop := Claim7.holds Tryd.pinned (.plain (OpenSpec.ofChange ratProductsSpec)) ratProductsCard

/-- THE TIED CARD OF 'papermilllaw03.RatField'. -/
def ratFieldCard : Claim7 := { stood := { row := ratFieldRow, standIns := [], harness := (true, "be9665efe8b326d5843256fe0f9c8f863bf539fbb73824fe9c349cb01fba4eaf"), looks := false }, kinds := [], alts := [], laidByText := true, laidKinds := [.data, .data, .data], laidTests := true, laidLooks := .later }
def RatFieldCardSaid : Prop := Claim7.holds Tryd.pinned (.plain (OpenSpec.ofChange ratFieldSpec)) ratFieldCard

/-- THE TIED CARD OF 'papermilllaw03.RatForms'. -/
def ratFormsCard : Claim7 := { stood := { row := ratFormsRow, standIns := [], harness := (true, "be9665efe8b326d5843256fe0f9c8f863bf539fbb73824fe9c349cb01fba4eaf"), looks := false }, kinds := [], alts := [], laidByText := true, laidKinds := [.data, .data, .data], laidTests := true, laidLooks := .later }
def RatFormsCardSaid : Prop := Claim7.holds Tryd.pinned (.plain (OpenSpec.ofChange ratFormsSpec)) ratFormsCard

/-- THE SECOND FORM's CARD OF 'papermilllaw02.NatProducts'. -/
def natProductsUptoCard : Claim7 := { stood := { row := natProductsUptoRow, standIns := [], harness := (true, "be9665efe8b326d5843256fe0f9c8f863bf539fbb73824fe9c349cb01fba4eaf"), looks := false }, kinds := [], alts := [], laidByText := true, laidKinds := [.data, .data, .data], laidTests := true, laidLooks := .later }
def NatProductsUptoCardSaid : Prop := Claim7.holds Tryd.pinned (.plain (OpenSpec.upto natProductsSpec)) natProductsUptoCard

/-- THE SECOND FORM's CARD OF 'papermilllaw02.NatQuotients'. -/
def natQuotientsUptoCard : Claim7 := { stood := { row := natQuotientsUptoRow, standIns := [], harness := (true, "be9665efe8b326d5843256fe0f9c8f863bf539fbb73824fe9c349cb01fba4eaf"), looks := false }, kinds := [], alts := [], laidByText := true, laidKinds := [.data, .data, .data], laidTests := true, laidLooks := .later }
def NatQuotientsUptoCardSaid : Prop := Claim7.holds Tryd.pinned (.plain (OpenSpec.upto natQuotientsSpec)) natQuotientsUptoCard

/-- THE SECOND FORM's CARD OF 'papermilllaw02.NatDivisors'. -/
def natDivisorsUptoCard : Claim7 := { stood := { row := natDivisorsUptoRow, standIns := [], harness := (true, "be9665efe8b326d5843256fe0f9c8f863bf539fbb73824fe9c349cb01fba4eaf"), looks := false }, kinds := [], alts := [], laidByText := true, laidKinds := [.data, .data, .data], laidTests := true, laidLooks := .later }
def NatDivisorsUptoCardSaid : Prop := Claim7.holds Tryd.pinned (.plain (OpenSpec.upto natDivisorsSpec)) natDivisorsUptoCard

/-- THE SECOND FORM's CARD OF 'papermilllaw02.NatTexts'. -/
def natTextsUptoCard : Claim7 := { stood := { row := natTextsUptoRow, standIns := [], harness := (true, "be9665efe8b326d5843256fe0f9c8f863bf539fbb73824fe9c349cb01fba4eaf"), looks := false }, kinds := [], alts := [], laidByText := true, laidKinds := [.data, .data, .data], laidTests := true, laidLooks := .later }
def NatTextsUptoCardSaid : Prop := Claim7.holds Tryd.pinned (.plain (OpenSpec.upto natTextsSpec)) natTextsUptoCard

/-- THE SECOND FORM's CARD OF 'papermilllaw02.NatCompares'. -/
def natComparesUptoCard : Claim7 := { stood := { row := natComparesUptoRow, standIns := [], harness := (true, "be9665efe8b326d5843256fe0f9c8f863bf539fbb73824fe9c349cb01fba4eaf"), looks := false }, kinds := [], alts := [], laidByText := true, laidKinds := [.data, .data, .data], laidTests := true, laidLooks := .later }
def NatComparesUptoCardSaid : Prop := Claim7.holds Tryd.pinned (.plain (OpenSpec.upto natComparesSpec)) natComparesUptoCard

/-- THE SECOND FORM's CARD OF 'papermilllaw02.NatForms'. -/
def natFormsUptoCard : Claim7 := { stood := { row := natFormsUptoRow, standIns := [], harness := (true, "be9665efe8b326d5843256fe0f9c8f863bf539fbb73824fe9c349cb01fba4eaf"), looks := false }, kinds := [], alts := [], laidByText := true, laidKinds := [.data, .data, .data], laidTests := true, laidLooks := .later }
def NatFormsUptoCardSaid : Prop := Claim7.holds Tryd.pinned (.plain (OpenSpec.upto natFormsSpec)) natFormsUptoCard

/-- THE SECOND FORM's CARD OF 'papermilllaw02.NatInts'. -/
def natIntsUptoCard : Claim7 := { stood := { row := natIntsUptoRow, standIns := [], harness := (true, "be9665efe8b326d5843256fe0f9c8f863bf539fbb73824fe9c349cb01fba4eaf"), looks := false }, kinds := [], alts := [], laidByText := true, laidKinds := [.data, .data, .data], laidTests := true, laidLooks := .later }
def NatIntsUptoCardSaid : Prop := Claim7.holds Tryd.pinned (.plain (OpenSpec.upto natIntsSpec)) natIntsUptoCard

/-- THE SECOND FORM's CARD OF 'papermilllaw02.NatSums'. -/
def natSumsUptoCard : Claim7 := { stood := { row := natSumsUptoRow, standIns := [], harness := (true, "be9665efe8b326d5843256fe0f9c8f863bf539fbb73824fe9c349cb01fba4eaf"), looks := false }, kinds := [], alts := [], laidByText := true, laidKinds := [.data, .data, .data], laidTests := true, laidLooks := .later }
def NatSumsUptoCardSaid : Prop := Claim7.holds Tryd.pinned (.plain (OpenSpec.upto natSumsSpec)) natSumsUptoCard

/-- THE SECOND FORM's CARD OF 'papermilllaw02.NatDivides'. -/
def natDividesUptoCard : Claim7 := { stood := { row := natDividesUptoRow, standIns := [], harness := (true, "be9665efe8b326d5843256fe0f9c8f863bf539fbb73824fe9c349cb01fba4eaf"), looks := false }, kinds := [], alts := [], laidByText := true, laidKinds := [.data, .data, .data], laidTests := true, laidLooks := .later }
def NatDividesUptoCardSaid : Prop := Claim7.holds Tryd.pinned (.plain (OpenSpec.upto natDividesSpec)) natDividesUptoCard

/-- THE SECOND FORM's CARD OF 'papermilllaw03.RatMakes'. -/
def ratMakesUptoCard : Claim7 := { stood := { row := ratMakesUptoRow, standIns := [], harness := (true, "be9665efe8b326d5843256fe0f9c8f863bf539fbb73824fe9c349cb01fba4eaf"), looks := false }, kinds := [], alts := [], laidByText := true, laidKinds := [.data, .data, .data], laidTests := true, laidLooks := .later }
def RatMakesUptoCardSaid : Prop := Claim7.holds Tryd.pinned (.plain (OpenSpec.upto ratMakesSpec)) ratMakesUptoCard

/-- THE SECOND FORM's CARD OF 'papermilllaw03.RatValids'. -/
def ratValidsUptoCard : Claim7 := { stood := { row := ratValidsUptoRow, standIns := [], harness := (true, "be9665efe8b326d5843256fe0f9c8f863bf539fbb73824fe9c349cb01fba4eaf"), looks := false }, kinds := [], alts := [], laidByText := true, laidKinds := [.data, .data, .data], laidTests := true, laidLooks := .later }
def RatValidsUptoCardSaid : Prop := Claim7.holds Tryd.pinned (.plain (OpenSpec.upto ratValidsSpec)) ratValidsUptoCard

/-- THE SECOND FORM's CARD OF 'papermilllaw03.RatSums'. -/
def ratSumsUptoCard : Claim7 := { stood := { row := ratSumsUptoRow, standIns := [], harness := (true, "be9665efe8b326d5843256fe0f9c8f863bf539fbb73824fe9c349cb01fba4eaf"), looks := false }, kinds := [], alts := [], laidByText := true, laidKinds := [.data, .data, .data], laidTests := true, laidLooks := .later }
def RatSumsUptoCardSaid : Prop := Claim7.holds Tryd.pinned (.plain (OpenSpec.upto ratSumsSpec)) ratSumsUptoCard

/-- THE SECOND FORM's CARD OF 'papermilllaw03.RatOrder'. -/
def ratOrderUptoCard : Claim7 := { stood := { row := ratOrderUptoRow, standIns := [], harness := (true, "be9665efe8b326d5843256fe0f9c8f863bf539fbb73824fe9c349cb01fba4eaf"), looks := false }, kinds := [], alts := [], laidByText := true, laidKinds := [.data, .data, .data], laidTests := true, laidLooks := .later }
def RatOrderUptoCardSaid : Prop := Claim7.holds Tryd.pinned (.plain (OpenSpec.upto ratOrderSpec)) ratOrderUptoCard

/-- THE SECOND FORM's CARD OF 'papermilllaw03.RatTotals'. -/
def ratTotalsUptoCard : Claim7 := { stood := { row := ratTotalsUptoRow, standIns := [], harness := (true, "be9665efe8b326d5843256fe0f9c8f863bf539fbb73824fe9c349cb01fba4eaf"), looks := false }, kinds := [], alts := [], laidByText := true, laidKinds := [.data, .data, .data], laidTests := true, laidLooks := .later }
def RatTotalsUptoCardSaid : Prop := Claim7.holds Tryd.pinned (.plain (OpenSpec.upto ratTotalsSpec)) ratTotalsUptoCard

/-- THE SECOND FORM's CARD OF 'papermilllaw03.RatProducts'. -/
def ratProductsUptoCard : Claim7 := { stood := { row := ratProductsUptoRow, standIns := [], harness := (true, "be9665efe8b326d5843256fe0f9c8f863bf539fbb73824fe9c349cb01fba4eaf"), looks := false }, kinds := [], alts := [], laidByText := true, laidKinds := [.data, .data, .data], laidTests := true, laidLooks := .later }
def RatProductsUptoCardSaid : Prop := Claim7.holds Tryd.pinned (.plain (OpenSpec.upto ratProductsSpec)) ratProductsUptoCard

/-- THE SECOND FORM's CARD OF 'papermilllaw03.RatField'. -/
def ratFieldUptoCard : Claim7 := { stood := { row := ratFieldUptoRow, standIns := [], harness := (true, "be9665efe8b326d5843256fe0f9c8f863bf539fbb73824fe9c349cb01fba4eaf"), looks := false }, kinds := [], alts := [], laidByText := true, laidKinds := [.data, .data, .data], laidTests := true, laidLooks := .later }
def RatFieldUptoCardSaid : Prop := Claim7.holds Tryd.pinned (.plain (OpenSpec.upto ratFieldSpec)) ratFieldUptoCard

/-- THE SECOND FORM's CARD OF 'papermilllaw03.RatForms'. -/
def ratFormsUptoCard : Claim7 := { stood := { row := ratFormsUptoRow, standIns := [], harness := (true, "be9665efe8b326d5843256fe0f9c8f863bf539fbb73824fe9c349cb01fba4eaf"), looks := false }, kinds := [], alts := [], laidByText := true, laidKinds := [.data, .data, .data], laidTests := true, laidLooks := .later }
def RatFormsUptoCardSaid : Prop := Claim7.holds Tryd.pinned (.plain (OpenSpec.upto ratFormsSpec)) ratFormsUptoCard
end Rows
end Go.Proofs.YtalklhbdpmggjaaDoor
