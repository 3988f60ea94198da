/-
  DERIVED. GIVEN WITH THE SEED: THE CARDS: each row of YtfoengihiaegoaaDoorRows.lean that lists a variable, with what it lists TIED to the program's text (the seventh form; the later family's looks); each row that meets fmt, with fmt's text TOLD by the authors' own Lean function (tested against real Go, not proved from fmt's source: count such statements apart). THE CARD IS WHAT COUNTS. Prove the row's statement (the work); the ties are given (YtfoengihiaegoaaDoorTie.lean); close each card by the builder's one call (the guide's Derived/Test/ToyasCard.lean, 'card_holds'). Laid BY PROGRAM, IN A SANDBOX (cutbox-door.mjs). By AI agents, Wed Nov 11 2026. No macro, syntax, notation, axiom, sorry.
-/
import Derived.Test.YtfoengihiaegoaaDoorRows
import GoSem.ClaimSeven
namespace Go.Proofs.YtfoengihiaegoaaDoor
namespace Rows

/-- THE TIED CARD OF 'cloakroomlaw15.WordsWrites'. -/
def wordsWritesCard : Claim7 := { stood := { row := wordsWritesRow, standIns := [], harness := (true, "a026f0d5e07ccd4c5162eaefa38e77b9e29d41b0a62ec842150d95f68bceba71"), looks := true }, kinds := [], alts := [], laidByText := true, laidKinds := [.data, .data, .data], laidTests := true, laidLooks := .later }
def WordsWritesCardSaid : Prop := Claim7.holds Tryd.pinned (.plain (OpenSpec.ofChange wordsWritesSpec)) wordsWritesCard

/-- THE TIED CARD OF 'cloakroomlaw14.TextWrites'. -/
def textWritesCard : Claim7 := { stood := { row := textWritesRow, standIns := [], harness := (true, "a026f0d5e07ccd4c5162eaefa38e77b9e29d41b0a62ec842150d95f68bceba71"), looks := true }, kinds := [], alts := [], laidByText := true, laidKinds := [.data, .data, .data], laidTests := true, laidLooks := .later }
def TextWritesCardSaid : Prop := Claim7.holds Tryd.pinned (.plain (OpenSpec.ofChange textWritesSpec)) textWritesCard

/-- THE TIED CARD OF 'cloakroomlaw15.WordsReads'. -/
def wordsReadsCard : Claim7 := { stood := { row := wordsReadsRow, standIns := [], harness := (true, "a026f0d5e07ccd4c5162eaefa38e77b9e29d41b0a62ec842150d95f68bceba71"), looks := true }, kinds := [], alts := [], laidByText := true, laidKinds := [.data, .data, .data, .data, .sentinel, .sentinel, .pinned], laidTests := true, laidLooks := .later }
def WordsReadsCardSaid : Prop := Claim7.holds Tryd.pinned (.plain (OpenSpec.ofChange wordsReadsSpec)) wordsReadsCard

/-- THE TIED CARD OF 'cloakroomlaw15.WordsBack'. -/
def wordsBackCard : Claim7 := { stood := { row := wordsBackRow, standIns := [], harness := (true, "a026f0d5e07ccd4c5162eaefa38e77b9e29d41b0a62ec842150d95f68bceba71"), looks := true }, kinds := [], alts := [], laidByText := true, laidKinds := [.data, .data, .data, .data, .sentinel, .sentinel, .pinned], laidTests := true, laidLooks := .later }
def WordsBackCardSaid : Prop := Claim7.holds Tryd.pinned (.plain (OpenSpec.ofChange wordsBackSpec)) wordsBackCard

/-- THE TIED CARD OF 'cloakroomlaw15.WordsOnly'. -/
def wordsOnlyCard : Claim7 := { stood := { row := wordsOnlyRow, standIns := [], harness := (true, "a026f0d5e07ccd4c5162eaefa38e77b9e29d41b0a62ec842150d95f68bceba71"), looks := true }, kinds := [], alts := [], laidByText := true, laidKinds := [.data, .data, .data, .data, .sentinel, .sentinel, .pinned], laidTests := true, laidLooks := .later }
def WordsOnlyCardSaid : Prop := Claim7.holds Tryd.pinned (.plain (OpenSpec.ofChange wordsOnlySpec)) wordsOnlyCard

/-- THE SECOND FORM's CARD OF 'cloakroomlaw15.WordsWrites'. -/
def wordsWritesUptoCard : Claim7 := { stood := { row := wordsWritesUptoRow, standIns := [], harness := (true, "a026f0d5e07ccd4c5162eaefa38e77b9e29d41b0a62ec842150d95f68bceba71"), looks := true }, kinds := [], alts := [], laidByText := true, laidKinds := [.data, .data, .data], laidTests := true, laidLooks := .later }
def WordsWritesUptoCardSaid : Prop := Claim7.holds Tryd.pinned (.plain (OpenSpec.upto wordsWritesSpec)) wordsWritesUptoCard

/-- THE SECOND FORM's CARD OF 'cloakroomlaw14.TextWrites'. -/
def textWritesUptoCard : Claim7 := { stood := { row := textWritesUptoRow, standIns := [], harness := (true, "a026f0d5e07ccd4c5162eaefa38e77b9e29d41b0a62ec842150d95f68bceba71"), looks := true }, kinds := [], alts := [], laidByText := true, laidKinds := [.data, .data, .data], laidTests := true, laidLooks := .later }
def TextWritesUptoCardSaid : Prop := Claim7.holds Tryd.pinned (.plain (OpenSpec.upto textWritesSpec)) textWritesUptoCard

/-- THE SECOND FORM's CARD OF 'cloakroomlaw15.WordsReads'. -/
def wordsReadsUptoCard : Claim7 := { stood := { row := wordsReadsUptoRow, standIns := [], harness := (true, "a026f0d5e07ccd4c5162eaefa38e77b9e29d41b0a62ec842150d95f68bceba71"), looks := true }, kinds := [], alts := [], laidByText := true, laidKinds := [.data, .data, .data, .data, .sentinel, .sentinel, .pinned], laidTests := true, laidLooks := .later }
def WordsReadsUptoCardSaid : Prop := Claim7.holds Tryd.pinned (.plain (OpenSpec.upto wordsReadsSpec)) wordsReadsUptoCard

/-- THE SECOND FORM's CARD OF 'cloakroomlaw15.WordsBack'. -/
def wordsBackUptoCard : Claim7 := { stood := { row := wordsBackUptoRow, standIns := [], harness := (true, "a026f0d5e07ccd4c5162eaefa38e77b9e29d41b0a62ec842150d95f68bceba71"), looks := true }, kinds := [], alts := [], laidByText := true, laidKinds := [.data, .data, .data, .data, .sentinel, .sentinel, .pinned], laidTests := true, laidLooks := .later }
def WordsBackUptoCardSaid : Prop := Claim7.holds Tryd.pinned (.plain (OpenSpec.upto wordsBackSpec)) wordsBackUptoCard

/-- THE SECOND FORM's CARD OF 'cloakroomlaw15.WordsOnly'. -/
def wordsOnlyUptoCard : Claim7 := { stood := { row := wordsOnlyUptoRow, standIns := [], harness := (true, "a026f0d5e07ccd4c5162eaefa38e77b9e29d41b0a62ec842150d95f68bceba71"), looks := true }, kinds := [], alts := [], laidByText := true, laidKinds := [.data, .data, .data, .data, .sentinel, .sentinel, .pinned], laidTests := true, laidLooks := .later }
def WordsOnlyUptoCardSaid : Prop := Claim7.holds Tryd.pinned (.plain (OpenSpec.upto wordsOnlySpec)) wordsOnlyUptoCard
end Rows
end Go.Proofs.YtfoengihiaegoaaDoor
