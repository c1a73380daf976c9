/-
  DERIVED. GIVEN WITH THE SEED: THE CARDS: each row of YtcdbnphhoihldaaDoorRows.lean that lists a variable, with what it lists TIED to the program's text (the seventh form; the later family's looks); each row that meets fmt, with fmt's text TOLD by the authors' own Lean function (tested against real Go, not proved from fmt's source: count such statements apart). THE CARD IS WHAT COUNTS. Prove the row's statement (the work); the ties are given (YtcdbnphhoihldaaDoorTie.lean); close each card by the builder's one call (the guide's Derived/Test/ToyasCard.lean, 'card_holds'). Laid BY PROGRAM, IN A SANDBOX (cutbox-door.mjs). By AI agents, Wed Nov 11 2026. No macro, syntax, notation, axiom, sorry.
-/
import Derived.Test.YtcdbnphhoihldaaDoorRows
import GoSem.ClaimSeven
namespace Go.Proofs.YtcdbnphhoihldaaDoor
namespace Rows

/-- THE TIED CARD OF 'ambrylaw27.LineWrites'. -/
def lineWritesCard : Claim7 := { stood := { row := lineWritesRow, standIns := [], harness := (true, "a4e5c49e8912980846e814a33750199e69de7a7ca68976b0d4bd7d48d03ec542"), looks := false }, kinds := [], alts := [], laidByText := true, laidKinds := [.data, .data, .data, .listed, .data], laidTests := true, laidLooks := .later }
def LineWritesCardSaid : Prop := Claim7.holds Tryd.pinned (.plain (OpenSpec.ofChange lineWritesSpec)) lineWritesCard

/-- THE TIED CARD OF 'ambrylaw27.LineKeeps'. -/
def lineKeepsCard : Claim7 := { stood := { row := lineKeepsRow, standIns := [], harness := (true, "a4e5c49e8912980846e814a33750199e69de7a7ca68976b0d4bd7d48d03ec542"), looks := false }, kinds := [], alts := [], laidByText := true, laidKinds := [.data, .data, .data, .listed, .data], laidTests := true, laidLooks := .later }
def LineKeepsCardSaid : Prop := Claim7.holds Tryd.pinned (.plain (OpenSpec.ofChange lineKeepsSpec)) lineKeepsCard

/-- THE TIED CARD OF 'ambrylaw27.LineQuotes'. -/
def lineQuotesCard : Claim7 := { stood := { row := lineQuotesRow, standIns := [], harness := (true, "a4e5c49e8912980846e814a33750199e69de7a7ca68976b0d4bd7d48d03ec542"), looks := false }, kinds := [], alts := [], laidByText := true, laidKinds := [.data, .data, .data, .listed, .data], laidTests := true, laidLooks := .later }
def LineQuotesCardSaid : Prop := Claim7.holds Tryd.pinned (.plain (OpenSpec.ofChange lineQuotesSpec)) lineQuotesCard

/-- THE SECOND FORM's CARD OF 'ambrylaw27.LineWrites'. -/
def lineWritesUptoCard : Claim7 := { stood := { row := lineWritesUptoRow, standIns := [], harness := (true, "a4e5c49e8912980846e814a33750199e69de7a7ca68976b0d4bd7d48d03ec542"), looks := false }, kinds := [], alts := [], laidByText := true, laidKinds := [.data, .data, .data, .listed, .data], laidTests := true, laidLooks := .later }
def LineWritesUptoCardSaid : Prop := Claim7.holds Tryd.pinned (.plain (OpenSpec.upto lineWritesSpec)) lineWritesUptoCard

/-- THE SECOND FORM's CARD OF 'ambrylaw27.LineKeeps'. -/
def lineKeepsUptoCard : Claim7 := { stood := { row := lineKeepsUptoRow, standIns := [], harness := (true, "a4e5c49e8912980846e814a33750199e69de7a7ca68976b0d4bd7d48d03ec542"), looks := false }, kinds := [], alts := [], laidByText := true, laidKinds := [.data, .data, .data, .listed, .data], laidTests := true, laidLooks := .later }
def LineKeepsUptoCardSaid : Prop := Claim7.holds Tryd.pinned (.plain (OpenSpec.upto lineKeepsSpec)) lineKeepsUptoCard

/-- THE SECOND FORM's CARD OF 'ambrylaw27.LineQuotes'. -/
def lineQuotesUptoCard : Claim7 := { stood := { row := lineQuotesUptoRow, standIns := [], harness := (true, "a4e5c49e8912980846e814a33750199e69de7a7ca68976b0d4bd7d48d03ec542"), looks := false }, kinds := [], alts := [], laidByText := true, laidKinds := [.data, .data, .data, .listed, .data], laidTests := true, laidLooks := .later }
def LineQuotesUptoCardSaid : Prop := Claim7.holds Tryd.pinned (.plain (OpenSpec.upto lineQuotesSpec)) lineQuotesUptoCard
end Rows
end Go.Proofs.YtcdbnphhoihldaaDoor
