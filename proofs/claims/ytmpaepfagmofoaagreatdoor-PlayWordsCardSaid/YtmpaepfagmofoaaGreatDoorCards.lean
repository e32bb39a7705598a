/-
  DERIVED. GIVEN WITH THE SEED: THE CARDS: each row of YtmpaepfagmofoaaGreatDoorRows.lean that lists a variable, with what it lists TIED to the program's text (the seventh form; the later family's looks); each row that meets fmt, with fmt's text TOLD by the authors' own Lean function (tested against real Go, not proved from fmt's source: count such statements apart). THE CARD IS WHAT COUNTS. Prove the row's statement (the work); the ties are given (YtmpaepfagmofoaaGreatDoorTie.lean); close each card by the builder's one call (the guide's Derived/Test/ToyasCard.lean, 'card_holds'). Laid BY PROGRAM, IN A SANDBOX (cutbox-door.mjs). By AI agents, Wed Nov 11 2026. No macro, syntax, notation, axiom, sorry.
-/
import Derived.Test.YtmpaepfagmofoaaGreatDoorRows
import GoSem.ClaimSeven
namespace Go.Proofs.YtmpaepfagmofoaaGreatDoor
namespace Rows

/-- THE TIED CARD OF 'hortatorlaw23.KernelNone'. -/
def kernelNoneCard : Claim7 := { stood := { row := kernelNoneRow, standIns := [], harness := (true, "437d55463fe3612f29dcf13301e5a0543a05bc5b66afe833664a6bbbcffbcb63"), looks := true }, kinds := [], alts := [], laidByText := true, laidKinds := [.data, .data, .data, .data, .sentinel, .sentinel, .pinned], laidTests := true, laidLooks := .later }
def KernelNoneCardSaid : Prop := Claim7.holds Tryz.pinned (.plain (OpenSpec.ofChange kernelNoneSpec)) kernelNoneCard

/-- THE TIED CARD OF 'hortatorlaw23.JudgeLook'. -/
def judgeLookCard : Claim7 := { stood := { row := judgeLookRow, standIns := [], harness := (true, "437d55463fe3612f29dcf13301e5a0543a05bc5b66afe833664a6bbbcffbcb63"), looks := true }, kinds := [], alts := [], laidByText := true, laidKinds := [.data, .data, .data, .data, .sentinel, .sentinel, .pinned], laidTests := true, laidLooks := .later }
def JudgeLookCardSaid : Prop := Claim7.holds Tryz.pinned (.plain (OpenSpec.ofChange judgeLookSpec)) judgeLookCard

/-- THE TIED CARD OF 'hortatorlaw23.PlayWords'. -/
def playWordsCard : Claim7 := { stood := { row := playWordsRow, standIns := [], harness := (true, "437d55463fe3612f29dcf13301e5a0543a05bc5b66afe833664a6bbbcffbcb63"), looks := true }, kinds := [], alts := [], laidByText := true, laidKinds := [.data, .data, .data, .data, .sentinel, .sentinel, .pinned], laidTests := true, laidLooks := .later }
def PlayWordsCardSaid : Prop := Claim7.holds Tryz.pinned (.plain (OpenSpec.ofChange playWordsSpec)) playWordsCard

/-- THE TIED CARD OF 'hortatortop.TopEarly'. -/
def topEarlyCard : Claim7 := { stood := { row := topEarlyRow, standIns := [], harness := (true, "437d55463fe3612f29dcf13301e5a0543a05bc5b66afe833664a6bbbcffbcb63"), looks := true }, kinds := [], alts := [], laidByText := true, laidKinds := [.data, .data, .data, .data, .sentinel, .sentinel, .pinned], laidTests := true, laidLooks := .later }
def TopEarlyCardSaid : Prop := Claim7.holds Tryz.pinned (.plain (OpenSpec.ofChange topEarlySpec)) topEarlyCard

/-- THE TIED CARD OF 'hortatortop.TopHand'. -/
def topHandCard : Claim7 := { stood := { row := topHandRow, standIns := [], harness := (true, "437d55463fe3612f29dcf13301e5a0543a05bc5b66afe833664a6bbbcffbcb63"), looks := true }, kinds := [], alts := [], laidByText := true, laidKinds := [.data, .data, .data, .data, .sentinel, .sentinel, .pinned], laidTests := true, laidLooks := .later }
def TopHandCardSaid : Prop := Claim7.holds Tryz.pinned (.plain (OpenSpec.ofChange topHandSpec)) topHandCard

/-- THE SECOND FORM's CARD OF 'hortatorlaw23.KernelNone'. -/
def kernelNoneUptoCard : Claim7 := { stood := { row := kernelNoneUptoRow, standIns := [], harness := (true, "437d55463fe3612f29dcf13301e5a0543a05bc5b66afe833664a6bbbcffbcb63"), looks := true }, kinds := [], alts := [], laidByText := true, laidKinds := [.data, .data, .data, .data, .sentinel, .sentinel, .pinned], laidTests := true, laidLooks := .later }
def KernelNoneUptoCardSaid : Prop := Claim7.holds Tryz.pinned (.plain (OpenSpec.upto kernelNoneSpec)) kernelNoneUptoCard

/-- THE SECOND FORM's CARD OF 'hortatorlaw23.JudgeLook'. -/
def judgeLookUptoCard : Claim7 := { stood := { row := judgeLookUptoRow, standIns := [], harness := (true, "437d55463fe3612f29dcf13301e5a0543a05bc5b66afe833664a6bbbcffbcb63"), looks := true }, kinds := [], alts := [], laidByText := true, laidKinds := [.data, .data, .data, .data, .sentinel, .sentinel, .pinned], laidTests := true, laidLooks := .later }
def JudgeLookUptoCardSaid : Prop := Claim7.holds Tryz.pinned (.plain (OpenSpec.upto judgeLookSpec)) judgeLookUptoCard

/-- THE SECOND FORM's CARD OF 'hortatorlaw23.PlayWords'. -/
def playWordsUptoCard : Claim7 := { stood := { row := playWordsUptoRow, standIns := [], harness := (true, "437d55463fe3612f29dcf13301e5a0543a05bc5b66afe833664a6bbbcffbcb63"), looks := true }, kinds := [], alts := [], laidByText := true, laidKinds := [.data, .data, .data, .data, .sentinel, .sentinel, .pinned], laidTests := true, laidLooks := .later }
def PlayWordsUptoCardSaid : Prop := Claim7.holds Tryz.pinned (.plain (OpenSpec.upto playWordsSpec)) playWordsUptoCard

/-- THE SECOND FORM's CARD OF 'hortatortop.TopEarly'. -/
def topEarlyUptoCard : Claim7 := { stood := { row := topEarlyUptoRow, standIns := [], harness := (true, "437d55463fe3612f29dcf13301e5a0543a05bc5b66afe833664a6bbbcffbcb63"), looks := true }, kinds := [], alts := [], laidByText := true, laidKinds := [.data, .data, .data, .data, .sentinel, .sentinel, .pinned], laidTests := true, laidLooks := .later }
def TopEarlyUptoCardSaid : Prop := Claim7.holds Tryz.pinned (.plain (OpenSpec.upto topEarlySpec)) topEarlyUptoCard

/-- THE SECOND FORM's CARD OF 'hortatortop.TopHand'. -/
def topHandUptoCard : Claim7 := { stood := { row := topHandUptoRow, standIns := [], harness := (true, "437d55463fe3612f29dcf13301e5a0543a05bc5b66afe833664a6bbbcffbcb63"), looks := true }, kinds := [], alts := [], laidByText := true, laidKinds := [.data, .data, .data, .data, .sentinel, .sentinel, .pinned], laidTests := true, laidLooks := .later }
def TopHandUptoCardSaid : Prop := Claim7.holds Tryz.pinned (.plain (OpenSpec.upto topHandSpec)) topHandUptoCard
end Rows
end Go.Proofs.YtmpaepfagmofoaaGreatDoor
