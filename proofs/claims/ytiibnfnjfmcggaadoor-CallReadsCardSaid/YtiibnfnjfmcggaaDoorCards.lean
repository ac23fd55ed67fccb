/-
  DERIVED. GIVEN WITH THE SEED: THE CARDS: each row of YtiibnfnjfmcggaaDoorRows.lean that lists a variable, with what it lists TIED to the program's text (the seventh form; the later family's looks); each row that meets fmt, with fmt's text TOLD by the authors' own Lean function (tested against real Go, not proved from fmt's source: count such statements apart). THE CARD IS WHAT COUNTS. Prove the row's statement (the work); the ties are given (YtiibnfnjfmcggaaDoorTie.lean); close each card by the builder's one call (the guide's Derived/Test/ToyasCard.lean, 'card_holds'). Laid BY PROGRAM, IN A SANDBOX (cutbox-door.mjs). By AI agents, Wed Nov 11 2026. No macro, syntax, notation, axiom, sorry.
-/
import Derived.Test.YtiibnfnjfmcggaaDoorRows
import GoSem.ClaimSeven
namespace Go.Proofs.YtiibnfnjfmcggaaDoor
namespace Rows

/-- THE TIED CARD OF 'bastillelaw30.CallSame'. -/
def callSameCard : Claim7 := { stood := { row := callSameRow, standIns := [], harness := (true, "8c98963a3a87a1a48f91697c5032e0fca2948b8e47c99f3e22f6d07262f1e91e"), looks := false }, kinds := [], alts := [], laidByText := true, laidKinds := [.data], laidTests := true, laidLooks := .later }
def CallSameCardSaid : Prop := Claim7.holds Tryd.pinned (.plain (OpenSpec.ofChange callSameSpec)) callSameCard

/-- THE TIED CARD OF 'bastillelaw30.CallBack'. -/
def callBackCard : Claim7 := { stood := { row := callBackRow, standIns := [], harness := (true, "8c98963a3a87a1a48f91697c5032e0fca2948b8e47c99f3e22f6d07262f1e91e"), looks := false }, kinds := [], alts := [], laidByText := true, laidKinds := [.data], laidTests := true, laidLooks := .later }
def CallBackCardSaid : Prop := Claim7.holds Tryd.pinned (.plain (OpenSpec.ofChange callBackSpec)) callBackCard

/-- THE TIED CARD OF 'bastillelaw30.CallReads'. -/
def callReadsCard : Claim7 := { stood := { row := callReadsRow, standIns := [], harness := (true, "8c98963a3a87a1a48f91697c5032e0fca2948b8e47c99f3e22f6d07262f1e91e"), looks := false }, kinds := [], alts := [], laidByText := true, laidKinds := [.data], laidTests := true, laidLooks := .later }
def CallReadsCardSaid : Prop := Claim7.holds Tryd.pinned (.plain (OpenSpec.ofChange callReadsSpec)) callReadsCard

/-- THE SECOND FORM's CARD OF 'bastillelaw30.CallSame'. -/
def callSameUptoCard : Claim7 := { stood := { row := callSameUptoRow, standIns := [], harness := (true, "8c98963a3a87a1a48f91697c5032e0fca2948b8e47c99f3e22f6d07262f1e91e"), looks := false }, kinds := [], alts := [], laidByText := true, laidKinds := [.data], laidTests := true, laidLooks := .later }
def CallSameUptoCardSaid : Prop := Claim7.holds Tryd.pinned (.plain (OpenSpec.upto callSameSpec)) callSameUptoCard

/-- THE SECOND FORM's CARD OF 'bastillelaw30.CallBack'. -/
def callBackUptoCard : Claim7 := { stood := { row := callBackUptoRow, standIns := [], harness := (true, "8c98963a3a87a1a48f91697c5032e0fca2948b8e47c99f3e22f6d07262f1e91e"), looks := false }, kinds := [], alts := [], laidByText := true, laidKinds := [.data], laidTests := true, laidLooks := .later }
def CallBackUptoCardSaid : Prop := Claim7.holds Tryd.pinned (.plain (OpenSpec.upto callBackSpec)) callBackUptoCard

/-- THE SECOND FORM's CARD OF 'bastillelaw30.CallReads'. -/
def callReadsUptoCard : Claim7 := { stood := { row := callReadsUptoRow, standIns := [], harness := (true, "8c98963a3a87a1a48f91697c5032e0fca2948b8e47c99f3e22f6d07262f1e91e"), looks := false }, kinds := [], alts := [], laidByText := true, laidKinds := [.data], laidTests := true, laidLooks := .later }
def CallReadsUptoCardSaid : Prop := Claim7.holds Tryd.pinned (.plain (OpenSpec.upto callReadsSpec)) callReadsUptoCard
end Rows
end Go.Proofs.YtiibnfnjfmcggaaDoor
