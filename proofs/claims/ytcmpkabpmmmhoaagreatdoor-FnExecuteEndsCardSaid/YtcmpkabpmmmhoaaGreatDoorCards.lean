/-
  DERIVED. GIVEN WITH THE SEED: THE CARDS: each row of YtcmpkabpmmmhoaaGreatDoorRows.lean that lists a variable, with what it lists TIED to the program's text (the seventh form; the later family's looks); each row that meets fmt, with fmt's text TOLD by the authors' own Lean function (tested against real Go, not proved from fmt's source: count such statements apart). THE CARD IS WHAT COUNTS. Prove the row's statement (the work); the ties are given (YtcmpkabpmmmhoaaGreatDoorTie.lean); close each card by the builder's one call (the guide's Derived/Test/ToyasCard.lean, 'card_holds'). Laid BY PROGRAM, IN A SANDBOX (cutbox-door.mjs). By AI agents, Wed Nov 11 2026. No macro, syntax, notation, axiom, sorry.
-/
import Derived.Test.YtcmpkabpmmmhoaaGreatDoorRows
import GoSem.ClaimSeven
namespace Go.Proofs.YtcmpkabpmmmhoaaGreatDoor
namespace Rows

/-- THE TIED CARD OF 'laws.FnExecuteProof'. -/
def fnExecuteProofCard : Claim7 := { stood := { row := fnExecuteProofRow, standIns := [], harness := (true, "9881d848206e13a54acff1535e6bc12d719ddaf2ee1a71b575362c679f1735c2"), looks := false }, kinds := [], alts := [], laidByText := true, laidKinds := [.data, .data, .data, .data, .pinned], laidTests := true, laidLooks := .later }
def FnExecuteProofCardSaid : Prop := Claim7.holds Tryz.pinned (.plain (OpenSpec.ofChange fnExecuteProofSpec)) fnExecuteProofCard

/-- THE TIED CARD OF 'laws.FnExecuteEnds'. -/
def fnExecuteEndsCard : Claim7 := { stood := { row := fnExecuteEndsRow, standIns := [], harness := (true, "9881d848206e13a54acff1535e6bc12d719ddaf2ee1a71b575362c679f1735c2"), looks := false }, kinds := [], alts := [], laidByText := true, laidKinds := [.data, .data, .data, .data, .pinned], laidTests := true, laidLooks := .later }
def FnExecuteEndsCardSaid : Prop := Claim7.holds Tryz.pinned (.plain (OpenSpec.ofChange fnExecuteEndsSpec)) fnExecuteEndsCard

/-- THE TIED CARD OF 'laws.FnExecuteTidy'. -/
def fnExecuteTidyCard : Claim7 := { stood := { row := fnExecuteTidyRow, standIns := [], harness := (true, "9881d848206e13a54acff1535e6bc12d719ddaf2ee1a71b575362c679f1735c2"), looks := false }, kinds := [], alts := [], laidByText := true, laidKinds := [.data, .data, .data, .data, .pinned], laidTests := true, laidLooks := .later }
def FnExecuteTidyCardSaid : Prop := Claim7.holds Tryz.pinned (.plain (OpenSpec.ofChange fnExecuteTidySpec)) fnExecuteTidyCard

/-- THE SECOND FORM's CARD OF 'laws.FnExecuteProof'. -/
def fnExecuteProofUptoCard : Claim7 := { stood := { row := fnExecuteProofUptoRow, standIns := [], harness := (true, "9881d848206e13a54acff1535e6bc12d719ddaf2ee1a71b575362c679f1735c2"), looks := false }, kinds := [], alts := [], laidByText := true, laidKinds := [.data, .data, .data, .data, .pinned], laidTests := true, laidLooks := .later }
def FnExecuteProofUptoCardSaid : Prop := Claim7.holds Tryz.pinned (.plain (OpenSpec.upto fnExecuteProofSpec)) fnExecuteProofUptoCard

/-- THE SECOND FORM's CARD OF 'laws.FnExecuteEnds'. -/
def fnExecuteEndsUptoCard : Claim7 := { stood := { row := fnExecuteEndsUptoRow, standIns := [], harness := (true, "9881d848206e13a54acff1535e6bc12d719ddaf2ee1a71b575362c679f1735c2"), looks := false }, kinds := [], alts := [], laidByText := true, laidKinds := [.data, .data, .data, .data, .pinned], laidTests := true, laidLooks := .later }
def FnExecuteEndsUptoCardSaid : Prop := Claim7.holds Tryz.pinned (.plain (OpenSpec.upto fnExecuteEndsSpec)) fnExecuteEndsUptoCard

/-- THE SECOND FORM's CARD OF 'laws.FnExecuteTidy'. -/
def fnExecuteTidyUptoCard : Claim7 := { stood := { row := fnExecuteTidyUptoRow, standIns := [], harness := (true, "9881d848206e13a54acff1535e6bc12d719ddaf2ee1a71b575362c679f1735c2"), looks := false }, kinds := [], alts := [], laidByText := true, laidKinds := [.data, .data, .data, .data, .pinned], laidTests := true, laidLooks := .later }
def FnExecuteTidyUptoCardSaid : Prop := Claim7.holds Tryz.pinned (.plain (OpenSpec.upto fnExecuteTidySpec)) fnExecuteTidyUptoCard
end Rows
end Go.Proofs.YtcmpkabpmmmhoaaGreatDoor
