/-
  DERIVED. GIVEN WITH THE SEED: THE CARDS: each row of YtciaehggpcaapaaDoorRows.lean that lists a variable, with what it lists TIED to the program's text (the seventh form; the later family's looks); each row that meets fmt, with fmt's text TOLD by the authors' own Lean function (tested against real Go, not proved from fmt's source: count such statements apart). THE CARD IS WHAT COUNTS. Prove the row's statement (the work); the ties are given (YtciaehggpcaapaaDoorTie.lean); close each card by the builder's one call (the guide's Derived/Test/ToyasCard.lean, 'card_holds'). Laid BY PROGRAM, IN A SANDBOX (cutbox-door.mjs). By AI agents, Wed Nov 11 2026. No macro, syntax, notation, axiom, sorry.
-/
import Derived.Test.YtciaehggpcaapaaDoorRows
import GoSem.ClaimSeven
namespace Go.Proofs.YtciaehggpcaapaaDoor
namespace Rows

/-- THE TIED CARD OF 'laws.FnExactProofClose'. -/
def fnExactProofCloseCard : Claim7 := { stood := { row := fnExactProofCloseRow, standIns := [], harness := (true, "541f0702befd81f02f1fdbcf5bae03d95e9be1111eb2add8141d97ea68db3e3b"), looks := false }, kinds := [], alts := [], laidByText := true, laidKinds := [.data, .data, .data], laidTests := true, laidLooks := .later }
def FnExactProofCloseCardSaid : Prop := Claim7.holds Tryd.pinned (.plain (OpenSpec.ofChange fnExactProofCloseSpec)) fnExactProofCloseCard

/-- THE TIED CARD OF 'laws.FnExactProofCloseIs'. -/
def fnExactProofCloseIsCard : Claim7 := { stood := { row := fnExactProofCloseIsRow, standIns := [], harness := (true, "541f0702befd81f02f1fdbcf5bae03d95e9be1111eb2add8141d97ea68db3e3b"), looks := false }, kinds := [], alts := [], laidByText := true, laidKinds := [.data, .data, .data], laidTests := true, laidLooks := .later }
def FnExactProofCloseIsCardSaid : Prop := Claim7.holds Tryd.pinned (.plain (OpenSpec.ofChange fnExactProofCloseIsSpec)) fnExactProofCloseIsCard

/-- THE TIED CARD OF 'laws.FnProofClose'. -/
def fnProofCloseCard : Claim7 := { stood := { row := fnProofCloseRow, standIns := [], harness := (true, "541f0702befd81f02f1fdbcf5bae03d95e9be1111eb2add8141d97ea68db3e3b"), looks := false }, kinds := [], alts := [], laidByText := true, laidKinds := [.data, .data, .data], laidTests := true, laidLooks := .later }
def FnProofCloseCardSaid : Prop := Claim7.holds Tryd.pinned (.plain (OpenSpec.ofChange fnProofCloseSpec)) fnProofCloseCard

/-- THE TIED CARD OF 'laws.FnCloseIs'. -/
def fnCloseIsCard : Claim7 := { stood := { row := fnCloseIsRow, standIns := [], harness := (true, "541f0702befd81f02f1fdbcf5bae03d95e9be1111eb2add8141d97ea68db3e3b"), looks := false }, kinds := [], alts := [], laidByText := true, laidKinds := [.data, .data, .data], laidTests := true, laidLooks := .later }
def FnCloseIsCardSaid : Prop := Claim7.holds Tryd.pinned (.plain (OpenSpec.ofChange fnCloseIsSpec)) fnCloseIsCard

/-- THE SECOND FORM's CARD OF 'laws.FnExactProofClose'. -/
def fnExactProofCloseUptoCard : Claim7 := { stood := { row := fnExactProofCloseUptoRow, standIns := [], harness := (true, "541f0702befd81f02f1fdbcf5bae03d95e9be1111eb2add8141d97ea68db3e3b"), looks := false }, kinds := [], alts := [], laidByText := true, laidKinds := [.data, .data, .data], laidTests := true, laidLooks := .later }
def FnExactProofCloseUptoCardSaid : Prop := Claim7.holds Tryd.pinned (.plain (OpenSpec.upto fnExactProofCloseSpec)) fnExactProofCloseUptoCard

/-- THE SECOND FORM's CARD OF 'laws.FnExactProofCloseIs'. -/
def fnExactProofCloseIsUptoCard : Claim7 := { stood := { row := fnExactProofCloseIsUptoRow, standIns := [], harness := (true, "541f0702befd81f02f1fdbcf5bae03d95e9be1111eb2add8141d97ea68db3e3b"), looks := false }, kinds := [], alts := [], laidByText := true, laidKinds := [.data, .data, .data], laidTests := true, laidLooks := .later }
def FnExactProofCloseIsUptoCardSaid : Prop := Claim7.holds Tryd.pinned (.plain (OpenSpec.upto fnExactProofCloseIsSpec)) fnExactProofCloseIsUptoCard

/-- THE SECOND FORM's CARD OF 'laws.FnProofClose'. -/
def fnProofCloseUptoCard : Claim7 := { stood := { row := fnProofCloseUptoRow, standIns := [], harness := (true, "541f0702befd81f02f1fdbcf5bae03d95e9be1111eb2add8141d97ea68db3e3b"), looks := false }, kinds := [], alts := [], laidByText := true, laidKinds := [.data, .data, .data], laidTests := true, laidLooks := .later }
def FnProofCloseUptoCardSaid : Prop := Claim7.holds Tryd.pinned (.plain (OpenSpec.upto fnProofCloseSpec)) fnProofCloseUptoCard

/-- THE SECOND FORM's CARD OF 'laws.FnCloseIs'. -/
def fnCloseIsUptoCard : Claim7 := { stood := { row := fnCloseIsUptoRow, standIns := [], harness := (true, "541f0702befd81f02f1fdbcf5bae03d95e9be1111eb2add8141d97ea68db3e3b"), looks := false }, kinds := [], alts := [], laidByText := true, laidKinds := [.data, .data, .data], laidTests := true, laidLooks := .later }
def FnCloseIsUptoCardSaid : Prop := Claim7.holds Tryd.pinned (.plain (OpenSpec.upto fnCloseIsSpec)) fnCloseIsUptoCard
end Rows
end Go.Proofs.YtciaehggpcaapaaDoor
