/-
  DERIVED. GIVEN WITH THE SEED: THE CARDS: each row of YtinbeckdjhoeoaaGreatDoorRows.lean that lists a variable, with what it lists TIED to the program's text (the seventh form; the later family's looks); each row that meets fmt, with fmt's text TOLD by the authors' own Lean function (tested against real Go, not proved from fmt's source: count such statements apart). THE CARD IS WHAT COUNTS. Prove the row's statement (the work); the ties are given (YtinbeckdjhoeoaaGreatDoorTie.lean); close each card by the builder's one call (the guide's Derived/Test/ToyasCard.lean, 'card_holds'). Laid BY PROGRAM, IN A SANDBOX (cutbox-door.mjs). By AI agents, Wed Nov 11 2026. No macro, syntax, notation, axiom, sorry.
-/
import Derived.Test.YtinbeckdjhoeoaaGreatDoorRows
import GoSem.ClaimSeven
namespace Go.Proofs.YtinbeckdjhoeoaaGreatDoor
namespace Rows

/-- THE TIED CARD OF 'entrepotlaw29.LifeKnown'. -/
def lifeKnownCard : Claim7 := { stood := { row := lifeKnownRow, standIns := [], harness := (true, "a156dc03525d4983f74ec65c9fa91325f3f0f8e740cfb762fa310d49590912de"), looks := true }, kinds := [], alts := [], laidByText := true, laidKinds := [.data], laidTests := true, laidLooks := .later }
def LifeKnownCardSaid : Prop := Claim7.holds Tryz.pinned (.plain (OpenSpec.ofChange lifeKnownSpec)) lifeKnownCard

/-- THE TIED CARD OF 'entrepotlaw29.LifeNone'. -/
def lifeNoneCard : Claim7 := { stood := { row := lifeNoneRow, standIns := [], harness := (true, "a156dc03525d4983f74ec65c9fa91325f3f0f8e740cfb762fa310d49590912de"), looks := true }, kinds := [], alts := [], laidByText := true, laidKinds := [.data], laidTests := true, laidLooks := .later }
def LifeNoneCardSaid : Prop := Claim7.holds Tryz.pinned (.plain (OpenSpec.ofChange lifeNoneSpec)) lifeNoneCard

/-- THE SECOND FORM's CARD OF 'entrepotlaw29.LifeKnown'. -/
def lifeKnownUptoCard : Claim7 := { stood := { row := lifeKnownUptoRow, standIns := [], harness := (true, "a156dc03525d4983f74ec65c9fa91325f3f0f8e740cfb762fa310d49590912de"), looks := true }, kinds := [], alts := [], laidByText := true, laidKinds := [.data], laidTests := true, laidLooks := .later }
def LifeKnownUptoCardSaid : Prop := Claim7.holds Tryz.pinned (.plain (OpenSpec.upto lifeKnownSpec)) lifeKnownUptoCard
end Rows
end Go.Proofs.YtinbeckdjhoeoaaGreatDoor
