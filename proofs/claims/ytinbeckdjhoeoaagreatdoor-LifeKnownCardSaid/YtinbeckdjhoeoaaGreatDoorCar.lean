/- LifeKnown, the tied card: whatever the machine draws, entrepotlaw29.LifeKnown is called with nothing and returns true, and what was there stays as it was. Conditions: none. -/
import Derived.Test.YtinbeckdjhoeoaaGreatDoorDob
import Derived.Test.YtinbeckdjhoeoaaGreatDoorGoe
import Derived.Test.YtinbeckdjhoeoaaGreatDoorCards
import Derived.SevenTiedAt
set_option linter.unusedVariables false
set_option maxRecDepth 100000
namespace Go.Proofs.YtinbeckdjhoeoaaGreatDoor
open Go
theorem card_wf : Rows.lifeKnownRow.wfByText (OpenSpec.ofChange Rows.lifeKnownSpec) = true := by kernel_rfl
theorem card_main : Tryz.pinned.checked.prog.mainIs = some (true, "a156dc03525d4983f74ec65c9fa91325f3f0f8e740cfb762fa310d49590912de".toList) := by kernel_rfl
theorem card_looks : true = Tryz.pinned.checked.prog.looks [] := by kernel_rfl
theorem goes_by {P : Program} {c : OpenClaim} {f : FuncId} (hs : c.start = .entering) (hf : P.funcNamed c.func = some f) (hg : P.goes f = false) : false = c.goesBy P := by
  unfold OpenClaim.goesBy Program.goesAt Program.goesFrom
  rw [hs, hf]
  simp [hg]
theorem card_goes : false = Rows.lifeKnownRow.goesBy Tryz.pinned.checked.prog := goes_by rfl known_named goes3
theorem known_card : Rows.LifeKnownCardSaid :=
  Claim7.holds_tied_plain_at .later [] [.data] true (true, "a156dc03525d4983f74ec65c9fa91325f3f0f8e740cfb762fa310d49590912de") true
    known_holds (fun _ h => by cases h) card_wf (fun _ h => by cases h) known_row_tie rfl ⟨rfl, rfl⟩ card_main rfl
    (fun f fn hf hfn => by
      obtain rfl : f = 3 := Option.some.inj (known_named.symm.trans hf) |>.symm
      obtain rfl : fn = Tryz.f3 := (Option.some.inj (Tryz.func3.symm.trans hfn)).symm
      exact ⟨card_looks, fun j t ht => by
        rw [Tryz.params3] at ht
        simp at ht⟩)
    card_goes
#print axioms known_card
end Go.Proofs.YtinbeckdjhoeoaaGreatDoor
