/- What the row says of the functions that the law comes to. Conditions: none. -/
import Derived.Test.YtinbeckdjhoeoaaGreatDoorClob
import Derived.Test.YtinbeckdjhoeoaaGreatDoorCloc
set_option linter.unusedSectionVars false
set_option linter.unusedSimpArgs false
set_option linter.unusedVariables false
set_option maxRecDepth 100000
set_option maxHeartbeats 0
namespace Go.Proofs.YtinbeckdjhoeoaaGreatDoor
open Go Go.Lm
theorem jclosure : Tryz.prog.closure 3 = jL := by
  unfold Program.closure
  refine closureM_sound (fun f g h => T.All.get jfnAOK f g h) 1428 [3] 0 [] jL (fun f => by simp) jM _ ?_
  have := jN
  rw [nble] at this
  exact of_decide_eq_true this
theorem jk10 : (Rows.lifeKnownRow.inPlace == Tryz.prog.inPlace 3) = true := by
  unfold Program.inPlace
  rw [jclosure]
  kernel_rfl
theorem junf : Tryz.prog.unfollowed 3 = true := by
  unfold Program.unfollowed
  rw [jclosure]
  kernel_rfl
theorem jk11 : (Rows.lifeKnownRow.unfollowed == Tryz.prog.unfollowed 3) = true := by rw [junf]; rfl
theorem jk12 : (Rows.lifeKnownRow.recurses == Tryz.prog.recurses 3) = true := by
  unfold Program.recurses
  rw [junf]; rfl
theorem jk13 : (Rows.lifeKnownRow.named == Tryz.prog.varsNamed 3) = true := by
  unfold Program.varsNamed
  rw [jclosure]
  kernel_rfl
theorem jk2 : laidOutB Tryz.prog = true := closedL
theorem jk3 : mapsRowed Tryz.prog = true := closedM
theorem jk23 : (Rows.lifeKnownRow.plainKeys == Tryz.prog.plainKeys) = true := by kernel_rfl
end Go.Proofs.YtinbeckdjhoeoaaGreatDoor
