/- The row of LifeKnown holds (LifeKnownSaid), given the run (Cha) and the listed variable's tie (Tieb). Conditions: none. -/
import Derived.Test.YtinbeckdjhoeoaaGreatDoorDoa
import Derived.Test.YtinbeckdjhoeoaaGreatDoorTieb
import Derived.Test.YtinbeckdjhoeoaaGreatDoorCha
import Derived.Test.YtinbeckdjhoeoaaGreatDoorFacta
import Derived.Test.YtinbeckdjhoeoaaGreatDoorFactb
import Derived.Test.YtinbeckdjhoeoaaGreatDoorClod
set_option linter.unusedVariables false
set_option linter.unusedSimpArgs false
namespace Go.Proofs.YtinbeckdjhoeoaaGreatDoor
open Go Go.ChangeShapes Go.WideShapes Go.ChangeAt Go.RowKit
set_option maxRecDepth 100000

/-- what the set-up's run leaves meets the row's list -/
theorem door_laid {P : Program} {laid : List (String × DataW Unit)} {n fuel M : Nat} {os : Os} {tape : Tape}
    (d : doorLeaves P n fuel M laid os tape = some (laid.filter fun x => x.2.handleName?.isNone, (funcsListed laid).map (·.2.funcsOut))) : laidMetH P laid (varsWorld P n (varsId P) os tape).memory := by
  unfold doorLeaves at d
  split at d
  · rename_i v w hr
    have hv : varsWorld P n (varsId P) os tape = w := by unfold varsWorld; rw [hr]
    rw [hv]
    simp only [Option.bind_eq_some_iff] at d
    obtain ⟨x, hx, d⟩ := d
    split at d
    · rename_i hb
      simp only [Bool.and_eq_true] at hb
      simp only [Option.map_eq_some_iff, Prod.mk.injEq] at d
      obtain ⟨y, hy, e1, e2⟩ := d
      exact laidMetH_of_parts3 (fuel := fuel) (laidMet_of_run (ps := x.2) fuel (by rw [hx, ← e1]) (decide_eq_true (nodupBits_sound hb.1.1).1) hb.1.2) hb.2 (by rw [hy, e2])
    · cases d
  · cases d

theorem own : ownKnob Tryz.prog.godebug = none := by kernel_rfl
theorem noInit3 : Tryz.prog.inits.idxOf? 3 = none := by kernel_rfl

theorem wd_heap (P : Program) (n : Nat) (os : Os) (t : Tape) (args : Array Value) : (varsWorld P n (varsId P) os (fun _ _ => 0)).memory.heap = ((World.doorLaid P n os).forCall t ⟨#[], args, []⟩).memory.heap := by
  show (varsWorld P n (varsId P) os (fun _ _ => 0)).heap = Input.heap ⟨#[], args, []⟩ (varsWorld P n (varsId P) os (fun _ _ => 0)).heap
  rw [Input.heap_fresh rfl]
  simp

theorem door_met (os : Os) : laidMetH Tryz.prog laidL (wd os).memory := (door_laid (tieA7 os (fun _ _ => 0))).of_heap (wd_heap Tryz.prog 6 os _ #[])

theorem known_lifted (os : Os) (started : os.Started) (H : Type) (enc : TypeId × Value → H) :
    ReturnsInHanded {} Tryz.checked os 3 .any (fun w args => (Rows.lifeKnownSpec.pre enc Tryz.prog Tryz.f3 [] false w args ∧ laidMetH Tryz.prog laidL w) ∧ sizedMet enc Tryz.prog Tryz.f3 (OpenSpec.ofChange Rows.lifeKnownSpec) false w args)
      (Rows.lifeKnownSpec.post enc Tryz.prog Tryz.f3 false true false false) := by
  refine returnsInHanded_of_change_and (C := Tryz.checked) (X := fun w _ => laidMetH Tryz.prog laidL w) (fun _ _ _ hh h => h.of_heap hh) own started noInit3 Tryz.func3
    (ChangeSpec.witness_shaped (enc := enc) (C := Tryz.checked) (os := os) (X := fun w _ => laidMetH Tryz.prog laidL w) false (World.doorLaid Tryz.prog 6 os) #[] 8 rfl (World.shaped_of_RefB (wdRef os) (wdHeap os)) (wdOk os) (wdPre os H enc) (wdSized os H enc) (door_met os)) ?_
  intro W base args ds gs before hval0 hW _ _ _ _
  have hW' := hW
  obtain ⟨p, q, hA0, hV, rfl, hfz, hnd⟩ := hW
  have hA : DataW.TrodAll enc Tryz.prog W 0 (fun _ => true) true Tryz.f3.params.toList args.toList ds p := hA0
  rw [Tryz.params3] at hA
  obtain ⟨rfl, rfl, rfl⟩ := trodAll_none hA
  obtain ⟨rfl, rfl⟩ := trodVars_none hV
  refine (known_calls W).mono fun e W' ⟨he, hk, hs, ho, hp⟩ => ⟨_, he, ?_⟩
  refine ⟨[], [], [], [], [], [], hW', ?_, ?_, ?_, ⟨ho, hp, fun i hi => ?_⟩, fun h => by cases h⟩
  · exact trodAll_mk1 (t := 4) (shut_bool Tryz.underlying4 true)
  · exact trodAll_mk0
  · rfl
  · rw [hk i hi]
    cases hg : W.heap[i]? with
    | none => rfl
    | some o => cases o <;> simp

theorem b2 {a b : Bool} (ha : a = true) (hb : b = true) : (a && b) = true := by rw [ha, hb]; rfl
theorem known_closed : joinedFacts Tryz.prog 3 Tryz.f3 Rows.lifeKnownSpec Rows.lifeKnownRow = true := by
  unfold joinedFacts
  exact (b2 (b2 (b2 (b2 (b2 (b2 (b2 (b2 (b2 (b2 (b2 (b2 (b2 (b2 (b2 (b2 (b2 (b2 (b2 (b2 (b2 (b2 (b2 (b2 (b2 (b2 (b2 (b2 (b2 (b2 (b2 jk1 jk2) jk3) jk4) jk5) jk6) jk7) jk8) jk9) jk10) jk11) jk12) jk13) jk14) jk15) jk16) jk17) jk18) jk19) jk20) jk21) jk22) jk23) jk24) jk25) jk26) jk27) jk28) jk29) jk30) jk31) jk32)
theorem known_named : Tryz.prog.funcNamed "entrepot/entrepotlaw29.LifeKnown" = some 3 := by kernel_rfl
theorem known_inst : Tryz.f3.isInstance Tryz.prog Rows.lifeKnownRow.origin Rows.lifeKnownRow.targs := of_decide_eq_true (by kernel_rfl)
theorem known_wrap : Tryz.f3.isWrapper Tryz.prog Rows.lifeKnownRow.wrapper Rows.lifeKnownRow.mainSum := by
  unfold Func.isWrapper
  rw [if_neg (of_decide_eq_false (by kernel_rfl))]
  exact ⟨rfl, rfl⟩

theorem known_holds : Rows.LifeKnownSaid :=
  OpenClaim.holds_of_wide 3 Tryz.f3 rfl rfl rfl rfl rfl rfl rfl ⟨rfl, rfl, rfl, rfl, rfl⟩ rfl rfl rfl rfl rfl known_named Tryz.func3 known_closed known_inst known_wrap
    (fun os started H enc _ => known_lifted os started H enc)
end Go.Proofs.YtinbeckdjhoeoaaGreatDoor
