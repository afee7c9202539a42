/- Closed facts of the row, first part. -/
import Derived.Test.YtipedikaiaamjaaGreatDoorCards
import Derived.Test.YtipedikaiaamjaaGreatDoorTie
import Derived.JoinedCond
import Derived.KernelRfl
set_option linter.unusedVariables false
set_option maxRecDepth 100000
set_option maxHeartbeats 4000000
namespace Go.Proofs.YtipedikaiaamjaaGreatDoor.runNumbers
abbrev jS : ChangeSpec := (OpenSpec.ofChange Rows.runNumbersSpec).bare
theorem j1 : (Rows.runNumbersRow.wf (OpenSpec.ofChange jS)) = true := by kernel_rfl
theorem j2 : (laidOutB Tryz.prog) = true := by kernel_rfl
theorem j3 : (mapsRowed Tryz.prog) = true := by kernel_rfl
theorem j4 : (Tryz.f3.params.all (Tryz.prog.readableRec ·)) = true := by kernel_rfl
theorem j5 : (namedTie Tryz.prog Rows.runNumbersRow.named jS.vars) = true := by kernel_rfl
theorem j6 : ((Rows.runNumbersRow.stops == [])) = true := by kernel_rfl
theorem j7 : ((Tryz.prog.stops == [])) = true := by kernel_rfl
theorem j8 : ((Rows.runNumbersRow.knobs == [])) = true := by kernel_rfl
theorem j9 : ((Tryz.prog.stopKnobs == [])) = true := by kernel_rfl
theorem j14 : ((Rows.runNumbersRow.maps == (Tryz.f3.params.toList ++ jS.plain.varTypes Tryz.prog).any (Tryz.prog.mapsRec ·))) = true := by kernel_rfl
theorem j15 : ((Rows.runNumbersRow.ifaces == (Tryz.f3.params.toList ++ jS.plain.varTypes Tryz.prog).any (Tryz.prog.ifacesRec ·))) = true := by kernel_rfl
theorem j16 : ((Rows.runNumbersRow.mapsOut == Tryz.prog.mapsAmong Tryz.f3.resultTypes.toList)) = true := by kernel_rfl
theorem j17 : ((Rows.runNumbersRow.loops == (Tryz.f3.params.toList ++ jS.plain.varTypes Tryz.prog).any (Tryz.prog.loopsFrom ·))) = true := by kernel_rfl
theorem j18 : ((Rows.runNumbersRow.wideKeys == (Tryz.f3.params.toList ++ jS.plain.varTypes Tryz.prog ++ Tryz.f3.resultTypes.toList).any (Tryz.prog.wideKeysFrom ·))) = true := by kernel_rfl
theorem j19 : (jS.vars.all (Tryz.prog.varReadable ·)) = true := by kernel_rfl
theorem j20 : (Tryz.f3.resultTypes.all (fun t => Tryz.prog.readableRec t && decide (t < Tryz.prog.types.size))) = true := by kernel_rfl
theorem j21 : ((Rows.runNumbersRow.ifacesOut == Tryz.f3.resultTypes.toList.any (Tryz.prog.ifacesRec ·))) = true := by kernel_rfl
theorem j22 : ((Rows.runNumbersRow.loopsOut == Tryz.f3.resultTypes.toList.any (Tryz.prog.loopsFrom ·))) = true := by kernel_rfl
theorem j23 : ((Rows.runNumbersRow.plainKeys == Tryz.prog.plainKeys)) = true := by kernel_rfl
theorem j24 : (Rows.runNumbersRow.shortTexts.isNone) = true := by kernel_rfl
theorem j25 : (Tryz.prog.stopsHeard) = true := by kernel_rfl
theorem j26 : (Tryz.prog.mayEnter) = true := by kernel_rfl
theorem j27 : ((Rows.runNumbersRow.lifted == Tryz.prog.liftsFinal)) = true := by kernel_rfl
theorem j28 : ((Tryz.prog.make == some Rows.runNumbersRow.make)) = true := by kernel_rfl
theorem j29 : ((Rows.runNumbersRow.kinds == (if Rows.runNumbersRow.domain.isEmpty then [] else Tryz.f3.params.toList.map fun t => match Tryz.prog.underlying t with | some (.int k) => some k | _ => none))) = true := by kernel_rfl
theorem j30 : ((Rows.runNumbersRow.pinned == Rows.runNumbersRow.pinnedBy)) = true := by kernel_rfl
theorem j31 : ((Rows.runNumbersRow.veiled == (Tryz.f3.params.toList ++ jS.plain.varTypes Tryz.prog ++ Tryz.f3.resultTypes.toList).any (Tryz.prog.veiledRec ·))) = true := by kernel_rfl
theorem j32 : (Rows.runNumbersRow.veiledFits Tryz.prog Tryz.f3.params.toList (Tryz.f3.params.toList ++ jS.plain.varTypes Tryz.prog ++ Tryz.f3.resultTypes.toList)) = true := by kernel_rfl
theorem jName : Tryz.pinned.checked.prog.funcNamed Rows.runNumbersRow.func = some 3 := by kernel_rfl
theorem jInst : Tryz.f3.isInstance Tryz.pinned.checked.prog Rows.runNumbersRow.origin Rows.runNumbersRow.targs := of_decide_eq_true (by kernel_rfl)
theorem jWrap : Tryz.f3.isWrapper Tryz.pinned.checked.prog Rows.runNumbersRow.wrapper Rows.runNumbersRow.mainSum := by unfold Func.isWrapper; first | (rw [if_pos (by decide +kernel)]; kernel_rfl) | (rw [if_neg (by decide +kernel)]; exact ⟨rfl, rfl⟩)
theorem jWf : Rows.runNumbersRow.wfByText (OpenSpec.ofChange Rows.runNumbersSpec) = true := by kernel_rfl
theorem jMain : Tryz.pinned.checked.prog.mainIs = some (Rows.runNumbersCard.stood.harness.1, Rows.runNumbersCard.stood.harness.2.toList) := by kernel_rfl
end Go.Proofs.YtipedikaiaamjaaGreatDoor.runNumbers
