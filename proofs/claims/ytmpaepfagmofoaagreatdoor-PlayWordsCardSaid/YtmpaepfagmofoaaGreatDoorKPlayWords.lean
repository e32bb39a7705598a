/- The closed facts of the row of PlayWords. -/
import Derived.Test.YtmpaepfagmofoaaGreatDoorLF
set_option linter.all false
namespace Go.Proofs.YtmpaepfagmofoaaGreatDoor.PlayWords
open Go.ChangeShapes Go.WideShapes Go.ChangeAt Go.RowKit
open Fin (PP and2)
set_option maxRecDepth 100000
abbrev S : ChangeSpec := (OpenSpec.ofChange Rows.playWordsSpec).bare
abbrev C : OpenClaim := Rows.playWordsRow
abbrev fI : FuncId := 5
noncomputable abbrev fn : Func := Tryz.f5
theorem k1 : C.wf (OpenSpec.ofChange S) = true := by kernel_rfl
theorem k2 : laidOutB PP = true := Fin.k2
theorem k3 : mapsRowed PP = true := Fin.k3
theorem k4 : fn.params.all (PP.readableRec ·) = true := by kernel_rfl
theorem k5 : namedTie PP C.named S.vars = true := by kernel_rfl
theorem k6 : (C.stops == []) = true := by kernel_rfl
theorem k7 : (PP.stops == []) = true := Fin.k7
theorem k8 : (C.knobs == []) = true := by kernel_rfl
theorem k9 : (PP.stopKnobs == []) = true := Fin.k9
theorem k10 : (C.inPlace == PP.inPlace fI) = true := by kernel_rfl
theorem k11 : (C.unfollowed == PP.unfollowed fI) = true := by kernel_rfl
theorem k12 : (C.recurses == PP.recurses fI) = true := by kernel_rfl
theorem k13 : (C.named == PP.varsNamed fI) = true := by kernel_rfl
theorem k14 : (C.maps == (fn.params.toList ++ S.plain.varTypes PP).any (PP.mapsRec ·)) = true := by kernel_rfl
theorem k15 : (C.ifaces == (fn.params.toList ++ S.plain.varTypes PP).any (PP.ifacesRec ·)) = true := by kernel_rfl
theorem k16 : (C.mapsOut == PP.mapsAmong fn.resultTypes.toList) = true := by kernel_rfl
theorem k17 : (C.loops == (fn.params.toList ++ S.plain.varTypes PP).any (PP.loopsFrom ·)) = true := by kernel_rfl
theorem k18 : (C.wideKeys == (fn.params.toList ++ S.plain.varTypes PP ++ fn.resultTypes.toList).any (PP.wideKeysFrom ·)) = true := by kernel_rfl
theorem k19 : S.vars.all (PP.varReadable ·) = true := by kernel_rfl
theorem k20 : fn.resultTypes.all (fun t => PP.readableRec t && decide (t < PP.types.size)) = true := by kernel_rfl
theorem k21 : (C.ifacesOut == fn.resultTypes.toList.any (PP.ifacesRec ·)) = true := by kernel_rfl
theorem k22 : (C.loopsOut == fn.resultTypes.toList.any (PP.loopsFrom ·)) = true := by kernel_rfl
theorem k23 : (C.plainKeys == PP.plainKeys) = true := Fin.k23
theorem k24 : C.shortTexts.isNone = true := by kernel_rfl
theorem k25 : PP.stopsHeard = true := Fin.k25
theorem k26 : PP.mayEnter = true := Fin.k26
theorem k27 : (C.lifted == PP.liftsFinal) = true := Fin.k27
theorem k28 : (PP.make == some C.make) = true := Fin.k28
theorem k29 : (C.kinds == (if C.domain.isEmpty then [] else fn.params.toList.map fun t => match PP.underlying t with | some (.int k) => some k | _ => none)) = true := by kernel_rfl
theorem k30 : (C.pinned == C.pinnedBy) = true := by kernel_rfl
theorem k31 : (C.veiled == (fn.params.toList ++ S.plain.varTypes PP ++ fn.resultTypes.toList).any (PP.veiledRec ·)) = true := by kernel_rfl
theorem k32 : C.veiledFits PP fn.params.toList (fn.params.toList ++ S.plain.varTypes PP ++ fn.resultTypes.toList) = true := by kernel_rfl
theorem closed : joinedFacts PP fI fn S C = true := by
  unfold joinedFacts
  exact and2 (and2 (and2 (and2 (and2 (and2 (and2 (and2 (and2 (and2 (and2 (and2 (and2 (and2 (and2 (and2 (and2 (and2 (and2 (and2 (and2 (and2 (and2 (and2 (and2 (and2 (and2 (and2 (and2 (and2 (and2 k1 k2) k3) k4) k5) k6) k7) k8) k9) k10) k11) k12) k13) k14) k15) k16) k17) k18) k19) k20) k21) k22) k23) k24) k25) k26) k27) k28) k29) k30) k31) k32
theorem named0 : PP.funcNamed C.func = some fI := by kernel_rfl
theorem inst0 : fn.isInstance PP C.origin C.targs := of_decide_eq_true (by kernel_rfl)
theorem wrap0 : fn.isWrapper PP C.wrapper C.mainSum := by unfold Func.isWrapper; first | (rw [if_pos (by decide +kernel)]; kernel_rfl) | (rw [if_neg (by decide +kernel)]; exact ⟨rfl, rfl⟩)
theorem wfText : C.wfByText (OpenSpec.ofChange Rows.playWordsSpec) = true := by kernel_rfl
theorem goes0 : false = C.goesBy PP := by kernel_rfl
end Go.Proofs.YtmpaepfagmofoaaGreatDoor.PlayWords

