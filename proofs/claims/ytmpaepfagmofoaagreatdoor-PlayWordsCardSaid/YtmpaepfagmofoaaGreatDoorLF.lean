/- What every claim of this seat leans on: the witness's world and the program's own closed facts. -/
import Derived.Test.YtmpaepfagmofoaaGreatDoorLB
import Derived.Test.YtmpaepfagmofoaaGreatDoorCards
import Derived.Test.YtmpaepfagmofoaaGreatDoorTie
import Derived.WalkKit
import Derived.ProofKit
import Derived.OpenShut
import Derived.Deep.DeepHandedRow
import Derived.Deep.DeepWitnessRowRef
import Derived.Lib.LaidTab
import Derived.Lib.LaidIn
import Derived.Shelf.Vars
set_option linter.all false
namespace Go.Proofs.YtmpaepfagmofoaaGreatDoor.Fin
open Go.ChangeShapes Go.WideShapes Go.ChangeAt Go.RowKit
set_option maxRecDepth 100000
theorem own : ownKnob Tryz.prog.godebug = none := by kernel_rfl

/-- a datum's cells -/
def fl1 : DataW Unit → List Value
  | .lit (.int k n) => [.int k n]
  | _ => []
def fl2 : DataW Unit → List Value
  | .agg l => l.flatMap fl1
  | d => fl1 d
def fl3 : DataW Unit → List Value
  | .agg l => l.flatMap fl2
  | d => fl2 d
/-- THE WITNESS: the settled world with two blocks more (the errors' structs), the variables holding what their initialisers lay. -/
noncomputable def laidWorld (os : Os) : World :=
  let N := (World.settled Tryz.prog os).heap.size
  let w0 := World.holding Tryz.prog os ⟨#[.cells #[.string ⟨#[105, 110, 118, 97, 108, 105, 100, 32, 115, 121, 110, 116, 97, 120]⟩] 427, .cells #[.string ⟨#[118, 97, 108, 117, 101, 32, 111, 117, 116, 32, 111, 102, 32, 114, 97, 110, 103, 101]⟩] 427], #[], []⟩
  let put (h : Array Obj) (g : Nat) (cs : Array Value) : Array Obj := h.modify g fun
    | .cells _ t frozen => .cells cs t frozen
    | o => o
  let h1 := put w0.heap 1 (fl3 Rows.laid_internal_strconv_uint64pow10).toArray
  let h2 := put h1 2 #[.iface 425 (.pointer (some ⟨N, 0, none⟩))]
  let h3 := put h2 3 #[.iface 425 (.pointer (some ⟨N + 1, 0, none⟩))]
  let h4 := put h3 4 (fl3 Rows.laid_unicode_utf8_first).toArray
  let h5 := put h4 5 (fl3 Rows.laid_unicode_utf8_acceptRanges).toArray
  let h6 := put h5 6 (fl3 Rows.laid_math_bits_deBruijn32tab).toArray
  let h7 := put h6 7 (fl3 Rows.laid_math_bits_deBruijn64tab).toArray
  { w0 with heap := h7 }
noncomputable abbrev N0 : Nat := (World.settled Tryz.prog default).heap.size
theorem laid_met (os : Os) (args : Array Value) : laidMet Tryz.prog Rows.kernelNoneRow.laid ((laidWorld os).forCall (fun _ _ => 0) ⟨#[], args, []⟩).memory :=
  laidMet_of_run' 8 (by kernel_rfl) (by kernel_rfl)
theorem maxLen_cell {w : World} (h : w.ShapedOpen Tryz.prog) : ∃ m, w.cell? ⟨0, 0, none⟩ = some (.int .i64 m) :=
  cell_of_shapedOpen_int (zero := #[.int .i64 0]) (t := 3) h (of_decide_eq_true (by kernel_rfl)) (by kernel_rfl) rfl (by kernel_rfl) (by kernel_rfl) Tryz.underlying3

noncomputable abbrev PP : Program := Tryz.pinned.checked.prog
abbrev C : OpenClaim := Rows.kernelNoneRow
theorem k2 : laidOutB PP = true := by kernel_rfl
theorem k3 : mapsRowed PP = true := by kernel_rfl
theorem k7 : (PP.stops == []) = true := by kernel_rfl
theorem k9 : (PP.stopKnobs == []) = true := by kernel_rfl
theorem k23 : (C.plainKeys == PP.plainKeys) = true := by kernel_rfl
theorem k25 : PP.stopsHeard = true := by kernel_rfl
theorem k26 : PP.mayEnter = true := by kernel_rfl
theorem k27 : (C.lifted == PP.liftsFinal) = true := by kernel_rfl
theorem k28 : (PP.make == some C.make) = true := by kernel_rfl
theorem looks0 : true = PP.looks [] := by kernel_rfl
theorem mainIs0 : PP.mainIs = some (true, "437d55463fe3612f29dcf13301e5a0543a05bc5b66afe833664a6bbbcffbcb63".toList) := by kernel_rfl
theorem and2 {a b : Bool} (ha : a = true) (hb : b = true) : (a && b) = true := by rw [ha, hb]; rfl
end Go.Proofs.YtmpaepfagmofoaaGreatDoor.Fin

