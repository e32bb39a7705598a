/- KernelNone, run. -/
import Derived.Test.YtmpaepfagmofoaaGreatDoorLB
set_option linter.all false
namespace Go.G
open Go Go.Ax
set_option maxRecDepth 100000
theorem rNone (m : Int) : isTrue (sall tab hk23 30000 200 n_law23x_KernelNone [] (bare 0 m)) = true := by kernel_rfl
theorem noneCalls {w : World} {m : Int} (hw : w.cell? ⟨0, 0, none⟩ = some (.int .i64 m)) :
    Calls P n_law23x_KernelNone #[] w fun e w' => e = .returned (.bool true) ∧ RowKit.Below w.heap.size w w' :=
  closed_run (mx := 0) (by decide) callOK (args := []) (fun _ h => by cases h) (rNone m) hw
end Go.G

