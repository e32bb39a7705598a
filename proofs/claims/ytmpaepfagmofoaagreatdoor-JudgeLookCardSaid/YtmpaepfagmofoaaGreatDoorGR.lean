/- What runs ahead of every law gives true. -/
import Derived.Test.YtmpaepfagmofoaaGreatDoorGT
import Derived.Test.YtmpaepfagmofoaaGreatDoorAxG
import Derived.KernelRfl
set_option linter.all false
namespace Go.G
open Go Go.Ax
variable {H : HeapI}
noncomputable section
def nums : Nums := { idle := n_kernel_Kernel_Idle, len := n_math_bits_Len, sorted := n_slices_Sorted_int, keys := n_maps_Keys_map_intapi_Mail_int_api_Mail_1, join := n_strings_Join, split := n_strings_Split, cut := n_strings_Cut, format := n_strconv_FormatInt, parse := n_strconv_ParseInt, mx := 0 }
def hk0 : FuncId → Option (Hook H) := hooks2 nums
def hk1 : FuncId → Option (Hook H) := cl 0 n_law1x_begun hk0
def hk2 : FuncId → Option (Hook H) := cl 0 n_law2x_begun hk1
def hk7 : FuncId → Option (Hook H) := cl 0 n_law7x_begun hk2
def hk9 : FuncId → Option (Hook H) := cl 0 n_law9x_begun hk7
def hk12 : FuncId → Option (Hook H) := cl 0 n_law12x_begun hk9
def hk14 : FuncId → Option (Hook H) := cl 0 n_law14x_begun hk12
def hk18 : FuncId → Option (Hook H) := cl 0 n_law18x_begun hk14
def hk19 : FuncId → Option (Hook H) := cl 0 n_law19x_begun hk18
def hk23 : FuncId → Option (Hook H) := cl 0 n_law23x_begun hk19
set_option maxRecDepth 100000
theorem r1 (m : Int) : isTrue (sall tab hk0 30000 200 n_law1x_begun [] (bare 0 m)) = true := by kernel_rfl
theorem r2 (m : Int) : isTrue (sall tab hk1 30000 200 n_law2x_begun [] (bare 0 m)) = true := by kernel_rfl
theorem r7 (m : Int) : isTrue (sall tab hk2 30000 200 n_law7x_begun [] (bare 0 m)) = true := by kernel_rfl
theorem r9 (m : Int) : isTrue (sall tab hk7 30000 200 n_law9x_begun [] (bare 0 m)) = true := by kernel_rfl
theorem r12 (m : Int) : isTrue (sall tab hk9 30000 200 n_law12x_begun [] (bare 0 m)) = true := by kernel_rfl
theorem r14 (m : Int) : isTrue (sall tab hk12 30000 200 n_law14x_begun [] (bare 0 m)) = true := by kernel_rfl
theorem r18 (m : Int) : isTrue (sall tab hk14 30000 200 n_law18x_begun [] (bare 0 m)) = true := by kernel_rfl
theorem r19 (m : Int) : isTrue (sall tab hk18 30000 200 n_law19x_begun [] (bare 0 m)) = true := by kernel_rfl
theorem r23 (m : Int) : isTrue (sall tab hk19 30000 200 n_law23x_begun [] (bare 0 m)) = true := by kernel_rfl
theorem hmix : P.follows .mixedOrders = true := by kernel_rfl
theorem hidle : (cfn P n_kernel_Kernel_Idle).isSome = true := by kernel_rfl
theorem hnil (σ : St H) : kbody nocall 1 (codeOf P n_kernel_Kernel_Idle) [.pointer none] σ = some (.bool true, σ) := by kernel_rfl
end
end Go.G

