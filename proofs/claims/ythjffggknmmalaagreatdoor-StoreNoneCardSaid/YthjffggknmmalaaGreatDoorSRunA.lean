/- Shown: what the evaluator answers for 'scarflaw17.StoreNone', by reckoning. No condition. -/
import Derived.Test.YthjffggknmmalaaGreatDoorSSys
namespace Go.Proofs.YthjffggknmmalaaGreatDoor.SRun
open Go.Ev SSys
def vT : Value := .agg #[.chan (some 0), .chan (some 1), .chan (some 2), .chan (some 3)]
def vV : Value := .agg #[.chan (some 4), .chan (some 5), .chan (some 6)]
def encV (lo hi : Int) : Value := .iface 0 (.tuple #[.int .i64 lo, .int .i64 hi, .chan (some 8)])
def es (b : Bool) : List (Nat × Ext) := exts [(13, .known [vV] (.bool b))]
noncomputable def run (b : Bool) (lo hi : Int) : Bool := isTrue (ev Tryz.prog (es b) 400 (.call 4 [vT, vV, .chan (some 7), encV lo hi]) AH.empty)
set_option maxRecDepth 1000000
theorem run_no : run false (-9223372036854775808) 9223372036854775807 = true := by kernel_rfl
theorem run_mid : run true 0 2 = true := by kernel_rfl
end Go.Proofs.YthjffggknmmalaaGreatDoor.SRun
