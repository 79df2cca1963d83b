/- Shown: what the evaluator answers for 'scarflaw17.StoreNone', by reckoning. No condition. -/
import Derived.Test.YthjffggknmmalaaGreatDoorSRunA
namespace Go.Proofs.YthjffggknmmalaaGreatDoor.SRun
open Go.Ev SSys
set_option maxRecDepth 1000000
theorem run_less : run true (-9223372036854775808) (-1) = true := by kernel_rfl
theorem run_more : run true 3 9223372036854775807 = true := by kernel_rfl
end Go.Proofs.YthjffggknmmalaaGreatDoor.SRun
