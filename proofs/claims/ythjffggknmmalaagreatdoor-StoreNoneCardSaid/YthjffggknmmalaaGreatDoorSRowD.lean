/- Shown: 'scarflaw17.StoreNone' answers true for every argument, and leaves each as it was: the row, and its tied card. No condition. -/
import Derived.Test.YthjffggknmmalaaGreatDoorSRowC
import Derived.Test.YthjffggknmmalaaGreatDoorCards
import Derived.Test.YthjffggknmmalaaGreatDoorTie
import Derived.WalkKit
import Derived.ProofKit
import Derived.OpenShut
import Derived.Deep.DeepHandedRow
import Derived.Lib.LaidTab
import Derived.Carry
set_option linter.unusedVariables false
set_option linter.unusedSimpArgs false
namespace Go.Proofs.YthjffggknmmalaaGreatDoor.SRow
open Go.ChangeShapes Go.WideShapes Go.ChangeAt Go.RowKit SLight SNone
theorem f_inPlace : (Rows.storeNoneRow.inPlace == Tryz.prog.inPlace 4) = true := by kernel_rfl
theorem f_unfollowed : (Rows.storeNoneRow.unfollowed == Tryz.prog.unfollowed 4) = true := by kernel_rfl
theorem f_recurses : (Rows.storeNoneRow.recurses == Tryz.prog.recurses 4) = true := by kernel_rfl
theorem f_named : (Rows.storeNoneRow.named == Tryz.prog.varsNamed 4) = true := by kernel_rfl
theorem f_laidOut : laidOutB Tryz.prog = true := by kernel_rfl
end Go.Proofs.YthjffggknmmalaaGreatDoor.SRow
