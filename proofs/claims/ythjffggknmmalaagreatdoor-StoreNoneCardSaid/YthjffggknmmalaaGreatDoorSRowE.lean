/- Shown: 'scarflaw17.StoreNone' answers true for every argument, and leaves each as it was: the row, and its tied card. No condition. -/
import Derived.Test.YthjffggknmmalaaGreatDoorSRowC
import Derived.Test.YthjffggknmmalaaGreatDoorSRowD
import Derived.Test.YthjffggknmmalaaGreatDoorCards
import Derived.Test.YthjffggknmmalaaGreatDoorTie
import Derived.WalkKit
import Derived.ProofKit
import Derived.OpenShut
import Derived.Deep.DeepHandedRow
import Derived.Lib.LaidTab
import Derived.Carry
set_option linter.unusedVariables false
set_option linter.unusedSimpArgs false
namespace Go.Proofs.YthjffggknmmalaaGreatDoor.SRow
open Go.ChangeShapes Go.WideShapes Go.ChangeAt Go.RowKit SLight SNone
theorem closed : joinedFacts Tryz.prog 4 Tryz.f4 (OpenSpec.ofChange Rows.storeNoneSpec).bare Rows.storeNoneRow = true := by
  unfold joinedFacts
  rw [f_laidOut, f_inPlace, f_unfollowed, f_recurses, f_named]
  kernel_rfl
theorem named : Tryz.pinned.checked.prog.funcNamed Rows.storeNoneRow.func = some 4 := by kernel_rfl
theorem said : Rows.StoreNoneSaid :=
  OpenClaim.holds_of_cond 4 Tryz.f4 rfl rfl rfl rfl rfl rfl rfl ⟨rfl, rfl, rfl, rfl, rfl⟩ rfl rfl rfl rfl rfl named Tryz.func4 closed
    (of_decide_eq_true (by kernel_rfl)) (by unfold Func.isWrapper; first | (rw [if_pos (by decide +kernel)]; kernel_rfl) | (rw [if_neg (by decide +kernel)]; exact ⟨rfl, rfl⟩))
    (fun os started H enc _ F => by rw [OpenClaim.pre_eq_preRow]; exact lifted os started H enc F)
end Go.Proofs.YthjffggknmmalaaGreatDoor.SRow
