/- The walks of the smallest functions: bounds of numbers. No condition. -/
import Derived.Test.YtfbbbgonapgfiaaDoorTypes
import Derived.Test.YtfbbbgonapgfiaaDoorProg
namespace Go.Proofs.YtfbbbgonapgfiaaDoor
set_option linter.unusedSimpArgs false
set_option linter.unusedVariables false
open Go.RowKit

def withinB (a b c : Int) : Bool := decide (b ≤ a) && decide (a ≤ c)
theorem withinB_iff {a b c : Int} : withinB a b c = true ↔ b ≤ a ∧ a ≤ c := by simp [withinB]
theorem withinB_not {a b c : Int} : withinB a b c = false ↔ ¬ (b ≤ a ∧ a ≤ c) := by rw [← withinB_iff]; simp

set_option maxHeartbeats 400000 in
theorem w_l01In (a b c : Int) (w : World) :
    Calls Tryd.prog 33 #[.int .i64 a, .int .i64 b, .int .i64 c] w fun e w' => e = .returned (.bool (withinB a b c)) ∧ w' = w := by
  go_enter Tryd.func33, Tryd.ntmps33
  go_wp2
  all_goals go_ret
  all_goals refine ⟨ret_bool ?_, rfl⟩
  all_goals simp [withinB, *]
  all_goals omega

set_option maxHeartbeats 400000 in
theorem w_within (a b c : Int) (w : World) :
    Calls Tryd.prog 37 #[.int .i64 a, .int .i64 b, .int .i64 c] w fun e w' => e = .returned (.bool (withinB a b c)) ∧ w' = w := by
  go_enter Tryd.func37, Tryd.ntmps37
  go_wp2
  all_goals go_ret
  all_goals refine ⟨ret_bool ?_, rfl⟩
  all_goals simp [withinB, *]
  all_goals omega
end Go.Proofs.YtfbbbgonapgfiaaDoor
