/- Numbers between two others: what both sides' functions return. No program in sight. -/
import Derived.Test.YtbdokiecpmhjmaaDoorPvF1
import Derived.Test.YtbdokiecpmhjmaaDoorPvIdx
namespace Go.Proofs.YtbdokiecpmhjmaaDoor
set_option linter.unusedSimpArgs false
set_option linter.unusedVariables false
set_option linter.unusedSectionVars false
set_option linter.unusedVariables false
set_option linter.unusedSimpArgs false

def BtwP (lo hi : Int) (n : Int) : Prop := lo ≤ n ∧ n ≤ hi
theorem impl_within (N : Nat) (n lo hi : Int) (u : Unit) : F_impl_within N (n, lo, hi, u) = some (dec (BtwP lo hi n), ()) := by
  refine Ret.tells ?_
  unfold F_impl_within
  (repeat' (first | (dsimp only) | (with_reducible refine Ret.ret ?_) | (with_reducible refine Ret.guardI (by first | assumption | omega | (simp only [List.length_append, List.length_cons, List.length_nil, List.length_set, List.length_replicate, lim] at *; omega)) ?_) | (with_reducible refine Ret.guard (by first | assumption | omega | (simp only [List.length_append, List.length_cons, List.length_nil, List.length_set, List.length_replicate, lim] at *; omega)) ?_) | (with_reducible refine Ret.guard3 (by first | assumption | omega | (simp only [List.length_append, List.length_cons, List.length_nil, List.length_set, List.length_replicate, lim] at *; omega)) ?_) | (with_reducible refine Ret.guard3' (by first | assumption | omega | (simp only [List.length_append, List.length_cons, List.length_nil, List.length_set, List.length_replicate, lim] at *; omega)) ?_) | (with_reducible refine Ret.atN (by first | assumption | omega | (simp only [List.length_append, List.length_cons, List.length_nil, List.length_set, List.length_replicate, lim] at *; omega)) ?_) | (with_reducible refine Ret.get (by first | assumption | omega | (simp only [List.length_append, List.length_cons, List.length_nil, List.length_set, List.length_replicate, lim] at *; omega)) ?_) | (with_reducible refine Ret.byteN (by first | assumption | omega | (simp only [List.length_append, List.length_cons, List.length_nil, List.length_set, List.length_replicate, lim] at *; omega)) ?_) | ((with_reducible refine Ret.ifnd ?_ ?_) <;> intro _) | ((with_reducible refine Ret.ifd ?_ ?_) <;> intro _) | ((with_reducible refine Ret.ifnc ?_ ?_) <;> intro _) | ((with_reducible refine Ret.ifc ?_ ?_) <;> intro _) | ((with_reducible refine Ret.bif ?_ ?_) <;> intro _)))
  all_goals (simp only [tells_false, tells_decide, BtwP]; omega)
theorem spec_l01In (N : Nat) (n lo hi : Int) (u : Unit) : F_spec_l01In N (n, lo, hi, u) = some (dec (BtwP lo hi n), ()) := by
  refine Ret.tells ?_
  unfold F_spec_l01In
  (repeat' (first | (dsimp only) | (with_reducible refine Ret.ret ?_) | (with_reducible refine Ret.guardI (by first | assumption | omega | (simp only [List.length_append, List.length_cons, List.length_nil, List.length_set, List.length_replicate, lim] at *; omega)) ?_) | (with_reducible refine Ret.guard (by first | assumption | omega | (simp only [List.length_append, List.length_cons, List.length_nil, List.length_set, List.length_replicate, lim] at *; omega)) ?_) | (with_reducible refine Ret.guard3 (by first | assumption | omega | (simp only [List.length_append, List.length_cons, List.length_nil, List.length_set, List.length_replicate, lim] at *; omega)) ?_) | (with_reducible refine Ret.guard3' (by first | assumption | omega | (simp only [List.length_append, List.length_cons, List.length_nil, List.length_set, List.length_replicate, lim] at *; omega)) ?_) | (with_reducible refine Ret.atN (by first | assumption | omega | (simp only [List.length_append, List.length_cons, List.length_nil, List.length_set, List.length_replicate, lim] at *; omega)) ?_) | (with_reducible refine Ret.get (by first | assumption | omega | (simp only [List.length_append, List.length_cons, List.length_nil, List.length_set, List.length_replicate, lim] at *; omega)) ?_) | (with_reducible refine Ret.byteN (by first | assumption | omega | (simp only [List.length_append, List.length_cons, List.length_nil, List.length_set, List.length_replicate, lim] at *; omega)) ?_) | ((with_reducible refine Ret.ifnd ?_ ?_) <;> intro _) | ((with_reducible refine Ret.ifd ?_ ?_) <;> intro _) | ((with_reducible refine Ret.ifnc ?_ ?_) <;> intro _) | ((with_reducible refine Ret.ifc ?_ ?_) <;> intro _) | ((with_reducible refine Ret.bif ?_ ?_) <;> intro _)))
  all_goals (simp only [tells_false, tells_decide, BtwP]; omega)

end Go.Proofs.YtbdokiecpmhjmaaDoor
