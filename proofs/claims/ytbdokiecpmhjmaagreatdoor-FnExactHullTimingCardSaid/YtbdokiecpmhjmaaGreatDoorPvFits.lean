/- What a Go value's data fit into; copying and comparing loops. No program in sight. -/
import Derived.Test.YtbdokiecpmhjmaaGreatDoorPvIdx
namespace Go.Proofs.YtbdokiecpmhjmaaGreatDoor
set_option linter.unusedSimpArgs false
set_option linter.unusedVariables false
set_option linter.unusedSectionVars false
set_option linter.unusedVariables false
set_option linter.unusedSimpArgs false

/-- No text and no list is longer than memory can hold. -/
@[reducible] def Ty.fits : (τ : Ty) → τ.den → Prop
  | .int k, x => (Lit.int k x).wf = true
  | .bool, _ => True
  | .str, s => s.size ≤ maxLen
  | .slice e, xs => xs.length ≤ maxLen ∧ ∀ x ∈ xs, e.fits x
  | .ptr _, _ => True
  | .agg t, x => t.fits x
  | .nil, _ => True
  | .pair a b, x => a.fits x.1 ∧ b.fits x.2
  | .clo _ _, _ => True
theorem maxLen_eq : maxLen = 9223372036854775807 := rfl

theorem set_fill {α : Type} {xs : List α} {d : α} {i : Nat} (hi : i < xs.length) : (xs.take i ++ List.replicate (xs.length - i) d).set i xs[i] = xs.take (i + 1) ++ List.replicate (xs.length - (i + 1)) d := by
  have e : xs.length - i = (xs.length - (i + 1)) + 1 := by omega
  have hl : (xs.take i).length = i := by simp; omega
  rw [List.take_succ_eq_append_getElem hi, e, List.replicate_succ, List.set_append_right _ _ (by omega), hl, Nat.sub_self, List.set_cons_zero, List.append_assoc]; rfl
section
variable {α : Type} {N : Nat} {xs : List α}
/-- A list copied element by element. -/
theorem copy_eq (d : α) (hl : xs.length < 4000000) (hN : 4000000 ≤ N) :
    fixN N (fun (next : Int × List α × Unit → Option (List α × Unit)) (s : Int × List α × Unit) => bif decide (s.1 < (xs.length : Int)) then obind (atI xs s.1) fun e => bif inI s.1 s.2.1.length then obind (s.2.1[s.1.toNat]?) fun _ => next (IntKind.i64.wrap (s.1 + (1 : Int)), s.2.1.set s.1.toNat e, ()) else none else some s.2) ((0 : Int), List.replicate (xs.length : Int).toNat d, ()) = some (xs, ()) := by
  refine Ret.eq ?_
  refine Ret.up xs.length (fun i s => s = (xs.take i ++ List.replicate (xs.length - i) d, ())) (by omega) (by omega) (by simp) ?_ ?_
  · rintro i s next hi rfl hn
    dsimp only
    refine Ret.must ?_ ?_
    · omega
    have hlen : i < (xs.take i ++ List.replicate (xs.length - i) d).length := by simp; omega
    refine Ret.atN hi (Ret.guardI hlen (Ret.get hlen ?_))
    refine hn _ ?_
    rw [Int.toNat_natCast, set_fill]
  · rintro s next rfl
    dsimp only
    refine Ret.mustN ?_ (Ret.ret ?_)
    · omega
    simp
theorem copyBy_eq (d : α) (g : α → Option (α × Unit)) (hg : ∀ x ∈ xs, g x = some (x, ())) (hl : xs.length < 4000000) (hN : 4000000 ≤ N) :
    fixN N (fun (next : Int × List α × Unit → Option (List α × Unit)) (s : Int × List α × Unit) => bif decide (s.1 < (xs.length : Int)) then obind (atI xs s.1) fun e => obind (g e) fun r => bif inI s.1 s.2.1.length then obind (s.2.1[s.1.toNat]?) fun _ => next (IntKind.i64.wrap (s.1 + (1 : Int)), s.2.1.set s.1.toNat r.1, ()) else none else some s.2) ((0 : Int), List.replicate (xs.length : Int).toNat d, ()) = some (xs, ()) := by
  refine Ret.eq ?_
  refine Ret.up xs.length (fun i s => s = (xs.take i ++ List.replicate (xs.length - i) d, ())) (by omega) (by omega) (by simp) ?_ ?_
  · rintro i s next hi rfl hn
    dsimp only
    refine Ret.must ?_ ?_
    · omega
    have hlen : i < (xs.take i ++ List.replicate (xs.length - i) d).length := by simp; omega
    refine Ret.atN hi (Ret.call (hg _ (List.getElem_mem hi)) (Ret.guardI hlen (Ret.get hlen ?_)))
    refine hn _ ?_
    rw [Int.toNat_natCast, set_fill]
  · rintro s next rfl
    dsimp only
    refine Ret.mustN ?_ (Ret.ret ?_)
    · omega
    simp
theorem copy_guard {β : Type} {n : Nat} {x : Option β} (h : n < 4000000) : (bif (decide (0 ≤ (n : Int)) && (decide ((n : Int) ≤ (lim : Int)) && decide ((n : Int) = (n : Int)))) then x else none) = x := by
  rw [decide_eq_true (by omega), decide_eq_true (by unfold lim; omega), decide_eq_true rfl]; rfl
/-- Two lists compared element by element. -/
theorem eqLoop_eq {ys : List α} (g : α → α → Option (Bool × Unit)) (hg : ∀ x ∈ xs, ∀ y ∈ ys, g x y = some (dec (x = y), ())) (hl : xs.length < 4000000) (hN : 4000000 ≤ N) :
    (bif (!decide ((xs.length : Int) = (ys.length : Int))) then some (false, ()) else
    fixN N (fun (next : Int × Unit → Option (Bool × Unit)) (s : Int × Unit) => bif decide (s.1 < (xs.length : Int)) then obind (atI xs s.1) fun e => obind (atI ys s.1) fun f => obind (g e f) fun r => bif (!r.1) then some (false, ()) else next (IntKind.i64.wrap (s.1 + (1 : Int)), ()) else some (true, ())) ((0 : Int), ())) = some (dec (xs = ys), ()) := by
  refine Ret.tells ?_
  refine Ret.ifnd ?_ ?_ <;> intro h0
  · exact Ret.ret (tells_false.2 fun h => h0 (by rw [h]))
  refine Ret.up xs.length (fun i _ => ∀ j, j < i → ∀ (h : j < xs.length) (h' : j < ys.length), xs[j] = ys[j]) (by omega) (by omega) upto_zero ?_ ?_
  · intro i u next hi hI hn
    have hi' : i < ys.length := by omega
    dsimp only
    refine Ret.must ?_ ?_
    · omega
    refine Ret.atN hi (Ret.atN hi' (Ret.call (hg _ (List.getElem_mem hi) _ (List.getElem_mem hi')) (Ret.ifnc ?_ ?_))) <;> intro h
    · exact Ret.ret (tells_false.2 fun e => h (by subst e; rfl))
    · exact hn () (upto_succ hI fun _ _ => h)
  · intro u next hI
    dsimp only
    refine Ret.mustN ?_ (Ret.ret (tells_true.2 (List.ext_getElem (by omega) fun j h h' => hI j h h h')))
    omega
theorem eqFlat_eq [DecidableEq α] {ys : List α} (hl : xs.length < 4000000) (hN : 4000000 ≤ N) :
    (bif (!decide ((xs.length : Int) = (ys.length : Int))) then some (false, ()) else
    fixN N (fun (next : Int × Unit → Option (Bool × Unit)) (s : Int × Unit) => bif decide (s.1 < (xs.length : Int)) then obind (atI xs s.1) fun e => obind (atI ys s.1) fun f => bif (!decide (e = f)) then some (false, ()) else next (IntKind.i64.wrap (s.1 + (1 : Int)), ()) else some (true, ())) ((0 : Int), ())) = some (dec (xs = ys), ()) := by
  refine Eq.trans ?_ (eqLoop_eq (fun e f => some (dec (e = f), ())) (fun _ _ _ _ => rfl) hl hN)
  simp only [obind_just, decide_dec]
theorem eqBool_eq {xs ys : List Bool} (hl : xs.length < 4000000) (hN : 4000000 ≤ N) :
    (bif (!decide ((xs.length : Int) = (ys.length : Int))) then some (false, ()) else
    fixN N (fun (next : Int × Unit → Option (Bool × Unit)) (s : Int × Unit) => bif decide (s.1 < (xs.length : Int)) then obind (atI xs s.1) fun e => obind (atI ys s.1) fun f => bif (!(e == f)) then some (false, ()) else next (IntKind.i64.wrap (s.1 + (1 : Int)), ()) else some (true, ())) ((0 : Int), ())) = some (dec (xs = ys), ()) := by
  refine Eq.trans ?_ (eqLoop_eq (fun e f => some (dec (e = f), ())) (fun _ _ _ _ => rfl) hl hN)
  have : ∀ e f : Bool, (e == f) = dec (e = f) := fun e f => dec_eq beq_iff_eq
  simp only [obind_just, this]
end
end Go.Proofs.YtbdokiecpmhjmaaGreatDoor
