/- The laws' own helpers: what they return. Printed by my lawgen.py. No program in sight. -/
import Derived.Test.YtdbmhfpphobmpaaGreatDoorPvF1
import Derived.Test.YtdbmhfpphobmpaaGreatDoorPgF
namespace Go.Proofs.YtdbmhfpphobmpaaGreatDoor
set_option linter.unusedSimpArgs false
set_option linter.unusedVariables false
theorem to_Pin {N : Nat} (hN : 4000000 ≤ N) (x : (ByteArray) × (Int) × (Int) × (Bool) × Unit) (hs : (x.1.size < 4000000)) (u : Unit) : F_laws_toPin N (x, u) = some (x, ()) := by
 unfold F_laws_toPin
 rfl
theorem to_PinS {N : Nat} (hN : 4000000 ≤ N) (x : List ((ByteArray) × (Int) × (Int) × (Bool) × Unit)) (hs : x.length < 4000000 ∧ ∀ e0 ∈ x, (e0.1.size < 4000000)) (u : Unit) : F_laws_toPinS N (x, u) = some (x, ()) := by
 unfold F_laws_toPinS
 have hl := hs.1
 refine (copy_guard hl).trans ?_
 exact copyBy_eq _ (fun e => F_laws_toPin N (e, ())) (fun e he => to_Pin hN e (hs.2 e he) ()) hl hN
theorem to_Int64S {N : Nat} (hN : 4000000 ≤ N) (x : List (Int)) (hs : x.length < 4000000) (u : Unit) : F_laws_toInt64S N (x, u) = some (x, ()) := by
 unfold F_laws_toInt64S
 have hl := hs
 refine (copy_guard hl).trans ?_
 exact copy_eq _ hl hN
theorem to_Table {N : Nat} (hN : 4000000 ≤ N) (x : (List (Int)) × (List (Int)) × (List (Int)) × Unit) (hs : (x.1.length < 4000000) ∧ (x.2.1.length < 4000000) ∧ (x.2.2.1.length < 4000000)) (u : Unit) : F_laws_toTable N (x, u) = some (x, ()) := by
 unfold F_laws_toTable
 refine (obind_eq' (to_Int64S hN x.1 (hs.1) ())).trans ?_
 refine (obind_eq' (to_Int64S hN x.2.1 (hs.2.1) ())).trans ?_
 refine (obind_eq' (to_Int64S hN x.2.2.1 (hs.2.2) ())).trans ?_
 rfl
theorem to_TableS {N : Nat} (hN : 4000000 ≤ N) (x : List ((List (Int)) × (List (Int)) × (List (Int)) × Unit)) (hs : x.length < 4000000 ∧ ∀ e0 ∈ x, (e0.1.length < 4000000) ∧ (e0.2.1.length < 4000000) ∧ (e0.2.2.1.length < 4000000)) (u : Unit) : F_laws_toTableS N (x, u) = some (x, ()) := by
 unfold F_laws_toTableS
 have hl := hs.1
 refine (copy_guard hl).trans ?_
 exact copyBy_eq _ (fun e => F_laws_toTable N (e, ())) (fun e he => to_Table hN e (hs.2 e he) ()) hl hN
theorem to_Arc {N : Nat} (hN : 4000000 ≤ N) (x : (Int) × (Int) × (Int) × (Int) × (List ((List (Int)) × (List (Int)) × (List (Int)) × Unit)) × (List ((List (Int)) × (List (Int)) × (List (Int)) × Unit)) × Unit) (hs : (x.2.2.2.2.1.length < 4000000 ∧ ∀ e0 ∈ x.2.2.2.2.1, (e0.1.length < 4000000) ∧ (e0.2.1.length < 4000000) ∧ (e0.2.2.1.length < 4000000)) ∧ (x.2.2.2.2.2.1.length < 4000000 ∧ ∀ e0 ∈ x.2.2.2.2.2.1, (e0.1.length < 4000000) ∧ (e0.2.1.length < 4000000) ∧ (e0.2.2.1.length < 4000000))) (u : Unit) : F_laws_toArc N (x, u) = some (x, ()) := by
 unfold F_laws_toArc
 refine (obind_eq' (to_TableS hN x.2.2.2.2.1 (hs.1) ())).trans ?_
 refine (obind_eq' (to_TableS hN x.2.2.2.2.2.1 (hs.2) ())).trans ?_
 rfl
theorem to_ArcS {N : Nat} (hN : 4000000 ≤ N) (x : List ((Int) × (Int) × (Int) × (Int) × (List ((List (Int)) × (List (Int)) × (List (Int)) × Unit)) × (List ((List (Int)) × (List (Int)) × (List (Int)) × Unit)) × Unit)) (hs : x.length < 4000000 ∧ ∀ e0 ∈ x, (e0.2.2.2.2.1.length < 4000000 ∧ ∀ e1 ∈ e0.2.2.2.2.1, (e1.1.length < 4000000) ∧ (e1.2.1.length < 4000000) ∧ (e1.2.2.1.length < 4000000)) ∧ (e0.2.2.2.2.2.1.length < 4000000 ∧ ∀ e1 ∈ e0.2.2.2.2.2.1, (e1.1.length < 4000000) ∧ (e1.2.1.length < 4000000) ∧ (e1.2.2.1.length < 4000000))) (u : Unit) : F_laws_toArcS N (x, u) = some (x, ()) := by
 unfold F_laws_toArcS
 have hl := hs.1
 refine (copy_guard hl).trans ?_
 exact copyBy_eq _ (fun e => F_laws_toArc N (e, ())) (fun e he => to_Arc hN e (hs.2 e he) ()) hl hN
theorem to_Cell {N : Nat} (hN : 4000000 ≤ N) (x : (ByteArray) × (Int) × (List ((ByteArray) × (Int) × (Int) × (Bool) × Unit)) × (List ((Int) × (Int) × (Int) × (Int) × (List ((List (Int)) × (List (Int)) × (List (Int)) × Unit)) × (List ((List (Int)) × (List (Int)) × (List (Int)) × Unit)) × Unit)) × (List (Int)) × (Int) × (Int) × Unit) (hs : (x.1.size < 4000000) ∧ (x.2.2.1.length < 4000000 ∧ ∀ e0 ∈ x.2.2.1, (e0.1.size < 4000000)) ∧ (x.2.2.2.1.length < 4000000 ∧ ∀ e0 ∈ x.2.2.2.1, (e0.2.2.2.2.1.length < 4000000 ∧ ∀ e1 ∈ e0.2.2.2.2.1, (e1.1.length < 4000000) ∧ (e1.2.1.length < 4000000) ∧ (e1.2.2.1.length < 4000000)) ∧ (e0.2.2.2.2.2.1.length < 4000000 ∧ ∀ e1 ∈ e0.2.2.2.2.2.1, (e1.1.length < 4000000) ∧ (e1.2.1.length < 4000000) ∧ (e1.2.2.1.length < 4000000))) ∧ (x.2.2.2.2.1.length < 4000000)) (u : Unit) : F_laws_toCell N (x, u) = some (x, ()) := by
 unfold F_laws_toCell
 refine (obind_eq' (to_PinS hN x.2.2.1 (hs.2.1) ())).trans ?_
 refine (obind_eq' (to_ArcS hN x.2.2.2.1 (hs.2.2.1) ())).trans ?_
 refine (obind_eq' (to_Int64S hN x.2.2.2.2.1 (hs.2.2.2) ())).trans ?_
 rfl
theorem to_CellS {N : Nat} (hN : 4000000 ≤ N) (x : List ((ByteArray) × (Int) × (List ((ByteArray) × (Int) × (Int) × (Bool) × Unit)) × (List ((Int) × (Int) × (Int) × (Int) × (List ((List (Int)) × (List (Int)) × (List (Int)) × Unit)) × (List ((List (Int)) × (List (Int)) × (List (Int)) × Unit)) × Unit)) × (List (Int)) × (Int) × (Int) × Unit)) (hs : x.length < 4000000 ∧ ∀ e0 ∈ x, (e0.1.size < 4000000) ∧ (e0.2.2.1.length < 4000000 ∧ ∀ e1 ∈ e0.2.2.1, (e1.1.size < 4000000)) ∧ (e0.2.2.2.1.length < 4000000 ∧ ∀ e1 ∈ e0.2.2.2.1, (e1.2.2.2.2.1.length < 4000000 ∧ ∀ e2 ∈ e1.2.2.2.2.1, (e2.1.length < 4000000) ∧ (e2.2.1.length < 4000000) ∧ (e2.2.2.1.length < 4000000)) ∧ (e1.2.2.2.2.2.1.length < 4000000 ∧ ∀ e2 ∈ e1.2.2.2.2.2.1, (e2.1.length < 4000000) ∧ (e2.2.1.length < 4000000) ∧ (e2.2.2.1.length < 4000000))) ∧ (e0.2.2.2.2.1.length < 4000000)) (u : Unit) : F_laws_toCellS N (x, u) = some (x, ()) := by
 unfold F_laws_toCellS
 have hl := hs.1
 refine (copy_guard hl).trans ?_
 exact copyBy_eq _ (fun e => F_laws_toCell N (e, ())) (fun e he => to_Cell hN e (hs.2 e he) ()) hl hN
theorem to_Library {N : Nat} (hN : 4000000 ≤ N) (x : (List ((ByteArray) × (Int) × (List ((ByteArray) × (Int) × (Int) × (Bool) × Unit)) × (List ((Int) × (Int) × (Int) × (Int) × (List ((List (Int)) × (List (Int)) × (List (Int)) × Unit)) × (List ((List (Int)) × (List (Int)) × (List (Int)) × Unit)) × Unit)) × (List (Int)) × (Int) × (Int) × Unit)) × Unit) (hs : (x.1.length < 4000000 ∧ ∀ e0 ∈ x.1, (e0.1.size < 4000000) ∧ (e0.2.2.1.length < 4000000 ∧ ∀ e1 ∈ e0.2.2.1, (e1.1.size < 4000000)) ∧ (e0.2.2.2.1.length < 4000000 ∧ ∀ e1 ∈ e0.2.2.2.1, (e1.2.2.2.2.1.length < 4000000 ∧ ∀ e2 ∈ e1.2.2.2.2.1, (e2.1.length < 4000000) ∧ (e2.2.1.length < 4000000) ∧ (e2.2.2.1.length < 4000000)) ∧ (e1.2.2.2.2.2.1.length < 4000000 ∧ ∀ e2 ∈ e1.2.2.2.2.2.1, (e2.1.length < 4000000) ∧ (e2.2.1.length < 4000000) ∧ (e2.2.2.1.length < 4000000))) ∧ (e0.2.2.2.2.1.length < 4000000))) (u : Unit) : F_laws_toLibrary N (x, u) = some (x, ()) := by
 unfold F_laws_toLibrary
 refine (obind_eq' (to_CellS hN x.1 (hs) ())).trans ?_
 rfl
theorem to_Instance {N : Nat} (hN : 4000000 ≤ N) (x : (ByteArray) × (Int) × (List (Int)) × Unit) (hs : (x.1.size < 4000000) ∧ (x.2.2.1.length < 4000000)) (u : Unit) : F_laws_toInstance N (x, u) = some (x, ()) := by
 unfold F_laws_toInstance
 refine (obind_eq' (to_Int64S hN x.2.2.1 (hs.2) ())).trans ?_
 rfl
theorem to_InstanceS {N : Nat} (hN : 4000000 ≤ N) (x : List ((ByteArray) × (Int) × (List (Int)) × Unit)) (hs : x.length < 4000000 ∧ ∀ e0 ∈ x, (e0.1.size < 4000000) ∧ (e0.2.2.1.length < 4000000)) (u : Unit) : F_laws_toInstanceS N (x, u) = some (x, ()) := by
 unfold F_laws_toInstanceS
 have hl := hs.1
 refine (copy_guard hl).trans ?_
 exact copyBy_eq _ (fun e => F_laws_toInstance N (e, ())) (fun e he => to_Instance hN e (hs.2 e he) ()) hl hN
theorem to_StringS {N : Nat} (hN : 4000000 ≤ N) (x : List (ByteArray)) (hs : x.length < 4000000 ∧ ∀ e0 ∈ x, e0.size < 4000000) (u : Unit) : F_laws_toStringS N (x, u) = some (x, ()) := by
 unfold F_laws_toStringS
 have hl := hs.1
 refine (copy_guard hl).trans ?_
 exact copy_eq _ hl hN
theorem to_Port {N : Nat} (hN : 4000000 ≤ N) (x : (ByteArray) × (Int) × (Int) × Unit) (hs : (x.1.size < 4000000)) (u : Unit) : F_laws_toPort N (x, u) = some (x, ()) := by
 unfold F_laws_toPort
 rfl
theorem to_PortS {N : Nat} (hN : 4000000 ≤ N) (x : List ((ByteArray) × (Int) × (Int) × Unit)) (hs : x.length < 4000000 ∧ ∀ e0 ∈ x, (e0.1.size < 4000000)) (u : Unit) : F_laws_toPortS N (x, u) = some (x, ()) := by
 unfold F_laws_toPortS
 have hl := hs.1
 refine (copy_guard hl).trans ?_
 exact copyBy_eq _ (fun e => F_laws_toPort N (e, ())) (fun e he => to_Port hN e (hs.2 e he) ()) hl hN
theorem to_Design {N : Nat} (hN : 4000000 ≤ N) (x : (List ((ByteArray) × (Int) × (List (Int)) × Unit)) × (List (ByteArray)) × (List ((ByteArray) × (Int) × (Int) × Unit)) × Unit) (hs : (x.1.length < 4000000 ∧ ∀ e0 ∈ x.1, (e0.1.size < 4000000) ∧ (e0.2.2.1.length < 4000000)) ∧ (x.2.1.length < 4000000 ∧ ∀ e0 ∈ x.2.1, e0.size < 4000000) ∧ (x.2.2.1.length < 4000000 ∧ ∀ e0 ∈ x.2.2.1, (e0.1.size < 4000000))) (u : Unit) : F_laws_toDesign N (x, u) = some (x, ()) := by
 unfold F_laws_toDesign
 refine (obind_eq' (to_InstanceS hN x.1 (hs.1) ())).trans ?_
 refine (obind_eq' (to_StringS hN x.2.1 (hs.2.1) ())).trans ?_
 refine (obind_eq' (to_PortS hN x.2.2.1 (hs.2.2) ())).trans ?_
 rfl
theorem to_Wire {N : Nat} (hN : 4000000 ≤ N) (x : (List (Int)) × (List (Int)) × (List (Int)) × (List (Int)) × Unit) (hs : (x.1.length < 4000000) ∧ (x.2.1.length < 4000000) ∧ (x.2.2.1.length < 4000000) ∧ (x.2.2.2.1.length < 4000000)) (u : Unit) : F_laws_toWire N (x, u) = some (x, ()) := by
 unfold F_laws_toWire
 refine (obind_eq' (to_Int64S hN x.1 (hs.1) ())).trans ?_
 refine (obind_eq' (to_Int64S hN x.2.1 (hs.2.1) ())).trans ?_
 refine (obind_eq' (to_Int64S hN x.2.2.1 (hs.2.2.1) ())).trans ?_
 refine (obind_eq' (to_Int64S hN x.2.2.2.1 (hs.2.2.2) ())).trans ?_
 rfl
theorem to_WireS {N : Nat} (hN : 4000000 ≤ N) (x : List ((List (Int)) × (List (Int)) × (List (Int)) × (List (Int)) × Unit)) (hs : x.length < 4000000 ∧ ∀ e0 ∈ x, (e0.1.length < 4000000) ∧ (e0.2.1.length < 4000000) ∧ (e0.2.2.1.length < 4000000) ∧ (e0.2.2.2.1.length < 4000000)) (u : Unit) : F_laws_toWireS N (x, u) = some (x, ()) := by
 unfold F_laws_toWireS
 have hl := hs.1
 refine (copy_guard hl).trans ?_
 exact copyBy_eq _ (fun e => F_laws_toWire N (e, ())) (fun e he => to_Wire hN e (hs.2 e he) ()) hl hN
theorem to_Block {N : Nat} (hN : 4000000 ≤ N) (x : ((List ((ByteArray) × (Int) × (List ((ByteArray) × (Int) × (Int) × (Bool) × Unit)) × (List ((Int) × (Int) × (Int) × (Int) × (List ((List (Int)) × (List (Int)) × (List (Int)) × Unit)) × (List ((List (Int)) × (List (Int)) × (List (Int)) × Unit)) × Unit)) × (List (Int)) × (Int) × (Int) × Unit)) × Unit) × ((List ((ByteArray) × (Int) × (List (Int)) × Unit)) × (List (ByteArray)) × (List ((ByteArray) × (Int) × (Int) × Unit)) × Unit) × (List ((List (Int)) × (List (Int)) × (List (Int)) × (List (Int)) × Unit)) × Unit) (hs : ((x.1.1.length < 4000000 ∧ ∀ e0 ∈ x.1.1, (e0.1.size < 4000000) ∧ (e0.2.2.1.length < 4000000 ∧ ∀ e1 ∈ e0.2.2.1, (e1.1.size < 4000000)) ∧ (e0.2.2.2.1.length < 4000000 ∧ ∀ e1 ∈ e0.2.2.2.1, (e1.2.2.2.2.1.length < 4000000 ∧ ∀ e2 ∈ e1.2.2.2.2.1, (e2.1.length < 4000000) ∧ (e2.2.1.length < 4000000) ∧ (e2.2.2.1.length < 4000000)) ∧ (e1.2.2.2.2.2.1.length < 4000000 ∧ ∀ e2 ∈ e1.2.2.2.2.2.1, (e2.1.length < 4000000) ∧ (e2.2.1.length < 4000000) ∧ (e2.2.2.1.length < 4000000))) ∧ (e0.2.2.2.2.1.length < 4000000))) ∧ ((x.2.1.1.length < 4000000 ∧ ∀ e0 ∈ x.2.1.1, (e0.1.size < 4000000) ∧ (e0.2.2.1.length < 4000000)) ∧ (x.2.1.2.1.length < 4000000 ∧ ∀ e0 ∈ x.2.1.2.1, e0.size < 4000000) ∧ (x.2.1.2.2.1.length < 4000000 ∧ ∀ e0 ∈ x.2.1.2.2.1, (e0.1.size < 4000000))) ∧ (x.2.2.1.length < 4000000 ∧ ∀ e0 ∈ x.2.2.1, (e0.1.length < 4000000) ∧ (e0.2.1.length < 4000000) ∧ (e0.2.2.1.length < 4000000) ∧ (e0.2.2.2.1.length < 4000000))) (u : Unit) : F_laws_toBlock N (x, u) = some (x, ()) := by
 unfold F_laws_toBlock
 refine (obind_eq' (to_Library hN x.1 (hs.1) ())).trans ?_
 refine (obind_eq' (to_Design hN x.2.1 (hs.2.1) ())).trans ?_
 refine (obind_eq' (to_WireS hN x.2.2.1 (hs.2.2) ())).trans ?_
 rfl
theorem eq_Int64S {N : Nat} (hN : 4000000 ≤ N) (x y : List (Int)) (hs : x.length < 4000000) (u : Unit) : F_laws_eqInt64S N (x, y, u) = some (dec (x = y), ()) := by
 unfold F_laws_eqInt64S
 exact eqFlat_eq (hs) hN
theorem eq_Pin {N : Nat} (hN : 4000000 ≤ N) (x y : (ByteArray) × (Int) × (Int) × (Bool) × Unit) (hs : (x.1.size < 4000000)) (u : Unit) : F_laws_eqPin N (x, y, u) = some (dec (x = y), ()) := by
 refine Ret.tells ?_
 unfold F_laws_eqPin
 obtain ⟨x0, x1, x2, x3, ux⟩ := x
 obtain ⟨y0, y1, y2, y3, uy⟩ := y
 dsimp only
 refine Ret.ifnd ?_ ?_ <;> intro g0
 ·exact Ret.ret (tells_false.2 (fun h => g0 (congrArg (fun z => z.1) h)))
 refine Ret.ifnd ?_ ?_ <;> intro g1
 ·exact Ret.ret (tells_false.2 (fun h => g1 (congrArg (fun z => z.2.1) h)))
 refine Ret.ifnd ?_ ?_ <;> intro g2
 ·exact Ret.ret (tells_false.2 (fun h => g2 (congrArg (fun z => z.2.2.1) h)))
 refine Ret.bif ?_ ?_ <;> intro g3
 ·exact Ret.ret (tells_false.2 fun h => by have e := congrArg (fun z => z.2.2.2.1) h; dsimp only at e; subst e; simp at g3)
 have g3 : x3 = y3 := by simpa using g3
 subst g0 g1 g2 g3
 exact Ret.ret (tells_true.2 rfl)
theorem eq_PinS {N : Nat} (hN : 4000000 ≤ N) (x y : List ((ByteArray) × (Int) × (Int) × (Bool) × Unit)) (hs : x.length < 4000000 ∧ ∀ e0 ∈ x, (e0.1.size < 4000000)) (u : Unit) : F_laws_eqPinS N (x, y, u) = some (dec (x = y), ()) := by
 unfold F_laws_eqPinS
 exact eqLoop_eq (fun e f => F_laws_eqPin N (e, f, ())) (fun e he f _ => eq_Pin hN e f (hs.2 e he) ()) (hs.1) hN
theorem eq_Table {N : Nat} (hN : 4000000 ≤ N) (x y : (List (Int)) × (List (Int)) × (List (Int)) × Unit) (hs : (x.1.length < 4000000) ∧ (x.2.1.length < 4000000) ∧ (x.2.2.1.length < 4000000)) (u : Unit) : F_laws_eqTable N (x, y, u) = some (dec (x = y), ()) := by
 refine Ret.tells ?_
 unfold F_laws_eqTable
 obtain ⟨x0, x1, x2, ux⟩ := x
 obtain ⟨y0, y1, y2, uy⟩ := y
 dsimp only
 refine Ret.call (eq_Int64S hN x0 y0 (hs.1) ()) (Ret.ifnc ?_ ?_) <;> intro g0
 ·exact Ret.ret (tells_false.2 (fun h => g0 (congrArg (fun z => z.1) h)))
 refine Ret.call (eq_Int64S hN x1 y1 (hs.2.1) ()) (Ret.ifnc ?_ ?_) <;> intro g1
 ·exact Ret.ret (tells_false.2 (fun h => g1 (congrArg (fun z => z.2.1) h)))
 refine Ret.call (eq_Int64S hN x2 y2 (hs.2.2) ()) (Ret.ifnc ?_ ?_) <;> intro g2
 ·exact Ret.ret (tells_false.2 (fun h => g2 (congrArg (fun z => z.2.2.1) h)))
 subst g0 g1 g2
 exact Ret.ret (tells_true.2 rfl)
theorem eq_TableS {N : Nat} (hN : 4000000 ≤ N) (x y : List ((List (Int)) × (List (Int)) × (List (Int)) × Unit)) (hs : x.length < 4000000 ∧ ∀ e0 ∈ x, (e0.1.length < 4000000) ∧ (e0.2.1.length < 4000000) ∧ (e0.2.2.1.length < 4000000)) (u : Unit) : F_laws_eqTableS N (x, y, u) = some (dec (x = y), ()) := by
 unfold F_laws_eqTableS
 exact eqLoop_eq (fun e f => F_laws_eqTable N (e, f, ())) (fun e he f _ => eq_Table hN e f (hs.2 e he) ()) (hs.1) hN
theorem eq_Arc {N : Nat} (hN : 4000000 ≤ N) (x y : (Int) × (Int) × (Int) × (Int) × (List ((List (Int)) × (List (Int)) × (List (Int)) × Unit)) × (List ((List (Int)) × (List (Int)) × (List (Int)) × Unit)) × Unit) (hs : (x.2.2.2.2.1.length < 4000000 ∧ ∀ e0 ∈ x.2.2.2.2.1, (e0.1.length < 4000000) ∧ (e0.2.1.length < 4000000) ∧ (e0.2.2.1.length < 4000000)) ∧ (x.2.2.2.2.2.1.length < 4000000 ∧ ∀ e0 ∈ x.2.2.2.2.2.1, (e0.1.length < 4000000) ∧ (e0.2.1.length < 4000000) ∧ (e0.2.2.1.length < 4000000))) (u : Unit) : F_laws_eqArc N (x, y, u) = some (dec (x = y), ()) := by
 refine Ret.tells ?_
 unfold F_laws_eqArc
 obtain ⟨x0, x1, x2, x3, x4, x5, ux⟩ := x
 obtain ⟨y0, y1, y2, y3, y4, y5, uy⟩ := y
 dsimp only
 refine Ret.ifnd ?_ ?_ <;> intro g0
 ·exact Ret.ret (tells_false.2 (fun h => g0 (congrArg (fun z => z.1) h)))
 refine Ret.ifnd ?_ ?_ <;> intro g1
 ·exact Ret.ret (tells_false.2 (fun h => g1 (congrArg (fun z => z.2.1) h)))
 refine Ret.ifnd ?_ ?_ <;> intro g2
 ·exact Ret.ret (tells_false.2 (fun h => g2 (congrArg (fun z => z.2.2.1) h)))
 refine Ret.ifnd ?_ ?_ <;> intro g3
 ·exact Ret.ret (tells_false.2 (fun h => g3 (congrArg (fun z => z.2.2.2.1) h)))
 refine Ret.call (eq_TableS hN x4 y4 (hs.1) ()) (Ret.ifnc ?_ ?_) <;> intro g4
 ·exact Ret.ret (tells_false.2 (fun h => g4 (congrArg (fun z => z.2.2.2.2.1) h)))
 refine Ret.call (eq_TableS hN x5 y5 (hs.2) ()) (Ret.ifnc ?_ ?_) <;> intro g5
 ·exact Ret.ret (tells_false.2 (fun h => g5 (congrArg (fun z => z.2.2.2.2.2.1) h)))
 subst g0 g1 g2 g3 g4 g5
 exact Ret.ret (tells_true.2 rfl)
theorem eq_ArcS {N : Nat} (hN : 4000000 ≤ N) (x y : List ((Int) × (Int) × (Int) × (Int) × (List ((List (Int)) × (List (Int)) × (List (Int)) × Unit)) × (List ((List (Int)) × (List (Int)) × (List (Int)) × Unit)) × Unit)) (hs : x.length < 4000000 ∧ ∀ e0 ∈ x, (e0.2.2.2.2.1.length < 4000000 ∧ ∀ e1 ∈ e0.2.2.2.2.1, (e1.1.length < 4000000) ∧ (e1.2.1.length < 4000000) ∧ (e1.2.2.1.length < 4000000)) ∧ (e0.2.2.2.2.2.1.length < 4000000 ∧ ∀ e1 ∈ e0.2.2.2.2.2.1, (e1.1.length < 4000000) ∧ (e1.2.1.length < 4000000) ∧ (e1.2.2.1.length < 4000000))) (u : Unit) : F_laws_eqArcS N (x, y, u) = some (dec (x = y), ()) := by
 unfold F_laws_eqArcS
 exact eqLoop_eq (fun e f => F_laws_eqArc N (e, f, ())) (fun e he f _ => eq_Arc hN e f (hs.2 e he) ()) (hs.1) hN
theorem eq_Cell {N : Nat} (hN : 4000000 ≤ N) (x y : (ByteArray) × (Int) × (List ((ByteArray) × (Int) × (Int) × (Bool) × Unit)) × (List ((Int) × (Int) × (Int) × (Int) × (List ((List (Int)) × (List (Int)) × (List (Int)) × Unit)) × (List ((List (Int)) × (List (Int)) × (List (Int)) × Unit)) × Unit)) × (List (Int)) × (Int) × (Int) × Unit) (hs : (x.1.size < 4000000) ∧ (x.2.2.1.length < 4000000 ∧ ∀ e0 ∈ x.2.2.1, (e0.1.size < 4000000)) ∧ (x.2.2.2.1.length < 4000000 ∧ ∀ e0 ∈ x.2.2.2.1, (e0.2.2.2.2.1.length < 4000000 ∧ ∀ e1 ∈ e0.2.2.2.2.1, (e1.1.length < 4000000) ∧ (e1.2.1.length < 4000000) ∧ (e1.2.2.1.length < 4000000)) ∧ (e0.2.2.2.2.2.1.length < 4000000 ∧ ∀ e1 ∈ e0.2.2.2.2.2.1, (e1.1.length < 4000000) ∧ (e1.2.1.length < 4000000) ∧ (e1.2.2.1.length < 4000000))) ∧ (x.2.2.2.2.1.length < 4000000)) (u : Unit) : F_laws_eqCell N (x, y, u) = some (dec (x = y), ()) := by
 refine Ret.tells ?_
 unfold F_laws_eqCell
 obtain ⟨x0, x1, x2, x3, x4, x5, x6, ux⟩ := x
 obtain ⟨y0, y1, y2, y3, y4, y5, y6, uy⟩ := y
 dsimp only
 refine Ret.ifnd ?_ ?_ <;> intro g0
 ·exact Ret.ret (tells_false.2 (fun h => g0 (congrArg (fun z => z.1) h)))
 refine Ret.ifnd ?_ ?_ <;> intro g1
 ·exact Ret.ret (tells_false.2 (fun h => g1 (congrArg (fun z => z.2.1) h)))
 refine Ret.call (eq_PinS hN x2 y2 (hs.2.1) ()) (Ret.ifnc ?_ ?_) <;> intro g2
 ·exact Ret.ret (tells_false.2 (fun h => g2 (congrArg (fun z => z.2.2.1) h)))
 refine Ret.call (eq_ArcS hN x3 y3 (hs.2.2.1) ()) (Ret.ifnc ?_ ?_) <;> intro g3
 ·exact Ret.ret (tells_false.2 (fun h => g3 (congrArg (fun z => z.2.2.2.1) h)))
 refine Ret.call (eq_Int64S hN x4 y4 (hs.2.2.2) ()) (Ret.ifnc ?_ ?_) <;> intro g4
 ·exact Ret.ret (tells_false.2 (fun h => g4 (congrArg (fun z => z.2.2.2.2.1) h)))
 refine Ret.ifnd ?_ ?_ <;> intro g5
 ·exact Ret.ret (tells_false.2 (fun h => g5 (congrArg (fun z => z.2.2.2.2.2.1) h)))
 refine Ret.ifnd ?_ ?_ <;> intro g6
 ·exact Ret.ret (tells_false.2 (fun h => g6 (congrArg (fun z => z.2.2.2.2.2.2.1) h)))
 subst g0 g1 g2 g3 g4 g5 g6
 exact Ret.ret (tells_true.2 rfl)
theorem eq_CellS {N : Nat} (hN : 4000000 ≤ N) (x y : List ((ByteArray) × (Int) × (List ((ByteArray) × (Int) × (Int) × (Bool) × Unit)) × (List ((Int) × (Int) × (Int) × (Int) × (List ((List (Int)) × (List (Int)) × (List (Int)) × Unit)) × (List ((List (Int)) × (List (Int)) × (List (Int)) × Unit)) × Unit)) × (List (Int)) × (Int) × (Int) × Unit)) (hs : x.length < 4000000 ∧ ∀ e0 ∈ x, (e0.1.size < 4000000) ∧ (e0.2.2.1.length < 4000000 ∧ ∀ e1 ∈ e0.2.2.1, (e1.1.size < 4000000)) ∧ (e0.2.2.2.1.length < 4000000 ∧ ∀ e1 ∈ e0.2.2.2.1, (e1.2.2.2.2.1.length < 4000000 ∧ ∀ e2 ∈ e1.2.2.2.2.1, (e2.1.length < 4000000) ∧ (e2.2.1.length < 4000000) ∧ (e2.2.2.1.length < 4000000)) ∧ (e1.2.2.2.2.2.1.length < 4000000 ∧ ∀ e2 ∈ e1.2.2.2.2.2.1, (e2.1.length < 4000000) ∧ (e2.2.1.length < 4000000) ∧ (e2.2.2.1.length < 4000000))) ∧ (e0.2.2.2.2.1.length < 4000000)) (u : Unit) : F_laws_eqCellS N (x, y, u) = some (dec (x = y), ()) := by
 unfold F_laws_eqCellS
 exact eqLoop_eq (fun e f => F_laws_eqCell N (e, f, ())) (fun e he f _ => eq_Cell hN e f (hs.2 e he) ()) (hs.1) hN
theorem eq_Library {N : Nat} (hN : 4000000 ≤ N) (x y : (List ((ByteArray) × (Int) × (List ((ByteArray) × (Int) × (Int) × (Bool) × Unit)) × (List ((Int) × (Int) × (Int) × (Int) × (List ((List (Int)) × (List (Int)) × (List (Int)) × Unit)) × (List ((List (Int)) × (List (Int)) × (List (Int)) × Unit)) × Unit)) × (List (Int)) × (Int) × (Int) × Unit)) × Unit) (hs : (x.1.length < 4000000 ∧ ∀ e0 ∈ x.1, (e0.1.size < 4000000) ∧ (e0.2.2.1.length < 4000000 ∧ ∀ e1 ∈ e0.2.2.1, (e1.1.size < 4000000)) ∧ (e0.2.2.2.1.length < 4000000 ∧ ∀ e1 ∈ e0.2.2.2.1, (e1.2.2.2.2.1.length < 4000000 ∧ ∀ e2 ∈ e1.2.2.2.2.1, (e2.1.length < 4000000) ∧ (e2.2.1.length < 4000000) ∧ (e2.2.2.1.length < 4000000)) ∧ (e1.2.2.2.2.2.1.length < 4000000 ∧ ∀ e2 ∈ e1.2.2.2.2.2.1, (e2.1.length < 4000000) ∧ (e2.2.1.length < 4000000) ∧ (e2.2.2.1.length < 4000000))) ∧ (e0.2.2.2.2.1.length < 4000000))) (u : Unit) : F_laws_eqLibrary N (x, y, u) = some (dec (x = y), ()) := by
 refine Ret.tells ?_
 unfold F_laws_eqLibrary
 obtain ⟨x0, ux⟩ := x
 obtain ⟨y0, uy⟩ := y
 dsimp only
 refine Ret.call (eq_CellS hN x0 y0 (hs) ()) (Ret.ifnc ?_ ?_) <;> intro g0
 ·exact Ret.ret (tells_false.2 (fun h => g0 (congrArg (fun z => z.1) h)))
 subst g0
 exact Ret.ret (tells_true.2 rfl)
theorem eq_Instance {N : Nat} (hN : 4000000 ≤ N) (x y : (ByteArray) × (Int) × (List (Int)) × Unit) (hs : (x.1.size < 4000000) ∧ (x.2.2.1.length < 4000000)) (u : Unit) : F_laws_eqInstance N (x, y, u) = some (dec (x = y), ()) := by
 refine Ret.tells ?_
 unfold F_laws_eqInstance
 obtain ⟨x0, x1, x2, ux⟩ := x
 obtain ⟨y0, y1, y2, uy⟩ := y
 dsimp only
 refine Ret.ifnd ?_ ?_ <;> intro g0
 ·exact Ret.ret (tells_false.2 (fun h => g0 (congrArg (fun z => z.1) h)))
 refine Ret.ifnd ?_ ?_ <;> intro g1
 ·exact Ret.ret (tells_false.2 (fun h => g1 (congrArg (fun z => z.2.1) h)))
 refine Ret.call (eq_Int64S hN x2 y2 (hs.2) ()) (Ret.ifnc ?_ ?_) <;> intro g2
 ·exact Ret.ret (tells_false.2 (fun h => g2 (congrArg (fun z => z.2.2.1) h)))
 subst g0 g1 g2
 exact Ret.ret (tells_true.2 rfl)
theorem eq_InstanceS {N : Nat} (hN : 4000000 ≤ N) (x y : List ((ByteArray) × (Int) × (List (Int)) × Unit)) (hs : x.length < 4000000 ∧ ∀ e0 ∈ x, (e0.1.size < 4000000) ∧ (e0.2.2.1.length < 4000000)) (u : Unit) : F_laws_eqInstanceS N (x, y, u) = some (dec (x = y), ()) := by
 unfold F_laws_eqInstanceS
 exact eqLoop_eq (fun e f => F_laws_eqInstance N (e, f, ())) (fun e he f _ => eq_Instance hN e f (hs.2 e he) ()) (hs.1) hN
theorem eq_StringS {N : Nat} (hN : 4000000 ≤ N) (x y : List (ByteArray)) (hs : x.length < 4000000 ∧ ∀ e0 ∈ x, e0.size < 4000000) (u : Unit) : F_laws_eqStringS N (x, y, u) = some (dec (x = y), ()) := by
 unfold F_laws_eqStringS
 exact eqFlat_eq (hs.1) hN
theorem eq_Port {N : Nat} (hN : 4000000 ≤ N) (x y : (ByteArray) × (Int) × (Int) × Unit) (hs : (x.1.size < 4000000)) (u : Unit) : F_laws_eqPort N (x, y, u) = some (dec (x = y), ()) := by
 refine Ret.tells ?_
 unfold F_laws_eqPort
 obtain ⟨x0, x1, x2, ux⟩ := x
 obtain ⟨y0, y1, y2, uy⟩ := y
 dsimp only
 refine Ret.ifnd ?_ ?_ <;> intro g0
 ·exact Ret.ret (tells_false.2 (fun h => g0 (congrArg (fun z => z.1) h)))
 refine Ret.ifnd ?_ ?_ <;> intro g1
 ·exact Ret.ret (tells_false.2 (fun h => g1 (congrArg (fun z => z.2.1) h)))
 refine Ret.ifnd ?_ ?_ <;> intro g2
 ·exact Ret.ret (tells_false.2 (fun h => g2 (congrArg (fun z => z.2.2.1) h)))
 subst g0 g1 g2
 exact Ret.ret (tells_true.2 rfl)
theorem eq_PortS {N : Nat} (hN : 4000000 ≤ N) (x y : List ((ByteArray) × (Int) × (Int) × Unit)) (hs : x.length < 4000000 ∧ ∀ e0 ∈ x, (e0.1.size < 4000000)) (u : Unit) : F_laws_eqPortS N (x, y, u) = some (dec (x = y), ()) := by
 unfold F_laws_eqPortS
 exact eqLoop_eq (fun e f => F_laws_eqPort N (e, f, ())) (fun e he f _ => eq_Port hN e f (hs.2 e he) ()) (hs.1) hN
theorem eq_Design {N : Nat} (hN : 4000000 ≤ N) (x y : (List ((ByteArray) × (Int) × (List (Int)) × Unit)) × (List (ByteArray)) × (List ((ByteArray) × (Int) × (Int) × Unit)) × Unit) (hs : (x.1.length < 4000000 ∧ ∀ e0 ∈ x.1, (e0.1.size < 4000000) ∧ (e0.2.2.1.length < 4000000)) ∧ (x.2.1.length < 4000000 ∧ ∀ e0 ∈ x.2.1, e0.size < 4000000) ∧ (x.2.2.1.length < 4000000 ∧ ∀ e0 ∈ x.2.2.1, (e0.1.size < 4000000))) (u : Unit) : F_laws_eqDesign N (x, y, u) = some (dec (x = y), ()) := by
 refine Ret.tells ?_
 unfold F_laws_eqDesign
 obtain ⟨x0, x1, x2, ux⟩ := x
 obtain ⟨y0, y1, y2, uy⟩ := y
 dsimp only
 refine Ret.call (eq_InstanceS hN x0 y0 (hs.1) ()) (Ret.ifnc ?_ ?_) <;> intro g0
 ·exact Ret.ret (tells_false.2 (fun h => g0 (congrArg (fun z => z.1) h)))
 refine Ret.call (eq_StringS hN x1 y1 (hs.2.1) ()) (Ret.ifnc ?_ ?_) <;> intro g1
 ·exact Ret.ret (tells_false.2 (fun h => g1 (congrArg (fun z => z.2.1) h)))
 refine Ret.call (eq_PortS hN x2 y2 (hs.2.2) ()) (Ret.ifnc ?_ ?_) <;> intro g2
 ·exact Ret.ret (tells_false.2 (fun h => g2 (congrArg (fun z => z.2.2.1) h)))
 subst g0 g1 g2
 exact Ret.ret (tells_true.2 rfl)
theorem eq_Wire {N : Nat} (hN : 4000000 ≤ N) (x y : (List (Int)) × (List (Int)) × (List (Int)) × (List (Int)) × Unit) (hs : (x.1.length < 4000000) ∧ (x.2.1.length < 4000000) ∧ (x.2.2.1.length < 4000000) ∧ (x.2.2.2.1.length < 4000000)) (u : Unit) : F_laws_eqWire N (x, y, u) = some (dec (x = y), ()) := by
 refine Ret.tells ?_
 unfold F_laws_eqWire
 obtain ⟨x0, x1, x2, x3, ux⟩ := x
 obtain ⟨y0, y1, y2, y3, uy⟩ := y
 dsimp only
 refine Ret.call (eq_Int64S hN x0 y0 (hs.1) ()) (Ret.ifnc ?_ ?_) <;> intro g0
 ·exact Ret.ret (tells_false.2 (fun h => g0 (congrArg (fun z => z.1) h)))
 refine Ret.call (eq_Int64S hN x1 y1 (hs.2.1) ()) (Ret.ifnc ?_ ?_) <;> intro g1
 ·exact Ret.ret (tells_false.2 (fun h => g1 (congrArg (fun z => z.2.1) h)))
 refine Ret.call (eq_Int64S hN x2 y2 (hs.2.2.1) ()) (Ret.ifnc ?_ ?_) <;> intro g2
 ·exact Ret.ret (tells_false.2 (fun h => g2 (congrArg (fun z => z.2.2.1) h)))
 refine Ret.call (eq_Int64S hN x3 y3 (hs.2.2.2) ()) (Ret.ifnc ?_ ?_) <;> intro g3
 ·exact Ret.ret (tells_false.2 (fun h => g3 (congrArg (fun z => z.2.2.2.1) h)))
 subst g0 g1 g2 g3
 exact Ret.ret (tells_true.2 rfl)
theorem eq_WireS {N : Nat} (hN : 4000000 ≤ N) (x y : List ((List (Int)) × (List (Int)) × (List (Int)) × (List (Int)) × Unit)) (hs : x.length < 4000000 ∧ ∀ e0 ∈ x, (e0.1.length < 4000000) ∧ (e0.2.1.length < 4000000) ∧ (e0.2.2.1.length < 4000000) ∧ (e0.2.2.2.1.length < 4000000)) (u : Unit) : F_laws_eqWireS N (x, y, u) = some (dec (x = y), ()) := by
 unfold F_laws_eqWireS
 exact eqLoop_eq (fun e f => F_laws_eqWire N (e, f, ())) (fun e he f _ => eq_Wire hN e f (hs.2 e he) ()) (hs.1) hN
theorem eq_Block {N : Nat} (hN : 4000000 ≤ N) (x y : ((List ((ByteArray) × (Int) × (List ((ByteArray) × (Int) × (Int) × (Bool) × Unit)) × (List ((Int) × (Int) × (Int) × (Int) × (List ((List (Int)) × (List (Int)) × (List (Int)) × Unit)) × (List ((List (Int)) × (List (Int)) × (List (Int)) × Unit)) × Unit)) × (List (Int)) × (Int) × (Int) × Unit)) × Unit) × ((List ((ByteArray) × (Int) × (List (Int)) × Unit)) × (List (ByteArray)) × (List ((ByteArray) × (Int) × (Int) × Unit)) × Unit) × (List ((List (Int)) × (List (Int)) × (List (Int)) × (List (Int)) × Unit)) × Unit) (hs : ((x.1.1.length < 4000000 ∧ ∀ e0 ∈ x.1.1, (e0.1.size < 4000000) ∧ (e0.2.2.1.length < 4000000 ∧ ∀ e1 ∈ e0.2.2.1, (e1.1.size < 4000000)) ∧ (e0.2.2.2.1.length < 4000000 ∧ ∀ e1 ∈ e0.2.2.2.1, (e1.2.2.2.2.1.length < 4000000 ∧ ∀ e2 ∈ e1.2.2.2.2.1, (e2.1.length < 4000000) ∧ (e2.2.1.length < 4000000) ∧ (e2.2.2.1.length < 4000000)) ∧ (e1.2.2.2.2.2.1.length < 4000000 ∧ ∀ e2 ∈ e1.2.2.2.2.2.1, (e2.1.length < 4000000) ∧ (e2.2.1.length < 4000000) ∧ (e2.2.2.1.length < 4000000))) ∧ (e0.2.2.2.2.1.length < 4000000))) ∧ ((x.2.1.1.length < 4000000 ∧ ∀ e0 ∈ x.2.1.1, (e0.1.size < 4000000) ∧ (e0.2.2.1.length < 4000000)) ∧ (x.2.1.2.1.length < 4000000 ∧ ∀ e0 ∈ x.2.1.2.1, e0.size < 4000000) ∧ (x.2.1.2.2.1.length < 4000000 ∧ ∀ e0 ∈ x.2.1.2.2.1, (e0.1.size < 4000000))) ∧ (x.2.2.1.length < 4000000 ∧ ∀ e0 ∈ x.2.2.1, (e0.1.length < 4000000) ∧ (e0.2.1.length < 4000000) ∧ (e0.2.2.1.length < 4000000) ∧ (e0.2.2.2.1.length < 4000000))) (u : Unit) : F_laws_eqBlock N (x, y, u) = some (dec (x = y), ()) := by
 refine Ret.tells ?_
 unfold F_laws_eqBlock
 obtain ⟨x0, x1, x2, ux⟩ := x
 obtain ⟨y0, y1, y2, uy⟩ := y
 dsimp only
 refine Ret.call (eq_Library hN x0 y0 (hs.1) ()) (Ret.ifnc ?_ ?_) <;> intro g0
 ·exact Ret.ret (tells_false.2 (fun h => g0 (congrArg (fun z => z.1) h)))
 refine Ret.call (eq_Design hN x1 y1 (hs.2.1) ()) (Ret.ifnc ?_ ?_) <;> intro g1
 ·exact Ret.ret (tells_false.2 (fun h => g1 (congrArg (fun z => z.2.1) h)))
 refine Ret.call (eq_WireS hN x2 y2 (hs.2.2) ()) (Ret.ifnc ?_ ?_) <;> intro g2
 ·exact Ret.ret (tells_false.2 (fun h => g2 (congrArg (fun z => z.2.2.1) h)))
 subst g0 g1 g2
 exact Ret.ret (tells_true.2 rfl)
end Go.Proofs.YtdbmhfpphobmpaaGreatDoor
