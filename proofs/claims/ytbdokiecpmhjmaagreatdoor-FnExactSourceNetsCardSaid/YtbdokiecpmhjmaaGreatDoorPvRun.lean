/- What the machine's operations do on memory that is known. No condition of its own. -/
import Derived.Test.YtbdokiecpmhjmaaGreatDoorPvConv
import Derived.Laws.MakeOwn
import Derived.Laws.Append
import Derived.Laws.CopyRow
namespace Go.Proofs.YtbdokiecpmhjmaaGreatDoor
set_option linter.unusedSimpArgs false
set_option linter.unusedVariables false
open Go.RowKit

theorem addr_add (b o n : Nat) : (⟨b, o, none⟩ : Addr).add n = ⟨b, o + n, none⟩ := by
  unfold Addr.add
  split <;> simp_all
theorem info_of_underlying {P : Program} {t : TypeId} {d : TypeDesc} (h : P.underlying t = some d) : ∃ i, P.info? t = some i := by
  unfold Program.underlying at h
  cases hi : P.info? t with
  | none => simp [hi] at h
  | some i => exact ⟨i, rfl⟩
theorem run_sizeT {P : Program} {t : TypeId} {d : TypeDesc} (h : P.underlying t = some d) (w : World) : (sizeOf t).run P w = .ok (sizeT P t) w := by
  obtain ⟨i, hi⟩ := info_of_underlying h
  simp [sizeOf, typeInfo, sizeT, hi]
theorem run_aggD {P : Program} {t : TypeId} {d : TypeDesc} (h : P.underlying t = some d) (w : World) : (isAgg t).run P w = .ok (aggD d) w := by
  simp only [isAgg, Sem.run_bind, run_underlying h, Result.andThen_ok]
  cases d <;> rfl

theorem sub_len {α : Type} {l : List α} {o n : Nat} (h : o + n ≤ l.length) : (sub l o n).length = n := by
  simp [sub]; omega

/-- A load out of a row of cells. -/
theorem run_loadT {P : Program} {t : TypeId} {d : TypeDesc} (ht : P.underlying t = some d) {w : World} {b o off : Nat} {us : List Value} (hc : CellsAt w b o us) :
    (aggD d = true → off + sizeT P t ≤ us.length → (loadVar t ⟨b, o + off, none⟩).run P w = .ok (.agg (sub us off (sizeT P t)).toArray) w) ∧
    (aggD d = false → ∀ v, us[off]? = some v → (loadVar t ⟨b, o + off, none⟩).run P w = .ok v w) := by
  refine ⟨fun hd hl => ?_, fun hd v hv => ?_⟩
  · have h := run_loadCells_list (P := P) w ⟨b, o + off, none⟩ (sub us off (sizeT P t)) (fun j v hj => by rw [addr_add]; exact hc.sub off _ j v hj)
    rw [sub_len hl] at h
    simp [loadVar, run_aggD ht, hd, run_sizeT ht, h]
  · have h := hc off v hv
    simp [loadVar, run_aggD ht, hd, h]

theorem extract_list (us : List Value) (o n : Nat) : us.toArray.extract o (o + n) = (sub us o n).toArray := by
  apply Array.ext'
  simp [sub]
/-- A part of a value. -/
theorem run_partT {P : Program} {t : TypeId} {d : TypeDesc} (ht : P.underlying t = some d) {w : World} {off : Nat} {us : List Value} :
    (aggD d = true → (part t us.toArray off).run P w = .ok (.agg (sub us off (sizeT P t)).toArray) w) ∧
    (aggD d = false → ∀ v, us[off]? = some v → (part t us.toArray off).run P w = .ok v w) := by
  refine ⟨fun hd => ?_, fun hd v hv => ?_⟩
  · simp [part, run_aggD ht, hd, run_sizeT ht, sub]
  · simp [part, run_aggD ht, hd, hv]

theorem wf_of {k : IntKind} {n : Int} (h1 : k.min ≤ n) (h2 : n ≤ k.max) : (Lit.int k n).wf = true := by simp [Lit.wf, h1, h2]
theorem wf_bd {k : IntKind} {n : Int} (h : (Lit.int k n).wf = true) : k.min ≤ n ∧ n ≤ k.max := by simpa [Lit.wf] using h
theorem wf_wrap (k : IntKind) (n : Int) : (Lit.int k (k.wrap n)).wf = true := by
  apply wf_of <;> cases k <;> simp [IntKind.wrap, IntKind.min, IntKind.max, IntKind.signed, IntKind.bits] <;> (try split) <;> omega
theorem wf_fdiv {k : IntKind} {a : Int} (n : Nat) (h : (Lit.int k a).wf = true) : (Lit.int k (a.fdiv (2 ^ n))).wf = true := by
  obtain ⟨h1, h2⟩ := wf_bd h
  have hp : (0 : Int) < 2 ^ n := Int.pow_pos (by omega)
  rw [Int.fdiv_eq_ediv_of_nonneg _ (by omega)]
  have h0 : k.min ≤ 0 := by cases k <;> decide
  have h3 : 0 ≤ k.max := by cases k <;> decide
  by_cases ha : 0 ≤ a
  · have e1 : 0 ≤ a / 2 ^ n := Int.ediv_nonneg ha (by omega)
    have e2 : a / 2 ^ n ≤ a := Int.ediv_le_self _ ha
    exact wf_of (by omega) (by omega)
  · have e1 : a / 2 ^ n < 0 := Int.ediv_neg_of_neg_of_pos (by omega) hp
    have e2 : a ≤ a / 2 ^ n := by
      rw [Int.le_ediv_iff_mul_le hp]
      have : a * 2 ^ n ≤ a * 1 := Int.mul_le_mul_of_nonpos_left (by omega) (by omega)
      omega
    exact wf_of (by omega) (by omega)
theorem wf_tmod {k : IntKind} {a b : Int} (h : (Lit.int k a).wf = true) : (Lit.int k (a.tmod b)).wf = true := by
  obtain ⟨h1, h2⟩ := wf_bd h
  have h0 : k.min ≤ 0 ∧ 0 ≤ k.max := by cases k <;> simp [IntKind.min, IntKind.max, IntKind.signed, IntKind.bits]
  rcases Int.le_total 0 a with ha | ha
  · have g1 := Int.tmod_nonneg b ha
    have g2 : a.tmod b ≤ a := by
      have := Int.natAbs_tmod a b
      have h3 : (a.natAbs % b.natAbs) ≤ a.natAbs := Nat.mod_le _ _
      omega
    exact wf_of (by omega) (by omega)
  · have g1 : a.tmod b ≤ 0 := by
      have := Int.tmod_nonneg b (show 0 ≤ -a by omega)
      rw [Int.neg_tmod] at this; omega
    have g2 : a ≤ a.tmod b := by
      have := Int.natAbs_tmod a b
      have h3 : (a.natAbs % b.natAbs) ≤ a.natAbs := Nat.mod_le _ _
      omega
    exact wf_of (by omega) (by omega)
theorem wf_len {n : Nat} (h : n ≤ maxLen) : (Lit.int .i64 (n : Int)).wf = true := by
  unfold maxLen at h
  apply wf_of <;> simp [IntKind.min, IntKind.max, IntKind.signed, IntKind.bits] <;> omega
end Go.Proofs.YtbdokiecpmhjmaaGreatDoor
