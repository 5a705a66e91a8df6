/- Cells and libraries: the program's functions. No program in sight. -/
import Derived.Test.YtbdokiecpmhjmaaGreatDoorPwCell
namespace Go.Proofs.YtbdokiecpmhjmaaGreatDoor
set_option linter.unusedSimpArgs false
set_option linter.unusedVariables false
set_option linter.unusedSectionVars false
set_option linter.unusedVariables false
set_option linter.unusedSimpArgs false

section
variable {N : Nat} (hN : 4000000 ≤ N) {u : Unit}
include hN
theorem tell_posT {t : DTable} (ht : SmallT t) (pos : Bool) (v : Unit) : F_impl_areTables_1 N (t, some pos, v) = some (dec (¬ PosT pos t), ()) := by
  refine Ret.tells ?_
  unfold F_impl_areTables_1
  (repeat' (first | (dsimp only) | (with_reducible refine Ret.ret ?_) | (with_reducible refine Ret.guardI (by first | assumption | omega | (simp only [List.length_append, List.length_cons, List.length_nil, List.length_set, List.length_replicate, lim] at *; omega)) ?_) | (with_reducible refine Ret.guard (by first | assumption | omega | (simp only [List.length_append, List.length_cons, List.length_nil, List.length_set, List.length_replicate, lim] at *; omega)) ?_) | (with_reducible refine Ret.guard3 (by first | assumption | omega | (simp only [List.length_append, List.length_cons, List.length_nil, List.length_set, List.length_replicate, lim] at *; omega)) ?_) | (with_reducible refine Ret.guard3' (by first | assumption | omega | (simp only [List.length_append, List.length_cons, List.length_nil, List.length_set, List.length_replicate, lim] at *; omega)) ?_) | (with_reducible refine Ret.atN (by first | assumption | omega | (simp only [List.length_append, List.length_cons, List.length_nil, List.length_set, List.length_replicate, lim] at *; omega)) ?_) | (with_reducible refine Ret.get (by first | assumption | omega | (simp only [List.length_append, List.length_cons, List.length_nil, List.length_set, List.length_replicate, lim] at *; omega)) ?_) | (with_reducible refine Ret.byteN (by first | assumption | omega | (simp only [List.length_append, List.length_cons, List.length_nil, List.length_set, List.length_replicate, lim] at *; omega)) ?_) | (with_reducible refine Ret.call (impl_IsTable hN ht) ?_) | ((with_reducible refine Ret.ifnd ?_ ?_) <;> intro _) | ((with_reducible refine Ret.ifd ?_ ?_) <;> intro _) | ((with_reducible refine Ret.ifnc ?_ ?_) <;> intro _) | ((with_reducible refine Ret.ifc ?_ ?_) <;> intro _) | ((with_reducible refine Ret.bif ?_ ?_) <;> intro _)))
  · rename_i h
    exact tells_true.2 fun hp => h hp.1
  · rename_i h
    refine Ret.call (a := pos) rfl ?_
    cases pos with
    | false => exact Ret.ret (tells_false.2 fun hn => hn ⟨h, fun hf => by cases hf⟩)
    | true =>
      refine Ret.bind (slices_Min hN (l := t.2.2.1) (table_len h).1 ht.2.2) fun r hr => Ret.ret (tells_decide.2 ?_)
      rw [isMin_neg hr]
      constructor
      · rintro ⟨x, hx, hl⟩ hp
        have := hp.2 rfl x hx; omega
      · intro hn
        refine Classical.byContradiction fun hne => hn ⟨h, fun _ v hv => ?_⟩
        exact Int.not_lt.1 fun hl => hne ⟨v, hv, hl⟩
theorem impl_areTables {l : List DTable} (hl : SmallTs l) (pos : Bool) : F_impl_areTables N (l, pos, u) = some (dec (TabsP pos l), ()) := by
  refine Ret.tells ?_
  unfold F_impl_areTables
  have hcf : F_slices_ContainsFunc_impl_Table_impl_Table_c_impl_areTables_1 N (l, (some pos, ()), ()) = some (dec (∃ t ∈ l, ¬ PosT pos t), ()) := by
    unfold F_slices_ContainsFunc_impl_Table_impl_Table_c_impl_areTables_1 F_slices_IndexFunc_impl_Table_impl_Table_c_impl_areTables_1
    exact containsFunc_eq (indexFunc_eq (fun e => F_impl_areTables_1 N (e, some pos, ())) (fun t => ¬ PosT pos t) (fun t ht => tell_posT hN (hl.2 t ht) pos ()) hl.1 hN)
  (repeat' (first | (dsimp only) | (with_reducible refine Ret.ret ?_) | (with_reducible refine Ret.guardI (by first | assumption | omega | (simp only [List.length_append, List.length_cons, List.length_nil, List.length_set, List.length_replicate, lim] at *; omega)) ?_) | (with_reducible refine Ret.guard (by first | assumption | omega | (simp only [List.length_append, List.length_cons, List.length_nil, List.length_set, List.length_replicate, lim] at *; omega)) ?_) | (with_reducible refine Ret.guard3 (by first | assumption | omega | (simp only [List.length_append, List.length_cons, List.length_nil, List.length_set, List.length_replicate, lim] at *; omega)) ?_) | (with_reducible refine Ret.guard3' (by first | assumption | omega | (simp only [List.length_append, List.length_cons, List.length_nil, List.length_set, List.length_replicate, lim] at *; omega)) ?_) | (with_reducible refine Ret.atN (by first | assumption | omega | (simp only [List.length_append, List.length_cons, List.length_nil, List.length_set, List.length_replicate, lim] at *; omega)) ?_) | (with_reducible refine Ret.get (by first | assumption | omega | (simp only [List.length_append, List.length_cons, List.length_nil, List.length_set, List.length_replicate, lim] at *; omega)) ?_) | (with_reducible refine Ret.byteN (by first | assumption | omega | (simp only [List.length_append, List.length_cons, List.length_nil, List.length_set, List.length_replicate, lim] at *; omega)) ?_) | (with_reducible refine Ret.call (hcf) ?_) | ((with_reducible refine Ret.ifnd ?_ ?_) <;> intro _) | ((with_reducible refine Ret.ifd ?_ ?_) <;> intro _) | ((with_reducible refine Ret.ifnc ?_ ?_) <;> intro _) | ((with_reducible refine Ret.ifc ?_ ?_) <;> intro _) | ((with_reducible refine Ret.bif ?_ ?_) <;> intro _)))
  · rename_i h
    simp only [tells_ndec, TabsP]
    constructor
    · intro hn; exact ⟨by omega, fun t ht => Classical.byContradiction fun hp => hn ⟨t, ht, hp⟩⟩
    · rintro ⟨_, ha⟩ ⟨t, ht, hp⟩; exact hp (ha t ht)
  · rename_i h
    exact tells_false.2 fun hp => h (by rw [hp.1]; rfl)
theorem impl_clock {c : DCell} (hc : SmallPs c.2.2.1) : F_impl_Cell_clock N (c, u) = some (fidx (fun p : DPin => p.2.2.2.1 = true) c.2.2.1, ()) := by
  unfold F_impl_Cell_clock F_slices_IndexFunc_impl_Pin_impl_Pin_c_impl_Cell_clock_1
  refine (obind_eq' (indexFunc_eq (fun e => F_impl_Cell_clock_1 N (e, ())) (fun p : DPin => p.2.2.2.1 = true) (fun p _ => ?_) hc.1 hN)).trans rfl
  unfold F_impl_Cell_clock_1
  obtain ⟨a, b, d, e, v⟩ := p
  cases e
  · rw [dec_not (by simp)]
  · rw [dec_of rfl]
theorem len_wrap1 {n : Nat} (h : n < 4000000) : IntKind.i64.wrap ((n : Int) - 1) = (n : Int) - 1 := by rw [wrapI] <;> omega
theorem len_wrap2 {n : Nat} (h : n < 4000000) : IntKind.i64.wrap ((n : Int) - 1 - 1) = (n : Int) - 1 - 1 := by rw [wrapI] <;> omega
theorem impl_output {c : DCell} (hc : SmallPs c.2.2.1) : F_impl_Cell_output N (c, u) = some ((c.2.2.1.length : Int) - 1, ()) := by
  unfold F_impl_Cell_output F_impl_length_impl_Pin
  simp only [obind_just, len_wrap1 hN hc.1]
theorem impl_isInput {c : DCell} (hc : SmallPs c.2.2.1) (i : Int) : F_impl_Cell_isInput N (c, i, u) = some (dec (BtwP 0 ((c.2.2.1.length : Int) - 1 - 1) i), ()) := by
  unfold F_impl_Cell_isInput
  simp only [impl_output hN hc, obind_just, len_wrap2 hN hc.1, impl_within]
omit hN in
theorem impl_isCheck (k : Int) : F_impl_isCheck N (k, u) = some (dec (k = 4 ∨ k = 5), ()) := by
  refine Ret.tells ?_
  unfold F_impl_isCheck
  (repeat' (first | (dsimp only) | (with_reducible refine Ret.ret ?_) | (with_reducible refine Ret.guardI (by first | assumption | omega | (simp only [List.length_append, List.length_cons, List.length_nil, List.length_set, List.length_replicate, lim] at *; omega)) ?_) | (with_reducible refine Ret.guard (by first | assumption | omega | (simp only [List.length_append, List.length_cons, List.length_nil, List.length_set, List.length_replicate, lim] at *; omega)) ?_) | (with_reducible refine Ret.guard3 (by first | assumption | omega | (simp only [List.length_append, List.length_cons, List.length_nil, List.length_set, List.length_replicate, lim] at *; omega)) ?_) | (with_reducible refine Ret.guard3' (by first | assumption | omega | (simp only [List.length_append, List.length_cons, List.length_nil, List.length_set, List.length_replicate, lim] at *; omega)) ?_) | (with_reducible refine Ret.atN (by first | assumption | omega | (simp only [List.length_append, List.length_cons, List.length_nil, List.length_set, List.length_replicate, lim] at *; omega)) ?_) | (with_reducible refine Ret.get (by first | assumption | omega | (simp only [List.length_append, List.length_cons, List.length_nil, List.length_set, List.length_replicate, lim] at *; omega)) ?_) | (with_reducible refine Ret.byteN (by first | assumption | omega | (simp only [List.length_append, List.length_cons, List.length_nil, List.length_set, List.length_replicate, lim] at *; omega)) ?_) | ((with_reducible refine Ret.ifnd ?_ ?_) <;> intro _) | ((with_reducible refine Ret.ifd ?_ ?_) <;> intro _) | ((with_reducible refine Ret.ifnc ?_ ?_) <;> intro _) | ((with_reducible refine Ret.ifc ?_ ?_) <;> intro _) | ((with_reducible refine Ret.bif ?_ ?_) <;> intro _)))
  all_goals (simp only [tells_true, tells_decide]; omega)
omit hN in
theorem at_ck {ps : List DPin} {i : Int} {ρ : Type} {R : ρ → Prop} {k : DPin → Option ρ} (h0 : 0 ≤ i) (h1 : i < ps.length) (hk : ∀ p : DPin, (p.2.2.2.1 = true ↔ isCk ps i) → Ret (k p) R) : Ret (obind (atI ps i) k) R := by
  refine Ret.atZ h0 (by omega) (hk _ ⟨fun h => ⟨by omega, h⟩, fun ⟨_, h⟩ => h⟩)
theorem impl_isArc {c : DCell} (hc : SmallPs c.2.2.1) {a : DArc} (ha : SmallA a) : F_impl_Cell_isArc N (c, a, u) = some (dec (ArcI c.2.2.1 a), ()) := by
  refine Ret.tells ?_
  unfold F_impl_Cell_isArc
  (repeat' (first | (dsimp only) | (with_reducible refine Ret.ret ?_) | (with_reducible refine Ret.guardI (by first | assumption | omega | (simp only [List.length_append, List.length_cons, List.length_nil, List.length_set, List.length_replicate, lim] at *; omega)) ?_) | (with_reducible refine Ret.guard (by first | assumption | omega | (simp only [List.length_append, List.length_cons, List.length_nil, List.length_set, List.length_replicate, lim] at *; omega)) ?_) | (with_reducible refine Ret.guard3 (by first | assumption | omega | (simp only [List.length_append, List.length_cons, List.length_nil, List.length_set, List.length_replicate, lim] at *; omega)) ?_) | (with_reducible refine Ret.guard3' (by first | assumption | omega | (simp only [List.length_append, List.length_cons, List.length_nil, List.length_set, List.length_replicate, lim] at *; omega)) ?_) | (with_reducible refine Ret.atN (by first | assumption | omega | (simp only [List.length_append, List.length_cons, List.length_nil, List.length_set, List.length_replicate, lim] at *; omega)) ?_) | (with_reducible refine Ret.get (by first | assumption | omega | (simp only [List.length_append, List.length_cons, List.length_nil, List.length_set, List.length_replicate, lim] at *; omega)) ?_) | (with_reducible refine Ret.byteN (by first | assumption | omega | (simp only [List.length_append, List.length_cons, List.length_nil, List.length_set, List.length_replicate, lim] at *; omega)) ?_) | (with_reducible refine Ret.call (impl_isCheck _) ?_) | (with_reducible refine Ret.call (impl_areTables hN ha.1 _) ?_) | (with_reducible refine Ret.call (impl_areTables hN ha.2 _) ?_) | (with_reducible refine Ret.call (impl_clock hN hc) ?_) | (with_reducible refine Ret.call (impl_output hN hc) ?_) | (with_reducible refine Ret.call (impl_isInput hN hc _) ?_) | ((with_reducible refine Ret.ifnd ?_ ?_) <;> intro _) | ((with_reducible refine Ret.ifd ?_ ?_) <;> intro _) | ((with_reducible refine Ret.ifnc ?_ ?_) <;> intro _) | ((with_reducible refine Ret.ifc ?_ ?_) <;> intro _) | ((with_reducible refine Ret.bif ?_ ?_) <;> intro _)))
  all_goals try (simp only [tells_false, tells_ndecide, ArcI]; grind)
  all_goals
    have hb : BtwP 0 ((c.2.2.1.length : Int) - 1 - 1) a.2.1 := by assumption
    refine at_ck hb.1 (by have := hb.2; omega) fun p hp => ?_
    (repeat' (first | (dsimp only) | (with_reducible refine Ret.ret ?_) | (with_reducible refine Ret.guardI (by first | assumption | omega | (simp only [List.length_append, List.length_cons, List.length_nil, List.length_set, List.length_replicate, lim] at *; omega)) ?_) | (with_reducible refine Ret.guard (by first | assumption | omega | (simp only [List.length_append, List.length_cons, List.length_nil, List.length_set, List.length_replicate, lim] at *; omega)) ?_) | (with_reducible refine Ret.guard3 (by first | assumption | omega | (simp only [List.length_append, List.length_cons, List.length_nil, List.length_set, List.length_replicate, lim] at *; omega)) ?_) | (with_reducible refine Ret.guard3' (by first | assumption | omega | (simp only [List.length_append, List.length_cons, List.length_nil, List.length_set, List.length_replicate, lim] at *; omega)) ?_) | (with_reducible refine Ret.atN (by first | assumption | omega | (simp only [List.length_append, List.length_cons, List.length_nil, List.length_set, List.length_replicate, lim] at *; omega)) ?_) | (with_reducible refine Ret.get (by first | assumption | omega | (simp only [List.length_append, List.length_cons, List.length_nil, List.length_set, List.length_replicate, lim] at *; omega)) ?_) | (with_reducible refine Ret.byteN (by first | assumption | omega | (simp only [List.length_append, List.length_cons, List.length_nil, List.length_set, List.length_replicate, lim] at *; omega)) ?_) | (with_reducible refine Ret.call (impl_within _ _ _ _ _) ?_) | ((with_reducible refine Ret.ifnd ?_ ?_) <;> intro _) | ((with_reducible refine Ret.ifd ?_ ?_) <;> intro _) | ((with_reducible refine Ret.ifnc ?_ ?_) <;> intro _) | ((with_reducible refine Ret.ifc ?_ ?_) <;> intro _) | ((with_reducible refine Ret.bif ?_ ?_) <;> intro _)))
  all_goals (simp only [tells_false, tells_dec, tells_decide, ArcI]; grind)
omit hN in
theorem areArcs_1 (a b : DArc) (v : Unit) : F_impl_Cell_areArcs_1 N (a, some b, v) = some (dec (keyA a = keyA b), ()) := by
  refine Ret.tells ?_
  unfold F_impl_Cell_areArcs_1
  simp only [obind_just]
  (repeat' (first | (dsimp only) | (with_reducible refine Ret.ret ?_) | (with_reducible refine Ret.guardI (by first | assumption | omega | (simp only [List.length_append, List.length_cons, List.length_nil, List.length_set, List.length_replicate, lim] at *; omega)) ?_) | (with_reducible refine Ret.guard (by first | assumption | omega | (simp only [List.length_append, List.length_cons, List.length_nil, List.length_set, List.length_replicate, lim] at *; omega)) ?_) | (with_reducible refine Ret.guard3 (by first | assumption | omega | (simp only [List.length_append, List.length_cons, List.length_nil, List.length_set, List.length_replicate, lim] at *; omega)) ?_) | (with_reducible refine Ret.guard3' (by first | assumption | omega | (simp only [List.length_append, List.length_cons, List.length_nil, List.length_set, List.length_replicate, lim] at *; omega)) ?_) | (with_reducible refine Ret.atN (by first | assumption | omega | (simp only [List.length_append, List.length_cons, List.length_nil, List.length_set, List.length_replicate, lim] at *; omega)) ?_) | (with_reducible refine Ret.get (by first | assumption | omega | (simp only [List.length_append, List.length_cons, List.length_nil, List.length_set, List.length_replicate, lim] at *; omega)) ?_) | (with_reducible refine Ret.byteN (by first | assumption | omega | (simp only [List.length_append, List.length_cons, List.length_nil, List.length_set, List.length_replicate, lim] at *; omega)) ?_) | ((with_reducible refine Ret.ifnd ?_ ?_) <;> intro _) | ((with_reducible refine Ret.ifd ?_ ?_) <;> intro _) | ((with_reducible refine Ret.ifnc ?_ ?_) <;> intro _) | ((with_reducible refine Ret.ifc ?_ ?_) <;> intro _) | ((with_reducible refine Ret.bif ?_ ?_) <;> intro _)))
  all_goals (simp only [tells_false, tells_decide, keyA, Prod.mk.injEq]; grind)
theorem impl_areArcs {c : DCell} (hc : SmallC c) : F_impl_Cell_areArcs N (c, u) = some (dec ((∀ a ∈ c.2.2.2.1, ArcI c.2.2.1 a) ∧ DiffP (c.2.2.2.1.map keyA) ∧ c.2.2.2.1.length ≤ 8), ()) := by
  refine Ret.tells ?_
  unfold F_impl_Cell_areArcs
  generalize hl : c.2.2.2.1 = l
  have hl' := hc.2.2.1
  rw [hl] at hl'
  have hcf : ∀ (i : Nat) (b : DArc), i < l.length → F_slices_ContainsFunc_impl_Arc_impl_Arc_c_impl_Cell_areArcs_1 N ((l.take (i : Int).toNat).drop (0 : Int).toNat, (some b, ()), ()) = some (dec (∃ k, ∃ h : k < l.length, k < i ∧ keyA l[k] = keyA b), ()) := by
    intro i b hi
    unfold F_slices_ContainsFunc_impl_Arc_impl_Arc_c_impl_Cell_areArcs_1 F_slices_IndexFunc_impl_Arc_impl_Arc_c_impl_Cell_areArcs_1
    refine (containsFunc_eq (indexFunc_eq (fun e => F_impl_Cell_areArcs_1 N (e, some b, ())) (fun a => keyA a = keyA b) (fun a ha => areArcs_1 a b ()) ?_ hN)).trans ?_
    · have := hl'.1; simp; omega
    · rw [dec_congr]
      rw [show (0 : Int).toNat = 0 from rfl, List.drop_zero, Int.toNat_natCast, exists_mem_iff]
      constructor
      · rintro ⟨k, h, he⟩; simp at h he; exact ⟨k, by omega, by omega, he⟩
      · rintro ⟨k, h, hk, he⟩; exact ⟨k, by simp; omega, by simpa using he⟩
  refine Ret.up l.length (fun i _ => ∀ j, j < i → ∀ h : j < l.length, ArcI c.2.2.1 l[j] ∧ ∀ k (h' : k < j), keyA l[k] ≠ keyA l[j]) (by omega) (by omega) upto_zero ?_ ?_
  · intro i u next hi hI hn
    dsimp only
    refine Ret.must ?_ ?_
    · omega
    refine Ret.atN hi (Ret.call (impl_isArc hN hc.2.1 (hl'.2 _ (List.getElem_mem hi))) ?_)
    refine Ret.ifnc ?_ ?_ <;> intro h1
    · exact Ret.ret (tells_false.2 fun h => h1 (h.1 _ (List.getElem_mem hi)))
    (repeat' (first | (dsimp only) | (with_reducible refine Ret.ret ?_) | (with_reducible refine Ret.guardI (by first | assumption | omega | (simp only [List.length_append, List.length_cons, List.length_nil, List.length_set, List.length_replicate, lim] at *; omega)) ?_) | (with_reducible refine Ret.guard (by first | assumption | omega | (simp only [List.length_append, List.length_cons, List.length_nil, List.length_set, List.length_replicate, lim] at *; omega)) ?_) | (with_reducible refine Ret.guard3 (by first | assumption | omega | (simp only [List.length_append, List.length_cons, List.length_nil, List.length_set, List.length_replicate, lim] at *; omega)) ?_) | (with_reducible refine Ret.guard3' (by first | assumption | omega | (simp only [List.length_append, List.length_cons, List.length_nil, List.length_set, List.length_replicate, lim] at *; omega)) ?_) | (with_reducible refine Ret.atN (by first | assumption | omega | (simp only [List.length_append, List.length_cons, List.length_nil, List.length_set, List.length_replicate, lim] at *; omega)) ?_) | (with_reducible refine Ret.get (by first | assumption | omega | (simp only [List.length_append, List.length_cons, List.length_nil, List.length_set, List.length_replicate, lim] at *; omega)) ?_) | (with_reducible refine Ret.byteN (by first | assumption | omega | (simp only [List.length_append, List.length_cons, List.length_nil, List.length_set, List.length_replicate, lim] at *; omega)) ?_) | (with_reducible refine Ret.call (hcf i _ hi) ?_) | ((with_reducible refine Ret.ifnd ?_ ?_) <;> intro _) | ((with_reducible refine Ret.ifd ?_ ?_) <;> intro _) | ((with_reducible refine Ret.ifnc ?_ ?_) <;> intro _) | ((with_reducible refine Ret.ifc ?_ ?_) <;> intro _) | ((with_reducible refine Ret.bif ?_ ?_) <;> intro _)))
    · rename_i h2
      obtain ⟨k, hk, hki, he⟩ := h2
      refine tells_false.2 fun h => ?_
      have := h.2.1 i (by simpa using hi) k hki
      simp at this
      exact this he
    · rename_i h2
      exact hn () (upto_succ hI fun _ => ⟨h1, fun k hk he => h2 ⟨k, by omega, hk, he⟩⟩)
  · intro u next hI
    dsimp only
    refine Ret.mustN ?_ (Ret.ret (tells_decide.2 ?_))
    · omega
    constructor
    · intro h
      refine ⟨forall_mem_iff.2 fun j hj => (hI j hj hj).1, fun k hk j hj => ?_, by omega⟩
      have := (hI k (by simpa using hk) (by simpa using hk)).2 j hj
      simpa using this
    · intro h; omega
theorem impl_arePins {ps : List DPin} (hc : SmallPs ps) : F_impl_arePins N (ps, u) = some (dec (PinsP ps), ()) := by
  refine Ret.tells ?_
  unfold F_impl_arePins
  refine Ret.up ps.length (fun i s => s = ((ps.take i).map (·.1), ()) ∧ ∀ j, j < i → ∀ h : j < ps.length, PinP (j + 1 = ps.length) ps[j]) (by omega) (by omega) ⟨rfl, upto_zero⟩ ?_ ?_
  · rintro i s next hi ⟨rfl, hI⟩ hn
    have hcont : PinP (i + 1 = ps.length) ps[i] → Ret (next (IntKind.i64.wrap ((i : Int) + 1), (ps.take i).map (·.1) ++ [ps[i].1], ())) (Tells (PinsP ps)) := fun hg => hn _ ⟨by rw [List.take_succ_eq_append_getElem hi, List.map_append]; rfl, upto_succ hI fun _ => hg⟩
    have hbad : ¬ PinP (i + 1 = ps.length) ps[i] → ¬ PinsP ps := fun hg h => hg (h.1 i hi)
    dsimp only
    rw [len_wrap1 hN hc.1]
    refine Ret.must ?_ ?_
    · omega
    refine Ret.atN hi ?_
    refine Ret.guard ?_ ?_
    · unfold lim; simp; omega
    (repeat' (first | (dsimp only) | (with_reducible refine Ret.ret ?_) | (with_reducible refine Ret.guardI (by first | assumption | omega | (simp only [List.length_append, List.length_cons, List.length_nil, List.length_set, List.length_replicate, lim] at *; omega)) ?_) | (with_reducible refine Ret.guard (by first | assumption | omega | (simp only [List.length_append, List.length_cons, List.length_nil, List.length_set, List.length_replicate, lim] at *; omega)) ?_) | (with_reducible refine Ret.guard3 (by first | assumption | omega | (simp only [List.length_append, List.length_cons, List.length_nil, List.length_set, List.length_replicate, lim] at *; omega)) ?_) | (with_reducible refine Ret.guard3' (by first | assumption | omega | (simp only [List.length_append, List.length_cons, List.length_nil, List.length_set, List.length_replicate, lim] at *; omega)) ?_) | (with_reducible refine Ret.atN (by first | assumption | omega | (simp only [List.length_append, List.length_cons, List.length_nil, List.length_set, List.length_replicate, lim] at *; omega)) ?_) | (with_reducible refine Ret.get (by first | assumption | omega | (simp only [List.length_append, List.length_cons, List.length_nil, List.length_set, List.length_replicate, lim] at *; omega)) ?_) | (with_reducible refine Ret.byteN (by first | assumption | omega | (simp only [List.length_append, List.length_cons, List.length_nil, List.length_set, List.length_replicate, lim] at *; omega)) ?_) | (with_reducible refine Ret.call (impl_within _ _ _ _ _) ?_) | ((with_reducible refine Ret.ifnd ?_ ?_) <;> intro _) | ((with_reducible refine Ret.ifd ?_ ?_) <;> intro _) | ((with_reducible refine Ret.ifnc ?_ ?_) <;> intro _) | ((with_reducible refine Ret.ifc ?_ ?_) <;> intro _) | ((with_reducible refine Ret.bif ?_ ?_) <;> intro _)))
    all_goals first
      | (refine hcont ?_; unfold PinP; grind)
      | (refine tells_false.2 (hbad ?_); unfold PinP; grind)
  · rintro s next ⟨rfl, hI⟩
    dsimp only
    refine Ret.mustN ?_ ?_
    · omega
    rw [List.take_length]
    refine Ret.call (show F_impl_length_impl_Pin N (ps, u) = some ((ps.length : Int), ()) from rfl) ?_
    have hnm := impl_areNames hN (l := ps.map (·.1)) (u := ()) (by simpa using hc.1) (fun s hs => by obtain ⟨p, hp, rfl⟩ := List.mem_map.1 hs; exact hc.2 p hp)
    (repeat' (first | (dsimp only) | (with_reducible refine Ret.ret ?_) | (with_reducible refine Ret.guardI (by first | assumption | omega | (simp only [List.length_append, List.length_cons, List.length_nil, List.length_set, List.length_replicate, lim] at *; omega)) ?_) | (with_reducible refine Ret.guard (by first | assumption | omega | (simp only [List.length_append, List.length_cons, List.length_nil, List.length_set, List.length_replicate, lim] at *; omega)) ?_) | (with_reducible refine Ret.guard3 (by first | assumption | omega | (simp only [List.length_append, List.length_cons, List.length_nil, List.length_set, List.length_replicate, lim] at *; omega)) ?_) | (with_reducible refine Ret.guard3' (by first | assumption | omega | (simp only [List.length_append, List.length_cons, List.length_nil, List.length_set, List.length_replicate, lim] at *; omega)) ?_) | (with_reducible refine Ret.atN (by first | assumption | omega | (simp only [List.length_append, List.length_cons, List.length_nil, List.length_set, List.length_replicate, lim] at *; omega)) ?_) | (with_reducible refine Ret.get (by first | assumption | omega | (simp only [List.length_append, List.length_cons, List.length_nil, List.length_set, List.length_replicate, lim] at *; omega)) ?_) | (with_reducible refine Ret.byteN (by first | assumption | omega | (simp only [List.length_append, List.length_cons, List.length_nil, List.length_set, List.length_replicate, lim] at *; omega)) ?_) | (with_reducible refine Ret.call (impl_within _ _ _ _ _) ?_) | (with_reducible refine Ret.call (hnm) ?_) | ((with_reducible refine Ret.ifnd ?_ ?_) <;> intro _) | ((with_reducible refine Ret.ifd ?_ ?_) <;> intro _) | ((with_reducible refine Ret.ifnc ?_ ?_) <;> intro _) | ((with_reducible refine Ret.ifc ?_ ?_) <;> intro _) | ((with_reducible refine Ret.bif ?_ ?_) <;> intro _)))
    · rename_i h
      refine tells_dec.2 ⟨fun h1 => ⟨fun j hj => hI j hj hj, by have := h.1; omega, by have := h.2; omega, h1⟩, fun h1 => h1.2.2.2⟩
    · rename_i h
      exact tells_false.2 fun h1 => h ⟨by have := h1.2.1; omega, by have := h1.2.2.1; omega⟩
theorem impl_has {c : DCell} (hc : c.2.2.2.1.length < 4000000) (k : Int) : F_impl_Cell_has N (c, k, u) = some (dec (HasA c.2.2.2.1 k), ()) := by
  unfold F_impl_Cell_has
  refine (obind_eq' (x := (dec (HasA c.2.2.2.1 k), ())) ?_).trans rfl
  unfold F_slices_ContainsFunc_impl_Arc_impl_Arc_c_impl_Cell_has_1 F_slices_IndexFunc_impl_Arc_impl_Arc_c_impl_Cell_has_1
  refine containsFunc_eq (indexFunc_eq (fun e => F_impl_Cell_has_1 N (e, some k, ())) (fun a => a.1 = k) (fun a _ => ?_) hc hN)
  unfold F_impl_Cell_has_1
  simp only [obind_just, decide_dec]
omit hN in
theorem clocks_take_succ {ps : List DPin} {i : Nat} (hi : i < ps.length) : clocks (ps.take (i + 1)) = clocks (ps.take i) + (if ps[i].2.2.2.1 = true then 1 else 0) := by
  unfold clocks
  rw [List.take_succ_eq_append_getElem hi, List.countP_append]
  simp [List.countP_cons]
omit hN in
theorem clocks_le (ps : List DPin) : clocks ps ≤ ps.length := List.countP_le_length
omit hN in
theorem pow_len {n : Nat} (h2 : 2 ≤ n) (h5 : n ≤ 5) : IntKind.i64.wrap (1 * 2 ^ (min ((n : Int) - 1).toNat IntKind.i64.bits)) = ((2 ^ (n - 1) : Nat) : Int) := by
  rcases (show n = 2 ∨ n = 3 ∨ n = 4 ∨ n = 5 by omega) with rfl | rfl | rfl | rfl <;> decide +kernel
theorem impl_isOfKind {c : DCell} (hc : SmallC c) (hp : PinsP c.2.2.1) : F_impl_Cell_isOfKind N (c, u) = some (dec (KindP c), ()) := by
  refine Ret.tells ?_
  unfold F_impl_Cell_isOfKind
  refine Ret.upM 0 c.2.2.1.length (fun i s _ => s = (clocks (c.2.2.1.take i) : Int)) (by omega) (by have := hc.2.1.1; omega) (by have := hc.2.1.1; omega) (by simp [clocks]) ?_ ?_
  · rintro i s t next _ hi rfl hn
    dsimp only
    refine Ret.must ?_ ?_
    · omega
    refine Ret.atN hi ?_
    have h1 := clocks_take_succ hi
    have h2 := clocks_le (c.2.2.1.take i)
    have h3 : (c.2.2.1.take i).length ≤ 4000000 := by have := hc.2.1.1; simp; omega
    refine Ret.bif ?_ ?_ <;> intro h <;> rw [h] at h1
    · refine hn _ _ ?_
      rw [wrapI (by omega) (by omega), h1]; simp
    · refine hn _ _ ?_
      rw [h1]; simp
  · rintro s t next rfl
    dsimp only
    refine Ret.mustN ?_ ?_
    · omega
    rw [List.take_length]
    have hw := pow_len hp.2.1 hp.2.2.1
    have h2 := hp.2.1
    (repeat' (first | (dsimp only) | (with_reducible refine Ret.ret ?_) | (with_reducible refine Ret.guardI (by first | assumption | omega | (simp only [List.length_append, List.length_cons, List.length_nil, List.length_set, List.length_replicate, lim] at *; omega)) ?_) | (with_reducible refine Ret.guard (by first | assumption | omega | (simp only [List.length_append, List.length_cons, List.length_nil, List.length_set, List.length_replicate, lim] at *; omega)) ?_) | (with_reducible refine Ret.guard3 (by first | assumption | omega | (simp only [List.length_append, List.length_cons, List.length_nil, List.length_set, List.length_replicate, lim] at *; omega)) ?_) | (with_reducible refine Ret.guard3' (by first | assumption | omega | (simp only [List.length_append, List.length_cons, List.length_nil, List.length_set, List.length_replicate, lim] at *; omega)) ?_) | (with_reducible refine Ret.atN (by first | assumption | omega | (simp only [List.length_append, List.length_cons, List.length_nil, List.length_set, List.length_replicate, lim] at *; omega)) ?_) | (with_reducible refine Ret.get (by first | assumption | omega | (simp only [List.length_append, List.length_cons, List.length_nil, List.length_set, List.length_replicate, lim] at *; omega)) ?_) | (with_reducible refine Ret.byteN (by first | assumption | omega | (simp only [List.length_append, List.length_cons, List.length_nil, List.length_set, List.length_replicate, lim] at *; omega)) ?_) | (with_reducible refine Ret.call (impl_output hN hc.2.1) ?_) | (with_reducible refine Ret.call (impl_areWithin hN hc.2.2.2 _ _) ?_) | (with_reducible refine Ret.call (impl_has hN hc.2.2.1.1 _) ?_) | ((with_reducible refine Ret.ifnd ?_ ?_) <;> intro _) | ((with_reducible refine Ret.ifd ?_ ?_) <;> intro _) | ((with_reducible refine Ret.ifnc ?_ ?_) <;> intro _) | ((with_reducible refine Ret.ifc ?_ ?_) <;> intro _) | ((with_reducible refine Ret.bif ?_ ?_) <;> intro _)))
    all_goals try (rename_i hx; rw [hw] at hx)
    all_goals (simp only [tells_false, tells_dec, tells_ndec, Tells, KindP, Bool.not_eq_true', beq_eq_false_iff_ne, ne_eq, dec_eq_dec, dec_iff, dec_iff', Bool.false_eq_true, false_iff]; grind)
theorem impl_IsCell {c : DCell} (hc : SmallC c) : F_impl_IsCell N (c, u) = some (dec (CellP c), ()) := by
  rw [← dec_congr (cell_iff c)]
  refine Ret.tells ?_
  unfold F_impl_IsCell
  refine Ret.call (impl_isName hN hc.1) (Ret.ifc ?_ ?_) <;> intro h1
  · refine Ret.call (impl_arePins hN hc.2.1) (Ret.ifc ?_ ?_) <;> intro h2
    · (repeat' (first | (dsimp only) | (with_reducible refine Ret.ret ?_) | (with_reducible refine Ret.guardI (by first | assumption | omega | (simp only [List.length_append, List.length_cons, List.length_nil, List.length_set, List.length_replicate, lim] at *; omega)) ?_) | (with_reducible refine Ret.guard (by first | assumption | omega | (simp only [List.length_append, List.length_cons, List.length_nil, List.length_set, List.length_replicate, lim] at *; omega)) ?_) | (with_reducible refine Ret.guard3 (by first | assumption | omega | (simp only [List.length_append, List.length_cons, List.length_nil, List.length_set, List.length_replicate, lim] at *; omega)) ?_) | (with_reducible refine Ret.guard3' (by first | assumption | omega | (simp only [List.length_append, List.length_cons, List.length_nil, List.length_set, List.length_replicate, lim] at *; omega)) ?_) | (with_reducible refine Ret.atN (by first | assumption | omega | (simp only [List.length_append, List.length_cons, List.length_nil, List.length_set, List.length_replicate, lim] at *; omega)) ?_) | (with_reducible refine Ret.get (by first | assumption | omega | (simp only [List.length_append, List.length_cons, List.length_nil, List.length_set, List.length_replicate, lim] at *; omega)) ?_) | (with_reducible refine Ret.byteN (by first | assumption | omega | (simp only [List.length_append, List.length_cons, List.length_nil, List.length_set, List.length_replicate, lim] at *; omega)) ?_) | (with_reducible refine Ret.call (impl_areArcs hN hc) ?_) | (with_reducible refine Ret.call (impl_within _ _ _ _ _) ?_) | (with_reducible refine Ret.call (impl_isOfKind hN hc h2) ?_) | ((with_reducible refine Ret.ifnd ?_ ?_) <;> intro _) | ((with_reducible refine Ret.ifd ?_ ?_) <;> intro _) | ((with_reducible refine Ret.ifnc ?_ ?_) <;> intro _) | ((with_reducible refine Ret.ifc ?_ ?_) <;> intro _) | ((with_reducible refine Ret.bif ?_ ?_) <;> intro _)))
      all_goals (simp only [tells_false, tells_dec, CellI]; grind)
    · exact Ret.ret (tells_false.2 fun h => h2 h.2.1)
  · exact Ret.ret (tells_false.2 fun h => h1 h.1)
theorem impl_IsLibrary {l : DLibrary} (hl : SmallL l) : F_impl_IsLibrary N (l, u) = some (dec (LibP l), ()) := by
  refine Ret.tells ?_
  unfold F_impl_IsLibrary
  refine Ret.up l.1.length (fun i s => s = ((l.1.take i).map (·.1), ()) ∧ ∀ j, j < i → ∀ h : j < l.1.length, CellP l.1[j]) (by have := hl.1; omega) (by have := hl.1; omega) ⟨rfl, upto_zero⟩ ?_ ?_
  · rintro i s next hi ⟨rfl, hI⟩ hn
    dsimp only
    refine Ret.must ?_ ?_
    · omega
    refine Ret.atN hi (Ret.call (impl_IsCell hN (hl.2 _ (List.getElem_mem hi))) ?_)
    refine Ret.ifnc ?_ ?_ <;> intro h1
    · exact Ret.ret (tells_false.2 fun h => h1 (h.1 _ (List.getElem_mem hi)))
    refine Ret.guard ?_ ?_
    · unfold lim; have := hl.1; simp; omega
    exact hn _ ⟨by rw [List.take_succ_eq_append_getElem hi, List.map_append]; rfl, upto_succ hI fun _ => h1⟩
  · rintro s next ⟨rfl, hI⟩
    dsimp only
    refine Ret.mustN ?_ ?_
    · omega
    rw [List.take_length]
    have hall : ∀ c ∈ l.1, CellP c := forall_mem_iff.2 fun j hj => hI j hj hj
    have hnm := impl_areNames hN (l := l.1.map (·.1)) (u := ()) (by have := hl.1; simpa using this) (fun s hs => by obtain ⟨p, hp, rfl⟩ := List.mem_map.1 hs; exact (hl.2 p hp).1)
    (repeat' (first | (dsimp only) | (with_reducible refine Ret.ret ?_) | (with_reducible refine Ret.guardI (by first | assumption | omega | (simp only [List.length_append, List.length_cons, List.length_nil, List.length_set, List.length_replicate, lim] at *; omega)) ?_) | (with_reducible refine Ret.guard (by first | assumption | omega | (simp only [List.length_append, List.length_cons, List.length_nil, List.length_set, List.length_replicate, lim] at *; omega)) ?_) | (with_reducible refine Ret.guard3 (by first | assumption | omega | (simp only [List.length_append, List.length_cons, List.length_nil, List.length_set, List.length_replicate, lim] at *; omega)) ?_) | (with_reducible refine Ret.guard3' (by first | assumption | omega | (simp only [List.length_append, List.length_cons, List.length_nil, List.length_set, List.length_replicate, lim] at *; omega)) ?_) | (with_reducible refine Ret.atN (by first | assumption | omega | (simp only [List.length_append, List.length_cons, List.length_nil, List.length_set, List.length_replicate, lim] at *; omega)) ?_) | (with_reducible refine Ret.get (by first | assumption | omega | (simp only [List.length_append, List.length_cons, List.length_nil, List.length_set, List.length_replicate, lim] at *; omega)) ?_) | (with_reducible refine Ret.byteN (by first | assumption | omega | (simp only [List.length_append, List.length_cons, List.length_nil, List.length_set, List.length_replicate, lim] at *; omega)) ?_) | (with_reducible refine Ret.call (hnm) ?_) | ((with_reducible refine Ret.ifnd ?_ ?_) <;> intro _) | ((with_reducible refine Ret.ifd ?_ ?_) <;> intro _) | ((with_reducible refine Ret.ifnc ?_ ?_) <;> intro _) | ((with_reducible refine Ret.ifc ?_ ?_) <;> intro _) | ((with_reducible refine Ret.bif ?_ ?_) <;> intro _)))
    · refine tells_dec.2 ⟨fun h1 => ⟨hall, h1.2, by omega⟩, fun h1 => ⟨fun s hs => ?_, h1.2.1⟩⟩
      obtain ⟨c, hc, rfl⟩ := List.mem_map.1 hs
      exact (hall c hc).1
    · exact tells_false.2 fun h1 => by have := h1.2.2; omega
end
end Go.Proofs.YtbdokiecpmhjmaaGreatDoor
