/- Gates and the order of nets: the program's side. No program in sight. -/
import Derived.Test.YtbdokiecpmhjmaaGreatDoorPwBlk
namespace Go.Proofs.YtbdokiecpmhjmaaGreatDoor
set_option linter.unusedSimpArgs false
set_option linter.unusedVariables false
set_option linter.unusedSectionVars false
set_option linter.unusedVariables false
set_option linter.unusedSimpArgs false
set_option linter.unusedSimpArgs false
set_option linter.unusedVariables false

/-- An instance of a gate drives the net. -/
def GateP (b : DBlock) (k : Nat) (j : Nat) : Prop := ∃ h : j < b.2.1.1.length, lastN b.2.1.1[j].2.2.1 = (k : Int) ∧ ∃ h2 : b.2.1.1[j].2.1.toNat < b.1.1.length, (b.1.1[b.2.1.1[j].2.1.toNat]'h2).2.1 = 1
open Classical in
noncomputable def gateOf (b : DBlock) (k : Nat) : Int := if h : ∃ j, GateP b k j then ((Classical.choose h : Nat) : Int) else -1
noncomputable def insOf (b : DBlock) (k : Nat) : List Int := (b.2.1.1[(gateOf b k).toNat]?.map fun x => x.2.2.1.take (x.2.2.1.length - 1)).getD []
/-- No gate's net comes, by way of gates, from itself. -/
def Ranked (b : DBlock) : Prop := ∃ rank : Nat → Nat, ∀ k, k < b.2.1.2.1.length → 0 ≤ gateOf b k → ∀ i ∈ insOf b k, rank i.toNat < rank k

theorem two_count {α : Type} {xs : List α} {p : α → Bool} {i j : Nat} (hij : i < j) (hj : j < xs.length) (h1 : p (xs[i]'(by omega)) = true) (h2 : p xs[j] = true) : 2 ≤ xs.countP p := by
  have e1 := countP_take_succ (show i < xs.length by omega) p
  have e2 := countP_take_succ hj p
  rw [if_pos h1] at e1
  rw [if_pos h2] at e2
  have h3 : (xs.take (i + 1)).countP p ≤ (xs.take j).countP p := by
    have e : xs.take (i + 1) = (xs.take j).take (i + 1) := by rw [List.take_take, Nat.min_eq_left (by omega)]
    rw [e]; exact (List.take_sublist _ _).countP_le
  have h4 : (xs.take (j + 1)).countP p ≤ xs.countP p := (List.take_sublist _ _).countP_le
  omega
section
variable {b : DBlock} (hD : DesignP b.1 b.2.1) {k : Nat} (hk : k < b.2.1.2.1.length)
include hD hk
theorem inst_uniq {i j : Nat} (hi : i < b.2.1.1.length) (hj : j < b.2.1.1.length) (h : lastN b.2.1.1[i].2.2.1 = (k : Int)) (h' : lastN b.2.1.1[j].2.2.1 = (k : Int)) : i = j := by
  have hd := hD.2.2.2 k hk
  unfold drv at hd
  rcases Nat.lt_trichotomy i j with hl | rfl | hl
  · have := two_count (p := fun x : DInstance => decide (lastN x.2.2.1 = (k : Int))) hl hj (decide_eq_true h) (decide_eq_true h'); omega
  · rfl
  · have := two_count (p := fun x : DInstance => decide (lastN x.2.2.1 = (k : Int))) hl hi (decide_eq_true h') (decide_eq_true h); omega
theorem gateOf_eq {j : Nat} (h : GateP b k j) : gateOf b k = (j : Int) := by
  unfold gateOf
  rw [dif_pos ⟨j, h⟩]
  have hc := Classical.choose_spec (p := fun j => GateP b k j) ⟨j, h⟩
  rw [inst_uniq hD hk hc.1 h.1 hc.2.1 h.2.1]
omit hD hk in
theorem gateOf_neg (h : ∀ j, ¬ GateP b k j) : gateOf b k = -1 := by
  unfold gateOf
  rw [dif_neg fun ⟨j, hj⟩ => h j hj]
theorem gateOf_cases : (gateOf b k = -1 ∧ ∀ j, ¬ GateP b k j) ∨ ∃ j : Nat, gateOf b k = (j : Int) ∧ GateP b k j := by
  by_cases h : ∃ j, GateP b k j
  · obtain ⟨j, h⟩ := h
    exact .inr ⟨j, gateOf_eq hD hk h, h⟩
  · exact .inl ⟨gateOf_neg fun j hj => h ⟨j, hj⟩, fun j hj => h ⟨j, hj⟩⟩
theorem insOf_eq {j : Nat} (h : GateP b k j) : insOf b k = (b.2.1.1[j]'h.1).2.2.1.take ((b.2.1.1[j]'h.1).2.2.1.length - 1) := by
  unfold insOf
  rw [gateOf_eq hD hk h, Int.toNat_natCast, List.getElem?_eq_getElem h.1]; rfl
theorem insOf_in {i : Int} (h : i ∈ insOf b k) : 0 ≤ i ∧ i.toNat < b.2.1.2.1.length := by
  unfold insOf at h
  cases hx : b.2.1.1[(gateOf b k).toNat]? with
  | none => rw [hx] at h; simp at h
  | some x =>
    rw [hx] at h
    have hm := List.mem_of_getElem? hx
    have := (hD.2.2.1.1 x hm).2.2 i (List.mem_of_mem_take h)
    unfold BtwP at this
    omega
end
theorem inst_ok {b : DBlock} (hD : DesignP b.1 b.2.1) {j : Nat} (hj : j < b.2.1.1.length) : (0 ≤ b.2.1.1[j].2.1 ∧ b.2.1.1[j].2.1.toNat < b.1.1.length) ∧ 2 ≤ b.2.1.1[j].2.2.1.length ∧ b.2.1.1[j].2.2.1.length ≤ 5 ∧ (0 ≤ lastN b.2.1.1[j].2.2.1 ∧ (lastN b.2.1.1[j].2.2.1).toNat < b.2.1.2.1.length) := by
  have h := hD.2.2.1.1 _ (List.getElem_mem hj)
  have h2 := inst_last (fun c hc => (hD.1.1 c hc).2.1) h
  have h3 := h.1; have h4 := h2.2.2
  unfold BtwP at h3 h4
  exact ⟨⟨h3.1, h.2.1.1⟩, h2.1, h2.2.1, by omega⟩
theorem impl_cellOf {N : Nat} {b : DBlock} (hD : DesignP b.1 b.2.1) {j : Nat} (hj : j < b.2.1.1.length) (u : Unit) : F_impl_Block_cellOf N (b, (j : Int), u) = some (b.1.1[b.2.1.1[j].2.1.toNat]'(inst_ok hD hj).1.2, ()) := by
  unfold F_impl_Block_cellOf
  dsimp only
  rw [obind_eq' (atI_nat hj), obind_eq' (atI_int (inst_ok hD hj).1.1 (inst_ok hD hj).1.2)]

/-- What is done stands in the order, each net behind its gate's inputs. -/
structure OrdP (b : DBlock) (done : List Bool) (ord : List Int) : Prop where
  len : done.length = b.2.1.2.1.length
  cnt : ord.length = done.countP (fun x => x)
  mem : ∀ k (h : k < done.length), done[k] = true ↔ (k : Int) ∈ ord
  top : ∀ p (h : p < ord.length), ∃ k : Nat, k < b.2.1.2.1.length ∧ ord[p] = (k : Int) ∧ (0 ≤ gateOf b k → ∀ i ∈ insOf b k, ∃ q, q < p ∧ ord[q]? = some i)
def StuckAt (b : DBlock) (done : List Bool) (k : Nat) : Prop := done[k]? = some true ∨ (0 ≤ gateOf b k ∧ ∃ i ∈ insOf b k, done[i.toNat]? = some false)
theorem OrdP.add {b : DBlock} {done : List Bool} {ord : List Int} (h : OrdP b done ord) (hD : DesignP b.1 b.2.1) {k : Nat} (hk : k < done.length) (h0 : done[k] = false) (hi : 0 ≤ gateOf b k → ∀ i ∈ insOf b k, done[i.toNat]? = some true) : OrdP b (done.set k true) (ord ++ [(k : Int)]) := by
  have hkn : k < b.2.1.2.1.length := by rw [← h.len]; exact hk
  refine ⟨by simp [h.len], ?_, ?_, ?_⟩
  · rw [List.length_append, h.cnt, List.countP_set hk, h0]; simp
  · intro j hj
    simp only [List.length_set] at hj
    rw [List.getElem_set, List.mem_append, List.mem_singleton]
    by_cases e : k = j
    · subst e; simp
    · rw [if_neg e, h.mem j hj]
      constructor
      · exact .inl
      · rintro (h | h)
        · exact h
        · omega
  · intro p hp
    by_cases e : p < ord.length
    · obtain ⟨j, h1, h2, h3⟩ := h.top p e
      refine ⟨j, h1, by rw [List.getElem_append_left e]; exact h2, fun hg i hm => ?_⟩
      obtain ⟨q, hq, hq'⟩ := h3 hg i hm
      exact ⟨q, hq, by rw [List.getElem?_append_left (by omega)]; exact hq'⟩
    · obtain rfl : p = ord.length := by simp at hp; omega
      refine ⟨k, hkn, by simp, fun hg i hm => ?_⟩
      obtain ⟨hi0, hin⟩ := insOf_in hD hkn hm
      have ht := hi hg i hm
      obtain ⟨hlt, ht⟩ := List.getElem?_eq_some_iff.1 ht
      have hmem := (h.mem _ hlt).1 ht
      obtain ⟨q, hq, hqe⟩ := List.getElem_of_mem hmem
      refine ⟨q, hq, ?_⟩
      rw [List.getElem?_append_left hq, List.getElem?_eq_getElem hq, hqe]
      congr 1; omega
theorem OrdP.start (b : DBlock) {n : Nat} (hn : n = b.2.1.2.1.length) : OrdP b (List.replicate n false) [] :=
  ⟨by simp [hn], by simp [List.countP_replicate], by intro k h; simp, by intro p h; simp at h⟩
/-- All nets, each behind its gate's inputs. -/
def Topo (b : DBlock) (ord : List Int) : Prop := ord.length = b.2.1.2.1.length ∧ (∀ k, k < b.2.1.2.1.length → (k : Int) ∈ ord) ∧
  ∀ p (h : p < ord.length), ∃ k : Nat, k < b.2.1.2.1.length ∧ ord[p] = (k : Int) ∧ (0 ≤ gateOf b k → ∀ i ∈ insOf b k, ∃ q, q < p ∧ ord[q]? = some i)
theorem OrdP.topo {b : DBlock} {done : List Bool} {ord : List Int} (h : OrdP b done ord) (hl : b.2.1.2.1.length ≤ ord.length) : Topo b ord := by
  have hc : done.countP (fun x => x) ≤ done.length := List.countP_le_length
  have e1 := h.len; have e2 := h.cnt
  have ha : done.countP (fun x => x) = done.length := by omega
  rw [List.countP_eq_length] at ha
  exact ⟨by omega, fun k hk => (h.mem k (by omega)).1 (ha _ (List.getElem_mem _)), h.top⟩
theorem idxOf_le_of_getElem {xs : List Int} : ∀ {q : Nat} (h : q < xs.length), xs.idxOf xs[q] ≤ q := by
  induction xs with
  | nil => intro q h; cases h
  | cons x xs ih =>
    intro q h
    rw [List.idxOf_cons]
    cases q with
    | zero => simp
    | succ q =>
      have h' : q < xs.length := by simpa using h
      have := ih h'
      simp only [List.getElem_cons_succ]
      cases (x == xs[q]) <;> simp <;> omega
theorem Topo.ranked {b : DBlock} {ord : List Int} (h : Topo b ord) (hD : DesignP b.1 b.2.1) : Ranked b := by
  refine ⟨fun k => ord.idxOf (k : Int), fun k hk hg i hi => ?_⟩
  have hm := h.2.1 k hk
  have hp := List.idxOf_lt_length_of_mem hm
  obtain ⟨k', hk', he, ht⟩ := h.2.2 _ hp
  rw [List.getElem_idxOf] at he
  obtain rfl : k = k' := by omega
  obtain ⟨q, hq, hqe⟩ := ht hg i hi
  obtain ⟨hi0, _⟩ := insOf_in hD hk hi
  obtain ⟨hql, hqe⟩ := List.getElem?_eq_some_iff.1 hqe
  show ord.idxOf ((i.toNat : Nat) : Int) < _
  rw [Int.toNat_of_nonneg hi0, ← hqe]
  refine Nat.lt_of_le_of_lt ?_ hq
  exact idxOf_le_of_getElem hql
theorem OrdP.stuck {b : DBlock} {done : List Bool} {ord : List Int} (h : OrdP b done ord) (hD : DesignP b.1 b.2.1) (hl : ord.length < b.2.1.2.1.length) (hs : ∀ k, k < b.2.1.2.1.length → StuckAt b done k) : ¬ Ranked b := by
  rintro ⟨rank, hr⟩
  have none_false : ∀ m k, k < b.2.1.2.1.length → rank k ≤ m → done[k]? = some true := by
    intro m
    induction m with
    | zero =>
      intro k hk hm
      rcases hs k hk with h1 | ⟨hg, i, hi, h2⟩
      · exact h1
      · have := hr k hk hg i hi; omega
    | succ m ih =>
      intro k hk hm
      rcases hs k hk with h1 | ⟨hg, i, hi, h2⟩
      · exact h1
      · have h3 := hr k hk hg i hi
        have h4 := ih i.toNat (insOf_in hD hk hi).2 (by omega)
        rw [h2] at h4; cases h4
  have hall : done.countP (fun x => x) = done.length := by
    rw [List.countP_eq_length]
    intro x hx
    obtain ⟨k, hk, rfl⟩ := List.getElem_of_mem hx
    have := none_false _ k (by rw [← h.len]; exact hk) (Nat.le_refl _)
    rw [List.getElem?_eq_getElem hk] at this
    exact Option.some.inj this
  have e1 := h.len; have e2 := h.cnt
  omega
end Go.Proofs.YtbdokiecpmhjmaaGreatDoor
