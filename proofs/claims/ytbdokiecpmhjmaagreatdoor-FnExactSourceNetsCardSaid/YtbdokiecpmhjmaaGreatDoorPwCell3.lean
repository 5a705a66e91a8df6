/- Cells and libraries: the reference's functions. No program in sight. -/
import Derived.Test.YtbdokiecpmhjmaaGreatDoorPwCell2
namespace Go.Proofs.YtbdokiecpmhjmaaGreatDoor
set_option linter.unusedSimpArgs false
set_option linter.unusedVariables false
set_option linter.unusedSectionVars false
set_option linter.unusedVariables false
set_option linter.unusedSimpArgs false

section
variable {N : Nat} (hN : 4000000 ≤ N) {u : Unit}
include hN
theorem spec_l03Tables {l : List DTable} (hl : SmallTs l) (pos : Bool) : F_spec_l03Tables N (l, pos, u) = some (dec (TabsP pos l), ()) := by
  refine Ret.tells ?_
  unfold F_spec_l03Tables
  refine Ret.ifnd ?_ ?_ <;> intro h0
  · exact Ret.ret (tells_false.2 fun h => h0 (by rw [h.1]; rfl))
  have h2 : l.length = 2 := by dsimp only at h0; omega
  refine Ret.up 2 (fun i _ => ∀ j, j < i → ∀ h : j < l.length, PosT pos l[j]) (by omega) (by omega) upto_zero ?_ ?_
  · intro i u next hi hI hn
    have hi' : i < l.length := by omega
    have hcont : PosT pos l[i] → Ret (next (IntKind.i64.wrap ((i : Int) + 1), ())) (Tells (TabsP pos l)) := fun hg => hn () (upto_succ hI fun _ => hg)
    have hbad : ¬ PosT pos l[i] → ¬ TabsP pos l := fun hg h => hg (h.2 _ (List.getElem_mem hi'))
    dsimp only
    refine Ret.must ?_ ?_
    · omega
    refine Ret.atN hi' (Ret.bind (spec_TableBounds hN (hl.2 _ (List.getElem_mem hi'))) fun r hr => ?_)
    rcases hr with ⟨h1, rfl⟩ | ⟨h1, h2, h3, _⟩
    · exact Ret.ret (tells_false.2 (hbad fun h => h1 h.1))
    · refine Ret.mustNN h2 ?_
      cases pos with
      | false => exact hcont ⟨h1, fun h => by cases h⟩
      | true =>
        refine Ret.ifd ?_ ?_ <;> intro h4
        · exact Ret.ret (tells_false.2 (hbad fun h => by
            obtain ⟨x, hx, hl⟩ := (isMin_neg h3).1 h4
            have := h.2 rfl x hx; omega))
        · exact hcont ⟨h1, fun _ v hv => Int.not_lt.1 fun hl => h4 ((isMin_neg h3).2 ⟨v, hv, hl⟩)⟩
  · intro u next hI
    dsimp only
    refine Ret.mustN ?_ (Ret.ret (tells_true.2 ⟨h2, forall_mem_iff.2 fun j hj => hI j (by omega) hj⟩))
    omega
omit hN in
theorem pin_last {L : Prop} {p : DPin} (h : L) : PinP L p ↔ p.2.1 = 2 ∧ p.2.2.1 = 0 ∧ p.2.2.2.1 = false := ⟨fun x => x.1 h, fun x => ⟨fun _ => x, fun n => absurd h n⟩⟩
omit hN in
theorem pin_inner {L : Prop} {p : DPin} (h : ¬ L) : PinP L p ↔ p.2.1 = 1 ∧ BtwP 0 500 p.2.2.1 := ⟨fun x => x.2 h, fun x => ⟨fun n => absurd n h, fun _ => x⟩⟩
theorem spec_l03Pins {c : DCell} (hc : SmallPs c.2.2.1) : Ret (F_spec_l03Pins N (c, u)) (fun r => (PinsP c.2.2.1 ∧ r = ((clocks c.2.2.1 : Int), true, ())) ∨ (¬ PinsP c.2.2.1 ∧ r.2.1 = false)) := by
  unfold F_spec_l03Pins
  dsimp only
  generalize hps : c.2.2.1 = ps at *
  have hl := hc.1
  refine Ret.ifd ?_ ?_ <;> intro h0
  · exact Ret.ret (.inr ⟨fun h => by have := h.2.1; omega, rfl⟩)
  refine Ret.ifd ?_ ?_ <;> intro h0'
  · exact Ret.ret (.inr ⟨fun h => by have := h.2.2.1; omega, rfl⟩)
  refine Ret.upM 0 ps.length (fun i s _ => s = (clocks (ps.take i) : Int) ∧ ∀ j, j < i → ∀ h : j < ps.length, PinP (j + 1 = ps.length) ps[j] ∧ NameP ps[j].1 ∧ ∀ k (h' : k < j), ps[k].1 ≠ ps[j].1) (by omega) (by omega) (by omega) ⟨by simp [clocks], upto_zero⟩ ?_ ?_
  · rintro i s t next _ hi ⟨rfl, hI⟩ hn
    dsimp only
    rw [len_wrap1 hN hl]
    refine Ret.must ?_ ?_
    · omega
    refine Ret.atN hi ?_
    have hbad : ¬ (PinP (i + 1 = ps.length) ps[i] ∧ NameP ps[i].1 ∧ ∀ k (h' : k < i), ps[k].1 ≠ ps[i].1) → ¬ PinsP ps := fun hg h => hg ⟨h.1 i hi, h.2.2.2.1 _ (List.mem_map.2 ⟨_, List.getElem_mem hi, rfl⟩), fun k hk => by
      have := h.2.2.2.2 i (by simpa using hi) k hk
      simpa using this⟩
    have h1 := clocks_take_succ hi
    have h2 := clocks_le (ps.take i)
    have h3 : (ps.take i).length ≤ 4000000 := by simp; omega
    have hcont : ∀ s' : Int, s' = (clocks (ps.take (i + 1)) : Int) → (PinP (i + 1 = ps.length) ps[i] ∧ NameP ps[i].1 ∧ ∀ k (h' : k < i), ps[k].1 ≠ ps[i].1) → Ret (next (s', IntKind.i64.wrap ((i : Int) + 1), ())) (fun r => (PinsP ps ∧ r = ((clocks ps : Int), true, ())) ∨ (¬ PinsP ps ∧ r.2.1 = false)) := fun s' hs hg => hn _ _ ⟨hs, upto_succ hI fun _ => hg⟩
    refine Ret.up i (fun k _ => ∀ j (h : j < k) (h' : j < ps.length), ps[j].1 ≠ ps[i].1) (by omega) (by omega) (fun j h => by omega) ?_ ?_
    · intro k v next' hk hJ hm
      dsimp only
      refine Ret.must ?_ ?_
      · omega
      refine Ret.atN (show k < ps.length by omega) ?_
      refine Ret.ifd ?_ ?_ <;> intro he
      · exact Ret.ret (.inr ⟨hbad fun h => h.2.2 k hk he, rfl⟩)
      · refine hm () fun j hj hj' => ?_
        rcases Nat.lt_or_ge j k with hl | hl
        · exact hJ j hl hj'
        · obtain rfl : j = k := by omega
          exact he
    · intro v next' hJ
      have hd : ∀ k (h' : k < i), ps[k].1 ≠ ps[i].1 := fun k hk => hJ k hk (by omega)
      dsimp only
      refine Ret.mustN ?_ ?_
      · omega
      refine Ret.call (spec_l03Name hN (hc.2 _ (List.getElem_mem hi))) (Ret.ifnc ?_ ?_) <;> intro hnm
      · exact Ret.ret (.inr ⟨hbad fun h => hnm h.2.1, rfl⟩)
      refine Ret.call (spec_l01In _ _ _ _ _) (Ret.ifnc ?_ ?_) <;> intro hcap
      · refine Ret.ret (.inr ⟨hbad fun h => hcap ?_, rfl⟩)
        by_cases hlast : i + 1 = ps.length
        · rw [(h.1.1 hlast).2.1]; unfold BtwP; omega
        · exact (h.1.2 hlast).2
      clear hI hJ hn
      by_cases hlast : i + 1 = ps.length
      · rw [pin_last hlast] at hbad hcont
        refine Ret.must ?_ ?_
        · omega
        refine Ret.ifnd ?_ ?_ <;> intro e1
        · exact Ret.ret (.inr ⟨hbad fun h => e1 h.1.1, rfl⟩)
        refine Ret.ifnd ?_ ?_ <;> intro e2
        · exact Ret.ret (.inr ⟨hbad fun h => e2 h.1.2.1, rfl⟩)
        refine Ret.bif ?_ ?_ <;> intro e3
        · exact Ret.ret (.inr ⟨hbad fun h => (by rw [h.1.2.2] at e3; cases e3), rfl⟩)
        refine Ret.mustN ?_ ?_
        · omega
        rw [e3]
        refine hcont _ ?_ ⟨⟨e1, e2, e3⟩, hnm, hd⟩
        rw [h1, e3]; simp
      · rw [pin_inner hlast] at hbad hcont
        refine Ret.mustN ?_ ?_
        · omega
        refine Ret.must ?_ ?_
        · omega
        refine Ret.ifnd ?_ ?_ <;> intro e1
        · exact Ret.ret (.inr ⟨hbad fun h => e1 h.1.1, rfl⟩)
        refine Ret.bif ?_ ?_ <;> intro e3
        · refine hcont _ ?_ ⟨⟨e1, hcap⟩, hnm, hd⟩
          rw [h1, e3, wrapI (by omega) (by omega)]; simp
        · refine hcont _ ?_ ⟨⟨e1, hcap⟩, hnm, hd⟩
          rw [h1, e3]; simp
  · rintro s t next ⟨rfl, hI⟩
    dsimp only
    refine Ret.mustN ?_ (Ret.ret (.inl ⟨⟨fun j hj => (hI j hj hj).1, by omega, by omega, ?_, ?_⟩, by rw [List.take_length]⟩))
    · omega
    · intro s hs
      obtain ⟨p, hp, rfl⟩ := List.mem_map.1 hs
      obtain ⟨j, hj, rfl⟩ := List.getElem_of_mem hp
      exact (hI j hj hj).2.1
    · intro k hk j hj
      have := (hI k (by simpa using hk) (by simpa using hk)).2.2 j hj
      simpa using this
theorem spec_l03Arc {c : DCell} (hc : SmallPs c.2.2.1) {a : DArc} (ha : SmallA a) : F_spec_l03Arc N (c, a, u) = some (dec (ArcP c.2.2.1 a), ()) := by
  refine Ret.tells ?_
  unfold F_spec_l03Arc
  dsimp only
  rw [len_wrap1 hN hc.1, len_wrap2 hN hc.1]
  refine Ret.call (spec_l01In _ _ _ _ _) (Ret.ifnc ?_ ?_) <;> intro hb
  · exact Ret.ret (tells_false.2 fun h => hb h.1)
  refine Ret.call (spec_l01In _ _ _ _ _) (Ret.ifnc ?_ ?_) <;> intro hb2
  · exact Ret.ret (tells_false.2 fun h => hb2 h.2.1)
  refine at_ck hb.1 (by have := hb.2; omega) fun p hp => ?_
  (repeat' (first | (dsimp only) | (with_reducible refine Ret.ret ?_) | (with_reducible refine Ret.guardI (by first | assumption | omega | (simp only [List.length_append, List.length_cons, List.length_nil, List.length_set, List.length_replicate, lim] at *; omega)) ?_) | (with_reducible refine Ret.guard (by first | assumption | omega | (simp only [List.length_append, List.length_cons, List.length_nil, List.length_set, List.length_replicate, lim] at *; omega)) ?_) | (with_reducible refine Ret.guard3 (by first | assumption | omega | (simp only [List.length_append, List.length_cons, List.length_nil, List.length_set, List.length_replicate, lim] at *; omega)) ?_) | (with_reducible refine Ret.guard3' (by first | assumption | omega | (simp only [List.length_append, List.length_cons, List.length_nil, List.length_set, List.length_replicate, lim] at *; omega)) ?_) | (with_reducible refine Ret.atN (by first | assumption | omega | (simp only [List.length_append, List.length_cons, List.length_nil, List.length_set, List.length_replicate, lim] at *; omega)) ?_) | (with_reducible refine Ret.get (by first | assumption | omega | (simp only [List.length_append, List.length_cons, List.length_nil, List.length_set, List.length_replicate, lim] at *; omega)) ?_) | (with_reducible refine Ret.byteN (by first | assumption | omega | (simp only [List.length_append, List.length_cons, List.length_nil, List.length_set, List.length_replicate, lim] at *; omega)) ?_) | (with_reducible refine Ret.call (spec_l01In _ _ _ _ _) ?_) | (with_reducible refine Ret.call (spec_l03Tables hN ha.1 _) ?_) | (with_reducible refine Ret.call (spec_l03Tables hN ha.2 _) ?_) | ((with_reducible refine Ret.ifnd ?_ ?_) <;> intro _) | ((with_reducible refine Ret.ifd ?_ ?_) <;> intro _) | ((with_reducible refine Ret.ifnc ?_ ?_) <;> intro _) | ((with_reducible refine Ret.ifc ?_ ?_) <;> intro _) | ((with_reducible refine Ret.bif ?_ ?_) <;> intro _)))
  all_goals try (simp only [tells_false, tells_dec, tells_decide, ArcP]; grind)
  all_goals
    refine at_ck hb2.1 (by have := hb2.2; omega) fun q hq => ?_
    (repeat' (first | (dsimp only) | (with_reducible refine Ret.ret ?_) | (with_reducible refine Ret.guardI (by first | assumption | omega | (simp only [List.length_append, List.length_cons, List.length_nil, List.length_set, List.length_replicate, lim] at *; omega)) ?_) | (with_reducible refine Ret.guard (by first | assumption | omega | (simp only [List.length_append, List.length_cons, List.length_nil, List.length_set, List.length_replicate, lim] at *; omega)) ?_) | (with_reducible refine Ret.guard3 (by first | assumption | omega | (simp only [List.length_append, List.length_cons, List.length_nil, List.length_set, List.length_replicate, lim] at *; omega)) ?_) | (with_reducible refine Ret.guard3' (by first | assumption | omega | (simp only [List.length_append, List.length_cons, List.length_nil, List.length_set, List.length_replicate, lim] at *; omega)) ?_) | (with_reducible refine Ret.atN (by first | assumption | omega | (simp only [List.length_append, List.length_cons, List.length_nil, List.length_set, List.length_replicate, lim] at *; omega)) ?_) | (with_reducible refine Ret.get (by first | assumption | omega | (simp only [List.length_append, List.length_cons, List.length_nil, List.length_set, List.length_replicate, lim] at *; omega)) ?_) | (with_reducible refine Ret.byteN (by first | assumption | omega | (simp only [List.length_append, List.length_cons, List.length_nil, List.length_set, List.length_replicate, lim] at *; omega)) ?_) | (with_reducible refine Ret.call (spec_l03Tables hN ha.1 _) ?_) | (with_reducible refine Ret.call (spec_l03Tables hN ha.2 _) ?_) | ((with_reducible refine Ret.ifnd ?_ ?_) <;> intro _) | ((with_reducible refine Ret.ifd ?_ ?_) <;> intro _) | ((with_reducible refine Ret.ifnc ?_ ?_) <;> intro _) | ((with_reducible refine Ret.ifc ?_ ?_) <;> intro _) | ((with_reducible refine Ret.bif ?_ ?_) <;> intro _)))
  all_goals (simp only [tells_false, tells_dec, tells_decide, ArcP]; grind)
/-- How many arcs there are of each kind, as far as one asks. -/
def KindsL (l : List DArc) (n : List Int) : Prop := n.length = 6 ∧ ∀ k (h : k < n.length), 0 ≤ n[k] ∧ n[k] ≤ l.length ∧ (0 < n[k] ↔ HasA l k)
theorem spec_l03Kinds {c : DCell} (hl : c.2.2.2.1.length < 4000000) (hk : ∀ a ∈ c.2.2.2.1, 0 ≤ a.1 ∧ a.1 < 6) : Ret (F_spec_l03Kinds N (c, u)) (fun r => KindsL c.2.2.2.1 r.1) := by
  unfold F_spec_l03Kinds
  refine Ret.guard3' ⟨by omega, by decide, rfl⟩ ?_
  dsimp only
  generalize c.2.2.2.1 = l at *
  refine Ret.up l.length (fun i s => KindsL (l.take i) s.1) (by omega) (by omega) ⟨by simp, fun k h => ?_⟩ ?_ ?_
  · dsimp only
    rw [List.getElem_replicate]
    simp [HasA]
  · rintro i ⟨n, v⟩ next hi ⟨hn6, hI⟩ hn
    obtain ⟨h0, h6⟩ := hk _ (List.getElem_mem hi)
    dsimp only at hn6 hI ⊢
    refine Ret.must ?_ ?_
    · omega
    refine Ret.atN hi ?_
    refine Ret.guardZ h0 (by omega) (Ret.get (by omega) ?_)
    refine Ret.guardZ h0 (by omega) (Ret.get (by omega) ?_)
    have hb := hI l[i].1.toNat (by omega)
    have hlen : (l.take i).length = i := by simp; omega
    rw [wrapI (n := n[l[i].1.toNat] + 1) (by omega) (by omega)]
    refine hn _ ?_
    refine ⟨by simpa using hn6, fun k hk => ?_⟩
    have hk' : k < n.length := by simpa using hk
    obtain ⟨b0, b1, b2⟩ := hI k hk'
    have hlen' : (l.take (i + 1)).length = i + 1 := by simp; omega
    have hhas : HasA (l.take (i + 1)) k ↔ HasA (l.take i) k ∨ l[i].1 = k := by
      unfold HasA
      rw [List.take_succ_eq_append_getElem hi]
      constructor
      · rintro ⟨a, ha, he⟩
        rcases List.mem_append.1 ha with ha | ha
        · exact .inl ⟨a, ha, he⟩
        · simp at ha; subst ha; exact .inr he
      · rintro (⟨a, ha, he⟩ | he)
        · exact ⟨a, List.mem_append.2 (.inl ha), he⟩
        · exact ⟨l[i], List.mem_append.2 (.inr (by simp)), he⟩
    rw [hhas, hlen']
    simp only [List.getElem_set]
    split
    · rename_i he
      have : l[i].1 = k := by omega
      subst he
      refine ⟨by omega, by omega, ⟨fun _ => .inr this, fun _ => by omega⟩⟩
    · rename_i he
      have : l[i].1 ≠ k := by omega
      exact ⟨b0, by omega, b2.trans ⟨.inl, fun h => h.resolve_right this⟩⟩
  · rintro ⟨n, v⟩ next hI
    dsimp only
    refine Ret.mustN ?_ (Ret.ret (by simpa using hI))
    omega
theorem spec_IsCell {c : DCell} (hc : SmallC c) : F_spec_IsCell N (c, u) = some (dec (CellP c), ()) := by
  refine Ret.tells ?_
  unfold F_spec_IsCell
  dsimp only
  refine Ret.bind (spec_l03Pins hN hc.2.1) fun r hr => ?_
  rcases hr with ⟨hp, rfl⟩ | ⟨hp, hr⟩
  rotate_left
  · rw [hr]; exact Ret.ret (tells_false.2 fun h => hp h.2.1)
  have hl := hc.2.2.1.1
  have ht := hc.2.2.2
  dsimp only
  refine Ret.bif (fun h => nomatch h) fun _ => ?_
  refine Ret.call (spec_l03Name hN hc.1) (Ret.ifnc ?_ ?_) <;> intro h1
  · exact Ret.ret (tells_false.2 fun h => h1 h.1)
  refine Ret.ifd ?_ ?_ <;> intro h2
  · exact Ret.ret (tells_false.2 fun h => by have := h.2.2.1.2.2; omega)
  refine Ret.call (spec_l01In _ _ _ _ _) (Ret.ifnc ?_ ?_) <;> intro h3
  · exact Ret.ret (tells_false.2 fun h => h3 h.2.2.2.1)
  refine Ret.call (spec_l01In _ _ _ _ _) (Ret.ifnc ?_ ?_) <;> intro h4
  · exact Ret.ret (tells_false.2 fun h => h4 h.2.2.2.2.1)
  refine Ret.up c.2.2.2.1.length (fun i _ => ∀ j, j < i → ∀ h : j < c.2.2.2.1.length, ArcP c.2.2.1 c.2.2.2.1[j] ∧ ∀ k (h' : k < j), keyA c.2.2.2.1[k] ≠ keyA c.2.2.2.1[j]) (by omega) (by omega) upto_zero ?_ ?_
  · intro i u next hi hI hn
    dsimp only
    refine Ret.must ?_ ?_
    · omega
    refine Ret.atN hi (Ret.call (spec_l03Arc hN hc.2.1 (hc.2.2.1.2 _ (List.getElem_mem hi))) (Ret.ifnc ?_ ?_)) <;> intro h5
    · exact Ret.ret (tells_false.2 fun h => h5 (h.2.2.1.1 _ (List.getElem_mem hi)))
    refine Ret.up i (fun k _ => ∀ j (h : j < k) (h' : j < c.2.2.2.1.length), keyA c.2.2.2.1[j] ≠ keyA c.2.2.2.1[i]) (by omega) (by omega) (fun j h => by omega) ?_ ?_
    · intro k v next' hk hJ hm
      have hk' : k < c.2.2.2.1.length := by omega
      have hcont : keyA c.2.2.2.1[k] ≠ keyA c.2.2.2.1[i] → Ret (next' (IntKind.i64.wrap ((k : Int) + 1), ())) (Tells (CellP c)) := fun he => hm () fun j hj hj' => by
        rcases Nat.lt_or_ge j k with hl | hl
        · exact hJ j hl hj'
        · obtain rfl : j = k := by omega
          exact he
      dsimp only
      refine Ret.must ?_ ?_
      · omega
      refine Ret.atN hk' ?_
      refine Ret.ifd ?_ ?_ <;> intro e1
      · refine Ret.atN hk' (Ret.ifd ?_ ?_) <;> intro e2
        · refine Ret.atN hk' (Ret.ifd ?_ ?_) <;> intro e3
          · refine Ret.ret (tells_false.2 fun h => ?_)
            have := h.2.2.1.2.1 i (by simpa using hi) k hk
            simp [keyA] at this
            exact this e1 e2 e3
          · exact hcont fun he => e3 (by simpa [keyA] using (congrArg (·.2.2) he))
        · exact hcont fun he => e2 (by simpa [keyA] using (congrArg (·.2.1) he))
      · exact hcont fun he => e1 (by simpa [keyA] using (congrArg (·.1) he))
    · intro v next' hJ
      dsimp only
      refine Ret.mustN ?_ (hn () (upto_succ hI fun _ => ⟨h5, fun k hk => hJ k hk (by omega)⟩))
      omega
  · intro u next hI
    dsimp only
    refine Ret.mustN ?_ ?_
    · omega
    have hall : ∀ a ∈ c.2.2.2.1, ArcP c.2.2.1 a := forall_mem_iff.2 fun j hj => (hI j hj hj).1
    have hdiff : DiffP (c.2.2.2.1.map keyA) := fun k hk j hj => by
      have := (hI k (by simpa using hk) (by simpa using hk)).2 j hj
      simpa using this
    have hA : CellP c ↔ KindP c := ⟨fun h => h.2.2.2.2.2, fun h => ⟨h1, hp, ⟨hall, hdiff, by omega⟩, h3, h4, h⟩⟩
    refine Ret.bind (spec_l03Kinds hN hl fun a ha => ?_) fun r hr => ?_
    · rcases (hall a ha).2.2 with h | h | h <;> omega
    obtain ⟨h6, hr⟩ := hr
    have k1 := hr 1 (by omega); have k2 := hr 2 (by omega); have k3 := hr 3 (by omega)
    have hw := pow_len hp.2.1 hp.2.2.1
    have h2' := hp.2.1
    have h5' := hp.2.2.1
    rw [len_wrap1 hN hc.2.1.1, show IntKind.u64.wrap ((c.2.2.1.length : Int) - 1) = (c.2.2.1.length : Int) - 1 from by
      simp only [IntKind.wrap, IntKind.bits, IntKind.signed, Bool.false_and, Bool.false_eq_true, if_false, Int.reducePow]; omega, hw]
    refine Ret.ifd ?_ ?_ <;> intro e1
    · refine Ret.up c.2.2.2.2.1.length (fun i _ => ∀ j, j < i → ∀ h : j < c.2.2.2.2.1.length, BtwP 0 1 c.2.2.2.2.1[j]) (by omega) (by omega) upto_zero ?_ ?_
      · intro i u next hi hI hn
        dsimp only
        refine Ret.must ?_ ?_
        · omega
        refine Ret.atN hi (Ret.call (spec_l01In _ _ _ _ _) (Ret.ifnc ?_ ?_)) <;> intro h7
        · refine Ret.ret (tells_false.2 fun h => h7 ?_)
          rcases h.2.2.2.2.2 with h | h | h
          · exact h.2.2.2 _ (List.getElem_mem hi)
          · omega
          · omega
        · exact hn () (upto_succ hI fun _ => h7)
      · intro u next hI
        have hbits : ∀ v ∈ c.2.2.2.2.1, BtwP 0 1 v := forall_mem_iff.2 fun j hj => hI j hj hj
        clear hI
        dsimp only
        refine Ret.mustN ?_ ?_
        · omega
        refine Ret.ifd ?_ ?_ <;> intro e2
        · refine Ret.guard (by omega) (Ret.ret (tells_decide.2 ?_))
          rw [hA]
          unfold KindP
          constructor
          · intro h; exact .inl ⟨e1, by omega, by omega, hbits⟩
          · rintro (h | h | h)
            · have := h.2.2.1; omega
            · omega
            · omega
        · refine Ret.ret (tells_false.2 fun h => ?_)
          rcases h.2.2.2.2.2 with h | h | h <;> omega
    · have g1 : inI (1 : Int) r.1.length = true := by rw [h6]; rfl
      have g2 : inI (2 : Int) r.1.length = true := by rw [h6]; rfl
      have g3 : inI (3 : Int) r.1.length = true := by rw [h6]; rfl
      have t1 : r.1[(1 : Int).toNat]? = some r.1[1] := List.getElem?_eq_getElem (by omega)
      have t2 : r.1[(2 : Int).toNat]? = some r.1[2] := List.getElem?_eq_getElem (by omega)
      have t3 : r.1[(3 : Int).toNat]? = some r.1[3] := List.getElem?_eq_getElem (by omega)
      rw [g1, g2, g3, t1, t2, t3]
      simp only [cond_true, obind_just]
      have hk1 : r.1[1] = 0 ↔ ¬ HasA c.2.2.2.1 1 := by have := k1.2.2; constructor
                                                       · intro h hh; have := this.2 hh; omega
                                                       · intro h; have : ¬ 0 < r.1[1] := fun hh => h (this.1 hh); omega
      have hk3 : r.1[3] = 0 ↔ ¬ HasA c.2.2.2.1 3 := by have := k3.2.2; constructor
                                                       · intro h hh; have := this.2 hh; omega
                                                       · intro h; have : ¬ 0 < r.1[3] := fun hh => h (this.1 hh); omega
      have k1 := k1.2.2; have k2 := k2.2.2; have k3 := k3.2.2
      clear hr hI hall hdiff t1 t2 t3 g1 g2 g3
      generalize r.1[1] = n1 at *
      generalize r.1[2] = n2 at *
      generalize r.1[3] = n3 at *
      simp only [Int.cast_ofNat_Int] at k1 k2 k3
      (repeat' (first | (dsimp only) | (with_reducible refine Ret.ret ?_) | (with_reducible refine Ret.guardI (by first | assumption | omega | (simp only [List.length_append, List.length_cons, List.length_nil, List.length_set, List.length_replicate, lim] at *; omega)) ?_) | (with_reducible refine Ret.guard (by first | assumption | omega | (simp only [List.length_append, List.length_cons, List.length_nil, List.length_set, List.length_replicate, lim] at *; omega)) ?_) | (with_reducible refine Ret.guard3 (by first | assumption | omega | (simp only [List.length_append, List.length_cons, List.length_nil, List.length_set, List.length_replicate, lim] at *; omega)) ?_) | (with_reducible refine Ret.guard3' (by first | assumption | omega | (simp only [List.length_append, List.length_cons, List.length_nil, List.length_set, List.length_replicate, lim] at *; omega)) ?_) | (with_reducible refine Ret.atN (by first | assumption | omega | (simp only [List.length_append, List.length_cons, List.length_nil, List.length_set, List.length_replicate, lim] at *; omega)) ?_) | (with_reducible refine Ret.get (by first | assumption | omega | (simp only [List.length_append, List.length_cons, List.length_nil, List.length_set, List.length_replicate, lim] at *; omega)) ?_) | (with_reducible refine Ret.byteN (by first | assumption | omega | (simp only [List.length_append, List.length_cons, List.length_nil, List.length_set, List.length_replicate, lim] at *; omega)) ?_) | ((with_reducible refine Ret.ifnd ?_ ?_) <;> intro _) | ((with_reducible refine Ret.ifd ?_ ?_) <;> intro _) | ((with_reducible refine Ret.ifnc ?_ ?_) <;> intro _) | ((with_reducible refine Ret.ifc ?_ ?_) <;> intro _) | ((with_reducible refine Ret.bif ?_ ?_) <;> intro _)))
      all_goals (simp only [tells_false, tells_decide, hA, KindP])
      all_goals try (rename_i hx; simp only [Bool.not_eq_true', beq_eq_false_iff_ne, Bool.not_eq_false', beq_iff_eq, ne_eq, decide_eq_decide] at hx)
      all_goals (clear hA; grind)
theorem spec_IsLibrary {l : DLibrary} (hl : SmallL l) : F_spec_IsLibrary N (l, u) = some (dec (LibP l), ()) := by
  refine Ret.tells ?_
  unfold F_spec_IsLibrary
  have hl' := hl.1
  dsimp only
  refine Ret.up l.1.length (fun i _ => ∀ j, j < i → ∀ h : j < l.1.length, CellP l.1[j] ∧ ∀ k (h' : k < j), l.1[k].1 ≠ l.1[j].1) (by omega) (by omega) upto_zero ?_ ?_
  · intro i u next hi hI hn
    dsimp only
    refine Ret.must ?_ ?_
    · omega
    refine Ret.atN hi (Ret.call (spec_IsCell hN (hl.2 _ (List.getElem_mem hi))) (Ret.ifnc ?_ ?_)) <;> intro h5
    · exact Ret.ret (tells_false.2 fun h => h5 (h.1 _ (List.getElem_mem hi)))
    refine Ret.up i (fun k _ => ∀ j (h : j < k) (h' : j < l.1.length), l.1[j].1 ≠ l.1[i].1) (by omega) (by omega) (fun j h => by omega) ?_ ?_
    · intro k v next' hk hJ hm
      dsimp only
      refine Ret.must ?_ ?_
      · omega
      refine Ret.atN (show k < l.1.length by omega) (Ret.atN hi (Ret.ifd ?_ ?_)) <;> intro e1
      · refine Ret.ret (tells_false.2 fun h => ?_)
        have := h.2.1 i (by simpa using hi) k hk
        simp at this
        exact this e1
      · refine hm () fun j hj hj' => ?_
        rcases Nat.lt_or_ge j k with hl | hl
        · exact hJ j hl hj'
        · obtain rfl : j = k := by omega
          exact e1
    · intro v next' hJ
      dsimp only
      refine Ret.mustN ?_ (hn () (upto_succ hI fun _ => ⟨h5, fun k hk => hJ k hk (by omega)⟩))
      omega
  · intro u next hI
    dsimp only
    refine Ret.mustN ?_ (Ret.ret (tells_decide.2 ⟨fun h => ⟨forall_mem_iff.2 fun j hj => (hI j hj hj).1, fun k hk j hj => ?_, by omega⟩, fun h => by have := h.2.2; omega⟩))
    · omega
    · have := (hI k (by simpa using hk) (by simpa using hk)).2 j hj
      simpa using this
end
end Go.Proofs.YtbdokiecpmhjmaaGreatDoor
