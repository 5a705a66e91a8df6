/- Views: what newView makes of a valid block. No program in sight. -/
import Derived.Test.YtbdokiecpmhjmaaGreatDoorPwBlk
namespace Go.Proofs.YtbdokiecpmhjmaaGreatDoor
set_option linter.unusedSimpArgs false
set_option linter.unusedVariables false
set_option linter.unusedSectionVars false
set_option linter.unusedVariables false
set_option linter.unusedSimpArgs false

/-- The cell of an instance. -/
def CellOf (b : DBlock) (i : Int) (c : DCell) : Prop := 0 ≤ i ∧ ∃ x, b.2.1.1[i.toNat]? = some x ∧ 0 ≤ x.2.1 ∧ b.1.1[x.2.1.toNat]? = some c
theorem CellOf.eq {b : DBlock} {i : Int} {c d : DCell} (h : CellOf b i c) (k : CellOf b i d) : c = d := by
  obtain ⟨_, x, h1, _, h2⟩ := h
  obtain ⟨_, y, k1, _, k2⟩ := k
  rw [h1] at k1; cases k1
  rw [h2] at k2; cases k2; rfl
/-- A place is a pin of an instance or a port. -/
def PlcP (b : DBlock) (p : Plc) : Prop := (p.1 = -1 ∧ 0 ≤ p.2.1 ∧ ∃ q, b.2.1.2.2.1[p.2.1.toNat]? = some q ∧ p.2.2.2.1 = decide (q.2.1 = 1)) ∨ (0 ≤ p.1 ∧ ∃ c, CellOf b p.1 c ∧ 0 ≤ p.2.1 ∧ p.2.1.toNat < c.2.2.1.length)
theorem cellOf_mem {b : DBlock} {i : Int} {c : DCell} (h : CellOf b i c) : c ∈ b.1.1 := by
  obtain ⟨_, x, _, _, h2⟩ := h
  exact List.mem_of_getElem? h2
theorem inst_cell {b : DBlock} (h : DesignP b.1 b.2.1) {i : Nat} (hi : i < b.2.1.1.length) : ∃ c, CellOf b (i : Int) c ∧ b.2.1.1[i].2.2.1.length = c.2.2.1.length := by
  obtain ⟨h1, ⟨h2, h3⟩, _⟩ := h.2.2.1.1 _ (List.getElem_mem hi)
  exact ⟨_, ⟨by omega, b.2.1.1[i], by simp [hi], h1.1, List.getElem?_eq_getElem h2⟩, h3⟩
theorem places_ok {b : DBlock} (h : DesignP b.1 b.2.1) : ∀ p ∈ placesL b.2.1, BtwP 0 ((b.2.1.2.1.length : Int) - 1) p.2.2.1 ∧ PlcP b p := by
  intro p hp
  rcases List.mem_append.1 hp with hp | hp
  · obtain ⟨q, hq, hpq⟩ := List.mem_flatten.1 hp
    obtain ⟨i, hi, rfl⟩ := List.mem_mapIdx.1 hq
    obtain ⟨k, hk, rfl⟩ := List.mem_mapIdx.1 hpq
    obtain ⟨c, hc, hl⟩ := inst_cell h hi
    exact ⟨(h.2.2.1.1 _ (List.getElem_mem hi)).2.2 _ (List.getElem_mem hk), .inr ⟨by dsimp only; omega, c, hc, by dsimp only; omega, by dsimp only; omega⟩⟩
  · obtain ⟨i, hi, rfl⟩ := List.mem_mapIdx.1 hp
    exact ⟨(h.2.2.1.2 _ (List.getElem_mem hi)).2, .inl ⟨rfl, by dsimp only; omega, b.2.1.2.2.1[i], by simp [hi], rfl⟩⟩
theorem sinksL_mem {d : DDesign} {k : Int} {n : Int} (h : n ∈ sinksL d k) : ∃ i : Nat, n = (i : Int) ∧ i < (placesL d).length := by
  unfold sinksL sinksTo at h
  obtain ⟨p, hp, hs⟩ := List.mem_filterMap.1 h
  obtain ⟨i, hi, rfl⟩ := List.mem_mapIdx.1 hp
  dsimp only at hs
  split at hs
  · cases hs; exact ⟨i, rfl, hi⟩
  · cases hs

section
variable {N : Nat} (hN : 4000000 ≤ N) {u : Unit}
include hN
theorem impl_sinks {d : DDesign} (hd : Few d) (k : Int) : F_impl_Design_sinks N (d, k, u) = some (sinksL d k, ()) := by
  refine Ret.eq ?_
  unfold F_impl_Design_sinks
  refine Ret.call (impl_places hN hd) ?_
  have hlen := placesL_len hd
  dsimp only
  unfold sinksL
  generalize placesL d = l at *
  refine Ret.up l.length (fun i s => s = (sinksTo (l.take i) k, ())) (by omega) (by omega) (by simp [sinksTo]) ?_ ?_
  · rintro i s next hi rfl hn
    have hs := sinksTo_len l k i (by omega)
    have hc : (l.take i).countP (isSink k) ≤ (l.take i).length := List.countP_le_length
    rw [List.length_take] at hc
    have hsucc := sinksTo_succ hi k
    dsimp only
    refine Ret.must ?_ ?_
    · omega
    refine Ret.guardI hi (Ret.get hi ?_)
    simp only [Int.toNat_natCast]
    have hk : isSink k l[i] = (decide (l[i].2.2.1 = k) && !l[i].2.2.2.1) := rfl
    refine Ret.ifd ?_ ?_ <;> intro e1
    · rw [decide_eq_true e1, Bool.true_and] at hk
      refine Ret.bif ?_ ?_ <;> intro e2
      · rw [hk, e2, if_pos rfl] at hsucc
        refine Ret.guard ?_ ?_
        · unfold lim; simp; omega
        · exact hn _ (by rw [hsucc])
      · rw [hk, e2] at hsucc
        exact hn _ (by rw [hsucc]; simp)
    · rw [hk, decide_eq_false e1] at hsucc
      exact hn _ (by rw [hsucc]; simp)
  · rintro s next rfl
    dsimp only
    refine Ret.mustN ?_ (Ret.ret ?_)
    · omega
    rw [List.take_length]
omit hN in
theorem at_some {α ρ : Type} {R : ρ → Prop} {xs : List α} {i : Int} {x : α} {k : α → Option ρ} (h0 : 0 ≤ i) (h : xs[i.toNat]? = some x) (hk : Ret (k x) R) : Ret (obind (atI xs i) k) R := by
  obtain ⟨h1, h2⟩ := List.getElem?_eq_some_iff.1 h
  subst h2
  exact Ret.atZ h0 h1 hk
theorem impl_capOf {b : DBlock} {p : Plc} (hp : PlcP b p) : Ret (F_impl_Design_capOf N (b.2.1, b.1, p, u)) (fun _ => True) := by
  unfold F_impl_Design_capOf
  dsimp only
  rcases hp with ⟨h1, _⟩ | ⟨h0, c, ⟨_, x, h1, h2, h3⟩, h4, h5⟩
  · refine Ret.must ?_ (Ret.ret trivial)
    omega
  · refine Ret.mustN ?_ ?_
    · omega
    exact at_some h0 h1 (at_some h2 h3 (Ret.atZ h4 h5 (Ret.ret trivial)))
theorem impl_nodeLoads {b : DBlock} (hs : SmallB b) (hb : BlockP b) {k : Nat} (hk : k < b.2.2.1.length) : Ret (F_impl_Block_nodeLoads N (b, (k : Int), u)) (fun r => r.1.length = b.2.2.1[k].1.length) := by
  have hf := few_of hb.1
  have hw := hb.2.2 k hk
  have hws := hs.2.2.2 _ (List.getElem_mem hk)
  unfold F_impl_Block_nodeLoads
  dsimp only
  refine Ret.atN hk ?_
  generalize hwe : b.2.2.1[k] = w at *
  obtain ⟨⟨w1, w8⟩, wr, wc, wt, _, _, wsl, wsm⟩ := hw
  have hcl : F_slices_Clone_int64_int64 N (w.2.2.1, ()) = some (w.2.2.1, ()) := by
    unfold F_slices_Clone_int64_int64
    dsimp only
    rw [List.nil_append, decide_eq_true (by unfold lim; omega)]; rfl
  refine Ret.call hcl (Ret.call (impl_places hN hf) (Ret.call (impl_sinks hN hf _) ?_))
  have hsl := sinksL_len b.2.1 (k : Int)
  have hpl := placesL_len hf
  have hsc : sinkCount b.2.1 (k : Int) ≤ (placesL b.2.1).length := List.countP_le_length
  dsimp only
  refine Ret.up (sinksL b.2.1 (k : Int)).length (fun i s => s.1.length = w.1.length) (by omega) (by omega) (by dsimp only; omega) ?_ ?_
  · rintro i ⟨s, v⟩ next hi hI hn
    dsimp only at hI ⊢
    obtain ⟨j, hj, hjl⟩ := sinksL_mem (List.getElem_mem hi)
    have hsk : i < w.2.2.2.1.length := by omega
    have hr := wsm _ (List.getElem_mem hsk)
    refine Ret.must ?_ ?_
    · omega
    refine Ret.guardI hi (Ret.get hi (Ret.atN hsk ?_))
    simp only [Int.toNat_natCast]
    rw [hj]
    have h1 := hr.1
    have h2 := hr.2
    refine Ret.guardZ h1 (by omega) (Ret.get (by omega) (Ret.guardI hjl (Ret.get hjl ?_)))
    simp only [Int.toNat_natCast]
    refine Ret.bind (impl_capOf hN (places_ok hb.1 _ (List.getElem_mem hjl)).2) fun r _ => ?_
    refine Ret.guardZ h1 (by omega) (Ret.get (by omega) ?_)
    exact hn _ (by simpa using hI)
  · rintro ⟨s, v⟩ next hI
    dsimp only at hI ⊢
    refine Ret.mustN ?_ ?_
    · omega
    rw [wrapI (by omega) (by omega)]
    refine Ret.fix (I := fun s : Int × List Int × Unit => 0 ≤ s.1 ∧ s.1 < w.1.length ∧ s.2.1.length = w.1.length) (μ := fun s => s.1.toNat) ?_ N _ ⟨by dsimp only; omega, by dsimp only; omega, hI⟩ (by dsimp only; omega)
    rintro ⟨i, s, v⟩ next ⟨h0, h1, h2⟩ hn
    dsimp only at h0 h1 h2 ⊢
    refine Ret.ifd ?_ ?_ <;> intro e1
    · obtain ⟨j, rfl⟩ : ∃ j : Nat, i = (j : Int) := ⟨i.toNat, by omega⟩
      have hj : j < w.1.length := by omega
      obtain ⟨g1, g2⟩ := (wt j hj).2 (by omega)
      refine Ret.atN hj ?_
      refine Ret.guardZ g1 (by omega) (Ret.get (by omega) (Ret.guardI (by omega) (Ret.get (by omega) (Ret.guardZ g1 (by omega) (Ret.get (by omega) ?_)))))
      rw [wrapI (by omega) (by omega)]
      exact hn _ ⟨by dsimp only; omega, by dsimp only; omega, by simpa using h2⟩ (by dsimp only; omega)
    · exact Ret.ret h2
theorem impl_nodeDelays {b : DBlock} (hs : SmallB b) (hb : BlockP b) {k : Nat} (hk : k < b.2.2.1.length) : Ret (F_impl_Block_nodeDelays N (b, (k : Int), u)) (fun r => r.1.length = b.2.2.1[k].1.length) := by
  have hw := hb.2.2 k hk
  have hlo := impl_nodeLoads (u := u) hN hs hb hk
  unfold F_impl_Block_nodeDelays
  dsimp only
  refine Ret.atN hk ?_
  generalize hwe : b.2.2.1[k] = w at *
  obtain ⟨⟨w1, w8⟩, wr, wc, wt, _⟩ := hw
  refine Ret.bind hlo ?_
  rintro ⟨L, v⟩ hL
  dsimp only at hL ⊢
  refine Ret.guard3' ⟨by omega, by unfold lim; omega, rfl⟩ ?_
  refine Ret.upFrom 1 w.1.length (fun i s => s.1.length = w.1.length) (by omega) (by omega) (by omega) (by simp [hL]) ?_ ?_
  · rintro i ⟨s, v⟩ next hi1 hi hI hn
    dsimp only at hI ⊢
    obtain ⟨g1, g2⟩ := (wt i hi).2 (by omega)
    refine Ret.must ?_ ?_
    · omega
    refine Ret.atN hi (Ret.guardZ g1 (by omega) (Ret.get (by omega) (Ret.atN (by omega) (Ret.guardI (by omega) (Ret.get (by omega) (Ret.guardI (by omega) (Ret.get (by omega) ?_)))))))
    exact hn _ (by simpa using hI)
  · rintro ⟨s, v⟩ next hI
    dsimp only at hI ⊢
    refine Ret.mustN ?_ (Ret.ret hI)
    omega
theorem impl_exactDelays {b : DBlock} (hs : SmallB b) (hb : BlockP b) {k : Nat} (hk : k < b.2.2.1.length) : Ret (F_impl_Block_exactDelays N (b, (k : Int), u)) (fun r => r.1.length = b.2.2.1[k].2.2.2.1.length) := by
  have hw := hb.2.2 k hk
  have hf := few_of hb.1
  have hlo := impl_nodeDelays (u := u) hN hs hb hk
  unfold F_impl_Block_exactDelays
  dsimp only
  refine Ret.bind hlo ?_
  rintro ⟨L, v⟩ hL
  refine Ret.atN hk ?_
  dsimp only at hL ⊢
  generalize hwe : b.2.2.1[k] = w at *
  obtain ⟨⟨w1, w8⟩, wr, wc, wt, _, _, wsl, wsm⟩ := hw
  have hpl := placesL_len hf
  have hsc : sinkCount b.2.1 (k : Int) ≤ (placesL b.2.1).length := List.countP_le_length
  refine Ret.up w.2.2.2.1.length (fun i s => s.1.length = i) (by omega) (by omega) rfl ?_ ?_
  · rintro i ⟨s, v⟩ next hi hI hn
    dsimp only at hI ⊢
    have hr := wsm _ (List.getElem_mem hi)
    have h1 := hr.1
    have h2 := hr.2
    refine Ret.must ?_ ?_
    · omega
    refine Ret.atN hi (Ret.guardZ h1 (by omega) (Ret.get (by omega) (Ret.guard ?_ ?_)))
    · unfold lim; simp; omega
    exact hn _ (by simp [hI])
  · rintro ⟨s, v⟩ next hI
    dsimp only at hI ⊢
    refine Ret.mustN ?_ (Ret.ret hI)
    omega
omit hN in
theorem impl_transitions (a : DArc) : Ret (F_impl_Arc_transitions N (a, u)) (fun r => r.1.length ≤ 4) := by
  unfold F_impl_Arc_transitions
  dsimp only
  repeat' (first | exact Ret.ret (by simp) | ((with_reducible refine Ret.ifnd ?_ ?_) <;> intro _) | ((with_reducible refine Ret.ifd ?_ ?_) <;> intro _))
theorem impl_cellLinks {b : DBlock} (hb : BlockP b) {i : Nat} (hi : i < b.2.1.1.length) (first : Int) : Ret (F_impl_Block_cellLinks N (b, b.2.1.1[i], first, u)) (fun r => r.1.length ≤ 32) := by
  obtain ⟨c, ⟨_, x, hx, h2, h3⟩, _⟩ := inst_cell hb.1 hi
  have hx' : b.2.1.1[i]? = some x := by simpa using hx
  rw [List.getElem?_eq_getElem hi] at hx'
  obtain rfl : b.2.1.1[i] = x := Option.some.inj hx'
  have hc : CellP c := hb.1.1.1 c (List.mem_of_getElem? h3)
  have h8 := hc.2.2.1.2.2
  unfold F_impl_Block_cellLinks
  dsimp only
  refine at_some h2 h3 ?_
  refine Ret.up c.2.2.2.1.length (fun i s => s.1.length ≤ 4 * i) (by omega) (by omega) (by simp) ?_ ?_
  · rintro k ⟨s, v⟩ next hk hI hn
    dsimp only at hI ⊢
    refine Ret.must ?_ ?_
    · omega
    refine Ret.atN hk (Ret.bind (impl_transitions _) ?_)
    rintro ⟨T, v⟩ hT
    dsimp only at hT ⊢
    refine Ret.up T.length (fun j s => s.1.length ≤ 4 * k + j) (by omega) (by omega) hI ?_ ?_
    · rintro j ⟨s, v⟩ next' hj hJ hm
      dsimp only at hJ ⊢
      refine Ret.must ?_ ?_
      · omega
      refine Ret.guardI hj (Ret.get hj (Ret.guard ?_ ?_))
      · unfold lim; simp; omega
      exact hm _ (by simp; omega)
    · rintro ⟨s, v⟩ next' hJ
      dsimp only at hJ ⊢
      refine Ret.mustN ?_ (hn _ ?_)
      · omega
      · dsimp only; omega
  · rintro ⟨s, v⟩ next hI
    dsimp only at hI ⊢
    refine Ret.mustN ?_ (Ret.ret ?_)
    · omega
    · dsimp only; omega
omit hN in
theorem set_all {α : Type} {P : α → Prop} {xs : List α} {i : Nat} {y : α} (h : ∀ x ∈ xs, P x) (hy : P y) : ∀ x ∈ xs.set i y, P x := fun x hx => by
  rcases List.mem_or_eq_of_mem_set hx with h1 | h1
  · exact h x h1
  · rw [h1]; exact hy
theorem impl_newView {b : DBlock} (hs : SmallB b) (hb : BlockP b) : ∃ L, F_impl_newView N (b, u) = some (some (b, placesL b.2.1, L), ()) := by
  suffices h : Ret (F_impl_newView N (b, u)) (fun r => ∃ L, r = (some (b, placesL b.2.1, L), ())) by
    obtain ⟨r, h1, L, rfl⟩ := h
    exact ⟨L, h1⟩
  have hf := few_of hb.1
  have h30 := hb.1.2.1.1.2.1
  have hwl := hb.2.1
  unfold F_impl_newView
  dsimp only
  refine Ret.call (impl_places hN hf) ?_
  have hpl := placesL_len hf
  have hok := places_ok hb.1
  have f1 := hf.1
  dsimp only
  refine Ret.fix (I := fun s : Int × Int × (List DCell × List DInstance × List ByteArray × List DPort × List DWire × Unit) × List DLink × Unit => ∃ i : Nat, s.2.1 = (i : Int) ∧ i ≤ b.2.1.1.length ∧ s.2.2.1 = (b.1.1, b.2.1.1, b.2.1.2.1, b.2.1.2.2.1, b.2.2) ∧ s.2.2.2.1.length ≤ 32 * i) (μ := fun s => b.2.1.1.length - s.2.1.toNat) ?_ N _ ⟨0, rfl, by omega, rfl, by simp⟩ (by dsimp only; omega)
  rintro ⟨f, j, B, L, v⟩ next ⟨i, hj, hi, hB, hL⟩ hn
  dsimp only at hj hB hL ⊢
  subst hj hB
  refine Ret.ifd ?_ ?_ <;> intro e1
  · have hi' : i < b.2.1.1.length := by omega
    refine Ret.atN hi' (Ret.bind (impl_cellLinks hN hb hi' _) ?_)
    rintro ⟨r, v⟩ hr
    dsimp only at hr ⊢
    refine Ret.guard ?_ ?_
    · unfold lim; simp; omega
    refine Ret.call (show F_impl_length_int64 N _ = some _ from rfl) ?_
    dsimp only
    rw [wrapI (n := (i : Int) + 1) (by omega) (by omega)]
    exact hn _ ⟨i + 1, by dsimp only; omega, by omega, rfl, by simp; omega⟩ (by dsimp only; omega)
  have hi14 : L.length ≤ 448 := by omega
  clear hL hn e1 hi
  refine Ret.guard3' ⟨by omega, by unfold lim; omega, rfl⟩ (Ret.guard3' ⟨by omega, by unfold lim; omega, rfl⟩ ?_)
  refine Ret.up (placesL b.2.1).length (fun i s => s.1.length = b.2.2.1.length ∧ s.2.1.length = b.2.2.1.length ∧ ∀ l ∈ s.2.1, l.length ≤ i) (by omega) (by omega) (by simp) ?_ ?_
  · rintro i ⟨D, S, v⟩ next hi ⟨hD, hS, hI⟩ hn
    dsimp only at hD hS hI ⊢
    have hnt := (hok _ (List.getElem_mem hi)).1
    have h1 := hnt.1
    have h2 := hnt.2
    refine Ret.must ?_ ?_
    · omega
    refine Ret.guardI hi (Ret.get hi ?_)
    simp only [Int.toNat_natCast]
    refine Ret.bif ?_ ?_ <;> intro e1
    · refine Ret.guardZ h1 (by omega) (Ret.get (by omega) ?_)
      exact hn _ ⟨by simpa using hD, hS, fun l hl => by have := hI l hl; omega⟩
    · have hlt : (placesL b.2.1)[i].2.2.1.toNat < S.length := by omega
      have hle := hI _ (List.getElem_mem hlt)
      refine Ret.guardZ h1 (by omega) (Ret.get hlt (Ret.get hlt (Ret.guard ?_ ?_)))
      · unfold lim; simp; omega
      refine Ret.guardZ h1 (by simp; omega) ?_
      refine Ret.mustB (by simp) (Ret.get (by simpa using hlt) ?_)
      exact hn _ ⟨hD, by simpa using hS, set_all (fun l hl => by have := hI l hl; omega) (by simp; omega)⟩
  rintro ⟨D, S, v⟩ next ⟨hD, hS, hI⟩
  dsimp only at hD hS hI ⊢
  refine Ret.mustN ?_ ?_
  · omega
  refine Ret.up b.2.2.1.length (fun i s => s.1 = (b.1.1, b.2.1.1, b.2.1.2.1, b.2.1.2.2.1, b.2.2) ∧ s.2.1.length ≤ 448 + 156 * i ∧ s.2.2.1.length = i ∧ s.2.2.2.1.length = i) (by omega) (by omega) ⟨rfl, by dsimp only; omega, rfl, rfl⟩ ?_ ?_
  · rintro i ⟨B, L, X, Y, v⟩ next hi ⟨hB, hL, hX, hY⟩ hn
    dsimp only at hB hL hX hY ⊢
    subst hB
    refine Ret.must ?_ ?_
    · omega
    refine Ret.bind (impl_nodeLoads hN hs hb hi) ?_
    rintro ⟨r, v⟩ hr
    dsimp only at hr ⊢
    have hw1 := (hb.2.2 i hi).1.1
    refine Ret.guardI (i := 0) (by omega) (Ret.get (show (0 : Int).toNat < r.length by simp; omega) (Ret.guard ?_ ?_))
    · unfold lim; simp; omega
    refine Ret.bind (impl_exactDelays hN hs hb hi) ?_
    rintro ⟨r2, v⟩ _
    refine Ret.guard ?_ ?_
    · unfold lim; simp; omega
    have his : i < S.length := by omega
    have hle := hI _ (List.getElem_mem his)
    refine Ret.atN his ?_
    generalize S[i] = E at *
    refine Ret.up E.length (fun j s => s.1 = (b.1.1, b.2.1.1, b.2.1.2.1, b.2.1.2.2.1, b.2.2) ∧ s.2.1.length ≤ 448 + 156 * i + 2 * j) (by omega) (by omega) ⟨rfl, by dsimp only; omega⟩ ?_ ?_
    · rintro j ⟨B, L, v⟩ next' hj ⟨hB, hL⟩ hm
      dsimp only at hB hL ⊢
      subst hB
      refine Ret.must ?_ ?_
      · omega
      refine Ret.atN hj ?_
      refine Ret.up 2 (fun t s => s.1 = (b.1.1, b.2.1.1, b.2.1.2.1, b.2.1.2.2.1, b.2.2) ∧ s.2.1.length ≤ 448 + 156 * i + 2 * j + t) (by omega) (by omega) ⟨rfl, by dsimp only; omega⟩ ?_ ?_
      · rintro t ⟨B, L, v⟩ next'' ht ⟨hB, hL⟩ hq
        dsimp only at hB hL ⊢
        subst hB
        refine Ret.must ?_ ?_
        · omega
        refine Ret.guardI (by omega) (Ret.get (by simp; omega) (Ret.guard ?_ ?_))
        · unfold lim; simp; omega
        exact hq _ ⟨rfl, by simp; omega⟩
      · rintro ⟨B, L, v⟩ next'' ⟨hB, hL⟩
        dsimp only at hB hL ⊢
        refine Ret.mustN (by omega) (hm _ ⟨hB, by dsimp only; omega⟩)
    · rintro ⟨B, L, v⟩ next' ⟨hB, hL⟩
      dsimp only at hB hL ⊢
      refine Ret.mustN (by omega) (hn _ ⟨hB, by dsimp only; omega, by simp [hX], by simp [hY]⟩)
  · rintro ⟨B, L, X, Y, v⟩ next ⟨hB, _⟩
    dsimp only at hB ⊢
    subst hB
    refine Ret.mustN (by omega) (Ret.ret ⟨_, rfl⟩)
end
end Go.Proofs.YtbdokiecpmhjmaaGreatDoor
