/- Designs: both sides. No program in sight. -/
import Derived.Test.YtbdokiecpmhjmaaGreatDoorPwDes
namespace Go.Proofs.YtbdokiecpmhjmaaGreatDoor
set_option linter.unusedSimpArgs false
set_option linter.unusedVariables false
set_option linter.unusedSectionVars false
set_option linter.unusedVariables false
set_option linter.unusedSimpArgs false

section
variable {N : Nat} (hN : 4000000 ≤ N) {u : Unit}
include hN
theorem impl_IsDesign_cf {s : List Int} (hs : s.length < 4000000) {n : Nat} {f : Nat → Nat} (h : CountsL n f s) (v w : Unit) : F_slices_ContainsFunc_int_int_c_impl_IsDesign_1 N (s, v, w) = some (dec (¬ ∀ k, k < n → f k = 1), ()) := by
  unfold F_slices_ContainsFunc_int_int_c_impl_IsDesign_1 F_slices_IndexFunc_int_int_c_impl_IsDesign_1
  refine (containsFunc_eq (indexFunc_eq (fun e => F_impl_IsDesign_1 N (e, ())) (fun k => ¬ k = 1) (fun k _ => by
    unfold F_impl_IsDesign_1
    simp only [decide_dec, dec_not_eq]) hs hN)).trans ?_
  rw [dec_congr]
  constructor
  · rintro ⟨x, hx, hne⟩ hall
    obtain ⟨k, hk, rfl⟩ := List.getElem_of_mem hx
    rw [h.2 k hk, hall k (by rw [← h.1]; exact hk)] at hne
    exact hne rfl
  · intro hn
    refine Classical.byContradiction fun hne => hn fun k hk => Classical.byContradiction fun hk1 => hne ⟨s[k]'(by rw [h.1]; exact hk), List.getElem_mem _, ?_⟩
    rw [h.2 k]; omega
omit hN in
theorem drv_bound {d : DDesign} (hd : SmallD d) (i j k : Nat) : (d.1.take i).countP (fun x => decide (lastN x.2.2.1 = (k : Int))) + (d.2.2.1.take j).countP (fun p => decide (p.2.1 = 1 ∧ p.2.2.1 = (k : Int))) ≤ d.1.length + d.2.2.1.length := by
  have h1 : (d.1.take i).countP (fun x => decide (lastN x.2.2.1 = (k : Int))) ≤ (d.1.take i).length := List.countP_le_length
  have h2 : (d.2.2.1.take j).countP (fun p => decide (p.2.1 = 1 ∧ p.2.2.1 = (k : Int))) ≤ (d.2.2.1.take j).length := List.countP_le_length
  rw [List.length_take] at h1 h2
  omega
omit hN in
theorem cntI_succ {d : DDesign} {i : Nat} (hi : i < d.1.length) (k : Nat) : (d.1.take i).countP (fun x => decide (lastN x.2.2.1 = (k : Int))) + (if (k : Int) = lastN d.1[i].2.2.1 then 1 else 0) = (d.1.take (i + 1)).countP (fun x => decide (lastN x.2.2.1 = (k : Int))) := by
  rw [countP_take_succ hi]
  by_cases h : (k : Int) = lastN d.1[i].2.2.1
  · rw [if_pos h, if_pos (by simp [h])]
  · rw [if_neg h, if_neg (by simp; exact fun e => h e.symm)]
omit hN in
theorem cntP_succ {d : DDesign} {i : Nat} (hi : i < d.2.2.1.length) (k : Nat) : (d.2.2.1.take (i + 1)).countP (fun p => decide (p.2.1 = 1 ∧ p.2.2.1 = (k : Int))) = (d.2.2.1.take i).countP (fun p => decide (p.2.1 = 1 ∧ p.2.2.1 = (k : Int))) + (if d.2.2.1[i].2.1 = 1 ∧ (k : Int) = d.2.2.1[i].2.2.1 then 1 else 0) := by
  rw [countP_take_succ hi]
  congr 1
  by_cases h : d.2.2.1[i].2.1 = 1 ∧ (k : Int) = d.2.2.1[i].2.2.1
  · rw [if_pos h, if_pos (by simp [h.1, h.2])]
  · rw [if_neg h, if_neg (by simp; exact fun e e' => h ⟨e, e'.symm⟩)]
theorem impl_IsDesign {l : DLibrary} (hl : SmallL l) {d : DDesign} (hd : SmallD d) : F_impl_IsDesign N (l, d, u) = some (dec (DesignP l d), ()) := by
  refine Ret.tells ?_
  unfold F_impl_IsDesign
  dsimp only
  refine Ret.call (impl_IsLibrary hN hl) (Ret.ifnc ?_ ?_) <;> intro hL
  · exact Ret.ret (tells_false.2 fun h => hL h.1)
  refine Ret.call (impl_hasNames hN hd) (Ret.ifnc ?_ ?_) <;> intro hH
  · exact Ret.ret (tells_false.2 fun h => hH h.2.1)
  have b1 := hH.1.1; have b2 := hH.1.2.1; have b3 := hH.1.2.2
  have hb : ∀ i j k : Nat, (d.1.take i).countP (fun x => decide (lastN x.2.2.1 = (k : Int))) + (d.2.2.1.take j).countP (fun p => decide (p.2.1 = 1 ∧ p.2.2.1 = (k : Int))) < 4000000 := fun i j k => by have := drv_bound hd i j k; omega
  refine Ret.guard3' ⟨by omega, by unfold lim; omega, rfl⟩ ?_
  have hpins : ∀ c ∈ l.1, PinsP c.2.2.1 := fun c hc => (hL.1 c hc).2.1
  refine Ret.up d.1.length (fun i s => CountsL d.2.1.length (fun k => (d.1.take i).countP (fun x => decide (lastN x.2.2.1 = (k : Int)))) s.1 ∧ ∀ j, j < i → ∀ h : j < d.1.length, InstP l.1 d.2.1.length d.1[j]) (by omega) (by omega) ⟨by simpa using CountsL.zero d.2.1.length (by simp), upto_zero⟩ ?_ ?_
  · rintro i ⟨s, v⟩ next hi ⟨hC, hI⟩ hn
    dsimp only at hC ⊢
    refine Ret.must ?_ ?_
    · omega
    refine Ret.atN hi (Ret.call (impl_isInstance hN hl.1 hd.2.1.1 (hd.1.2 _ (List.getElem_mem hi)).2) (Ret.ifnc ?_ ?_)) <;> intro hx
    · exact Ret.ret (tells_false.2 fun h => hx (h.2.2.1.1 _ (List.getElem_mem hi)))
    obtain ⟨h2, h5, hlast⟩ := inst_last hpins hx
    have hw : IntKind.i64.wrap ((d.1[i].2.2.1.length : Int) - 1) = ((d.1[i].2.2.1.length - 1 : Nat) : Int) := by rw [wrapI] <;> omega
    rw [hw]
    rw [lastN_eq (by omega)] at hlast
    refine Ret.atN (by omega) ?_
    refine Ret.incr hC hlast.1 (by have := hlast.2; omega) (fun k => by have := hb i 0 k; simp at this; omega) (fun s' => next (IntKind.i64.wrap ((i : Int) + 1), s', ())) fun s' hs' => ?_
    refine hn (s', ()) ⟨hs'.congr fun k _ => ?_, upto_succ hI fun _ => hx⟩
    rw [← cntI_succ hi, lastN_eq (by omega)]
  rintro ⟨s, v⟩ next ⟨hC, hI⟩
  dsimp only at hC ⊢
  refine Ret.mustN ?_ ?_
  · omega
  rw [List.take_length] at hC
  have hinst : ∀ x ∈ d.1, InstP l.1 d.2.1.length x := forall_mem_iff.2 fun j hj => hI j hj hj
  clear hI
  refine Ret.up d.2.2.1.length (fun i s => CountsL d.2.1.length (fun k => d.1.countP (fun x => decide (lastN x.2.2.1 = (k : Int))) + (d.2.2.1.take i).countP (fun p => decide (p.2.1 = 1 ∧ p.2.2.1 = (k : Int)))) s.1 ∧ ∀ j, j < i → ∀ h : j < d.2.2.1.length, PortP d.2.1.length d.2.2.1[j]) (by omega) (by omega) ⟨hC.congr (by simp), upto_zero⟩ ?_ ?_
  · rintro i ⟨s, v⟩ next hi ⟨hC, hI⟩ hn
    dsimp only at hC ⊢
    have hb' : ∀ k : Nat, d.1.countP (fun x => decide (lastN x.2.2.1 = (k : Int))) + (d.2.2.1.take i).countP (fun p => decide (p.2.1 = 1 ∧ p.2.2.1 = (k : Int))) < 4000000 := fun k => by have := hb d.1.length i k; rw [List.take_length] at this; exact this
    have hbad : ¬ PortP d.2.1.length d.2.2.1[i] → ¬ DesignP l d := fun hg h => hg (h.2.2.1.2 _ (List.getElem_mem hi))
    refine Ret.must ?_ ?_
    · omega
    refine Ret.atN hi ?_
    have hnet : F_impl_Design_isNet N (d, d.2.2.1[i].2.2) = some (dec (BtwP 0 ((d.2.1.length : Int) - 1) d.2.2.1[i].2.2.1), ()) := impl_isNet hN hd.2.1.1 _
    refine Ret.ifnd ?_ ?_ <;> intro e1
    · refine Ret.ifnd ?_ ?_ <;> intro e2
      · exact Ret.ret (tells_false.2 (hbad fun h => by have := h.1; omega))
      refine Ret.call hnet (Ret.ifnc ?_ ?_) <;> intro e3
      · exact Ret.ret (tells_false.2 (hbad fun h => e3 h.2))
      refine Ret.mustN e1 (hn (s, ()) ⟨hC.congr fun k _ => ?_, upto_succ hI fun _ => ⟨.inr e2, e3⟩⟩)
      rw [cntP_succ hi, if_neg (fun h => e1 h.1)]; rfl
    · refine Ret.call hnet (Ret.ifnc ?_ ?_) <;> intro e3
      · exact Ret.ret (tells_false.2 (hbad fun h => e3 h.2))
      refine Ret.must e1 ?_
      refine Ret.incr hC e3.1 (by have := e3.2; omega) hb' (fun s' => next (IntKind.i64.wrap ((i : Int) + 1), s', ())) fun s' hs' => ?_
      refine hn (s', ()) ⟨hs'.congr fun k _ => ?_, upto_succ hI fun _ => ⟨.inl e1, e3⟩⟩
      rw [cntP_succ hi]
      simp only [e1, true_and]
      omega
  rintro ⟨s, v⟩ next ⟨hC, hI⟩
  dsimp only at hC ⊢
  refine Ret.mustN ?_ ?_
  · omega
  rw [List.take_length] at hC
  refine Ret.call (impl_IsDesign_cf hN (by rw [hC.1]; omega) hC () ()) (Ret.ret ?_)
  rw [tells_ndec]
  constructor
  · intro h; exact ⟨hL, hH, ⟨hinst, forall_mem_iff.2 fun j hj => hI j hj hj⟩, Classical.not_not.1 h⟩
  · intro h h'; exact h' h.2.2.2
theorem spec_l05Names {l : List ByteArray} (hl : SmallN l) : F_spec_l05Names N (l, u) = some (dec (NamesP l), ()) := by
  refine Ret.tells ?_
  unfold F_spec_l05Names
  have hl' := hl.1
  dsimp only
  refine Ret.up l.length (fun i _ => ∀ j, j < i → ∀ h : j < l.length, NameP l[j] ∧ ∀ k (h' : k < j), l[k] ≠ l[j]) (by omega) (by omega) upto_zero ?_ ?_
  · intro i u next hi hI hn
    dsimp only
    refine Ret.must ?_ ?_
    · omega
    refine Ret.atN hi (Ret.call (spec_l03Name hN (hl.2 _ (List.getElem_mem hi))) (Ret.ifnc ?_ ?_)) <;> intro h5
    · exact Ret.ret (tells_false.2 fun h => h5 (h.1 _ (List.getElem_mem hi)))
    refine Ret.up i (fun k _ => ∀ j (h : j < k) (h' : j < l.length), l[j] ≠ l[i]) (by omega) (by omega) (fun j h => by omega) ?_ ?_
    · intro k v next' hk hJ hm
      dsimp only
      refine Ret.must ?_ ?_
      · omega
      refine Ret.atN (show k < l.length by omega) (Ret.atN hi (Ret.ifd ?_ ?_)) <;> intro e1
      · exact Ret.ret (tells_false.2 fun h => h.2 i hi k hk e1)
      · refine hm () fun j hj hj' => ?_
        rcases Nat.lt_or_ge j k with hl | hl
        · exact hJ j hl hj'
        · obtain rfl : j = k := by omega
          exact e1
    · intro v next' hJ
      dsimp only
      refine Ret.mustN ?_ (hn () (upto_succ hI fun _ => ⟨h5, fun k hk => hJ k hk (by omega)⟩))
      omega
  · intro u next hI
    dsimp only
    refine Ret.mustN ?_ (Ret.ret (tells_true.2 ⟨forall_mem_iff.2 fun j hj => (hI j hj hj).1, fun k hk j hj => (hI k hk hk).2 j hj⟩))
    omega
theorem spec_l05Parts {l : DLibrary} (hl : SmallL l) {d : DDesign} (hd : SmallD d) : F_spec_l05Parts N (l, d, u) = some (dec (PartsP l.1 d), ()) := by
  refine Ret.tells ?_
  unfold F_spec_l05Parts
  have h1 := hd.1.1; have h2 := hd.2.1.1; have h3 := hd.2.2.1
  dsimp only
  rw [len_wrap1 hN hl.1, len_wrap1 hN h2]
  refine Ret.up d.1.length (fun i _ => ∀ j, j < i → ∀ h : j < d.1.length, InstP l.1 d.2.1.length d.1[j]) (by omega) (by omega) upto_zero ?_ ?_
  · intro i u next hi hI hn
    have hbad : ¬ InstP l.1 d.2.1.length d.1[i] → ¬ PartsP l.1 d := fun hg h => hg (h.1 _ (List.getElem_mem hi))
    have hx := (hd.1.2 _ (List.getElem_mem hi)).2
    dsimp only
    refine Ret.must ?_ ?_
    · omega
    refine Ret.atN hi (Ret.call (spec_l01In _ _ _ _ _) (Ret.ifnc ?_ ?_)) <;> intro e1
    · exact Ret.ret (tells_false.2 (hbad fun h => e1 h.1))
    have hlt : d.1[i].2.1.toNat < l.1.length := by have := e1.1; have := e1.2; omega
    refine Ret.atZ e1.1 hlt (Ret.ifnd ?_ ?_) <;> intro e2
    · exact Ret.ret (tells_false.2 (hbad fun h => e2 (by obtain ⟨_, h⟩ := h.2.1; rw [h])))
    refine Ret.up d.1[i].2.2.1.length (fun k _ => ∀ j, j < k → ∀ h : j < d.1[i].2.2.1.length, BtwP 0 ((d.2.1.length : Int) - 1) d.1[i].2.2.1[j]) (by omega) (by omega) upto_zero ?_ ?_
    · intro k v next' hk hJ hm
      dsimp only
      refine Ret.must ?_ ?_
      · omega
      refine Ret.atN hk (Ret.call (spec_l01In _ _ _ _ _) (Ret.ifnc ?_ ?_)) <;> intro e3
      · exact Ret.ret (tells_false.2 (hbad fun h => e3 (h.2.2 _ (List.getElem_mem hk))))
      · exact hm () (upto_succ hJ fun _ => e3)
    · intro v next' hJ
      dsimp only
      refine Ret.mustN ?_ (hn () (upto_succ hI fun _ => ⟨e1, ⟨hlt, by omega⟩, forall_mem_iff.2 fun j hj => hJ j hj hj⟩))
      omega
  intro u next hI
  dsimp only
  refine Ret.mustN ?_ ?_
  · omega
  have hinst : ∀ x ∈ d.1, InstP l.1 d.2.1.length x := forall_mem_iff.2 fun j hj => hI j hj hj
  clear hI
  refine Ret.up d.2.2.1.length (fun i _ => ∀ j, j < i → ∀ h : j < d.2.2.1.length, PortP d.2.1.length d.2.2.1[j]) (by omega) (by omega) upto_zero ?_ ?_
  · intro i u next hi hI hn
    have hbad : ¬ PortP d.2.1.length d.2.2.1[i] → ¬ PartsP l.1 d := fun hg h => hg (h.2 _ (List.getElem_mem hi))
    dsimp only
    refine Ret.must ?_ ?_
    · omega
    refine Ret.atN hi (Ret.call (spec_l01In _ _ _ _ _) (Ret.ifnc ?_ ?_)) <;> intro e1
    · exact Ret.ret (tells_false.2 (hbad fun h => e1 (by have := h.1; unfold BtwP; omega)))
    refine Ret.atN hi (Ret.call (spec_l01In _ _ _ _ _) (Ret.ifnc ?_ ?_)) <;> intro e2
    · exact Ret.ret (tells_false.2 (hbad fun h => e2 h.2))
    · exact hn () (upto_succ hI fun _ => ⟨by unfold BtwP at e1; omega, e2⟩)
  · intro u next hI
    dsimp only
    refine Ret.mustN ?_ (Ret.ret (tells_true.2 ⟨hinst, forall_mem_iff.2 fun j hj => hI j hj hj⟩))
    omega
theorem spec_IsDesign {l : DLibrary} (hl : SmallL l) {d : DDesign} (hd : SmallD d) : F_spec_IsDesign N (l, d, u) = some (dec (DesignP l d), ()) := by
  refine Ret.tells ?_
  unfold F_spec_IsDesign
  have h1 := hd.1.1; have h2 := hd.2.1.1; have h3 := hd.2.2.1
  dsimp only
  refine Ret.call (spec_IsLibrary hN hl) (Ret.ifnc ?_ ?_) <;> intro hL
  · exact Ret.ret (tells_false.2 fun h => hL h.1)
  refine Ret.ifd ?_ ?_ <;> intro b1
  · exact Ret.ret (tells_false.2 fun h => by have := h.2.1.1.1; omega)
  refine Ret.ifd ?_ ?_ <;> intro b2
  · exact Ret.ret (tells_false.2 fun h => by have := h.2.1.1.2.1; omega)
  refine Ret.ifd ?_ ?_ <;> intro b3
  · exact Ret.ret (tells_false.2 fun h => by have := h.2.1.1.2.2; omega)
  refine Ret.call (spec_l05Parts hN hl hd) (Ret.ifnc ?_ ?_) <;> intro hP
  · exact Ret.ret (tells_false.2 fun h => hP h.2.2.1)
  refine Ret.up d.1.length (fun i s => s = ((d.1.take i).map (·.1), ())) (by omega) (by omega) rfl ?_ ?_
  · rintro i s next hi rfl hn
    dsimp only
    refine Ret.must ?_ ?_
    · omega
    refine Ret.atN hi (Ret.guard ?_ ?_)
    · unfold lim; simp; omega
    exact hn _ (by rw [List.take_succ_eq_append_getElem hi, List.map_append]; rfl)
  rintro s next rfl
  dsimp only
  refine Ret.mustN ?_ ?_
  · omega
  refine Ret.up d.2.2.1.length (fun i s => s = ((d.2.2.1.take i).map (·.1), ())) (by omega) (by omega) rfl ?_ ?_
  · rintro i s next hi rfl hn
    dsimp only
    refine Ret.must ?_ ?_
    · omega
    refine Ret.atN hi (Ret.guard ?_ ?_)
    · unfold lim; simp; omega
    exact hn _ (by rw [List.take_succ_eq_append_getElem hi, List.map_append]; rfl)
  rintro s next rfl
  dsimp only
  refine Ret.mustN ?_ ?_
  · omega
  rw [List.take_length, List.take_length]
  have n1 := spec_l05Names hN (l := d.1.map (·.1)) (u := ()) ⟨by simpa using h1, fun s hs => by obtain ⟨p, hp, rfl⟩ := List.mem_map.1 hs; exact (hd.1.2 p hp).1⟩
  have n2 := spec_l05Names hN (l := d.2.1) (u := ()) ⟨h2, hd.2.1.2⟩
  have n3 := spec_l05Names hN (l := d.2.2.1.map (·.1)) (u := ()) ⟨by simpa using h3, fun s hs => by obtain ⟨p, hp, rfl⟩ := List.mem_map.1 hs; exact hd.2.2.2 p hp⟩
  refine Ret.call n1 (Ret.ifnc ?_ ?_) <;> intro m1
  · exact Ret.ret (tells_false.2 fun h => m1 h.2.1.2.1)
  refine Ret.call n3 (Ret.ifnc ?_ ?_) <;> intro m3
  · exact Ret.ret (tells_false.2 fun h => m3 h.2.1.2.2.2)
  refine Ret.call n2 (Ret.ifnc ?_ ?_) <;> intro m2
  · exact Ret.ret (tells_false.2 fun h => m2 h.2.1.2.2.1)
  have hH : HasNames d := ⟨⟨by omega, by omega, by omega⟩, m1, m2, m3⟩
  have hb : ∀ i j k : Nat, (d.1.take i).countP (fun x => decide (lastN x.2.2.1 = (k : Int))) + (d.2.2.1.take j).countP (fun p => decide (p.2.1 = 1 ∧ p.2.2.1 = (k : Int))) < 4000000 := fun i j k => by have := drv_bound hd i j k; omega
  refine Ret.guard3' ⟨by omega, by unfold lim; omega, rfl⟩ ?_
  have hpins : ∀ c ∈ l.1, PinsP c.2.2.1 := fun c hc => (hL.1 c hc).2.1
  refine Ret.up d.1.length (fun i s => CountsL d.2.1.length (fun k => (d.1.take i).countP (fun x => decide (lastN x.2.2.1 = (k : Int)))) s.1) (by omega) (by omega) (by simpa using CountsL.zero d.2.1.length (by simp)) ?_ ?_
  · rintro i ⟨s, v⟩ next hi hC hn
    dsimp only at hC ⊢
    refine Ret.must ?_ ?_
    · omega
    refine Ret.atN hi ?_
    obtain ⟨h2, h5, hlast⟩ := inst_last hpins (hP.1 _ (List.getElem_mem hi))
    have hw : IntKind.i64.wrap ((d.1[i].2.2.1.length : Int) - 1) = ((d.1[i].2.2.1.length - 1 : Nat) : Int) := by rw [wrapI] <;> omega
    rw [hw]
    rw [lastN_eq (by omega)] at hlast
    refine Ret.atN (by omega) ?_
    refine Ret.incr hC hlast.1 (by have := hlast.2; omega) (fun k => by have := hb i 0 k; simp at this; omega) (fun s' => next (IntKind.i64.wrap ((i : Int) + 1), s', ())) fun s' hs' => ?_
    refine hn (s', ()) (hs'.congr fun k _ => ?_)
    rw [← cntI_succ hi, lastN_eq (by omega)]
  rintro ⟨s, v⟩ next hC
  dsimp only at hC ⊢
  refine Ret.mustN ?_ ?_
  · omega
  rw [List.take_length] at hC
  refine Ret.up d.2.2.1.length (fun i s => CountsL d.2.1.length (fun k => d.1.countP (fun x => decide (lastN x.2.2.1 = (k : Int))) + (d.2.2.1.take i).countP (fun p => decide (p.2.1 = 1 ∧ p.2.2.1 = (k : Int)))) s.1) (by omega) (by omega) (hC.congr (by simp)) ?_ ?_
  · rintro i ⟨s, v⟩ next hi hC hn
    dsimp only at hC ⊢
    have hb' : ∀ k : Nat, d.1.countP (fun x => decide (lastN x.2.2.1 = (k : Int))) + (d.2.2.1.take i).countP (fun p => decide (p.2.1 = 1 ∧ p.2.2.1 = (k : Int))) < 4000000 := fun k => by have := hb d.1.length i k; rw [List.take_length] at this; exact this
    have e3 := (hP.2 _ (List.getElem_mem hi)).2
    refine Ret.must ?_ ?_
    · omega
    refine Ret.atN hi ?_
    refine Ret.ifd ?_ ?_ <;> intro e1
    · refine Ret.atN hi ?_
      refine Ret.incr hC e3.1 (by have := e3.2; omega) hb' (fun s' => next (IntKind.i64.wrap ((i : Int) + 1), s', ())) fun s' hs' => ?_
      refine hn (s', ()) (hs'.congr fun k _ => ?_)
      rw [cntP_succ hi]
      simp only [e1, true_and]
      omega
    · refine hn (s, ()) (hC.congr fun k _ => ?_)
      rw [cntP_succ hi, if_neg (fun h => e1 h.1)]; rfl
  rintro ⟨s, v⟩ next hC
  dsimp only at hC ⊢
  refine Ret.mustN ?_ ?_
  · omega
  rw [List.take_length] at hC
  have hsl := hC.1
  refine Ret.up s.length (fun i _ => ∀ j, j < i → ∀ h : j < s.length, s[j] = 1) (by omega) (by omega) upto_zero ?_ ?_
  · intro i w next hi hI hn
    dsimp only
    refine Ret.must ?_ ?_
    · omega
    refine Ret.guardI hi (Ret.get hi (Ret.ifnd ?_ ?_)) <;> intro e1
    · refine Ret.ret (tells_false.2 fun h => e1 ?_)
      have := h.2.2.2 i (by omega)
      simp only [Int.toNat_natCast]
      rw [hC.2 i hi]
      dsimp only
      unfold drv at this
      omega
    · exact hn () (upto_succ hI fun _ => by simpa using e1)
  · intro w next hI
    dsimp only
    refine Ret.mustN ?_ (Ret.ret (tells_true.2 ⟨hL, hH, hP, fun k hk => ?_⟩))
    · omega
    have h4 := hI k (by omega) (by omega)
    rw [hC.2 k (by omega)] at h4
    dsimp only at h4
    unfold drv
    omega
end
end Go.Proofs.YtbdokiecpmhjmaaGreatDoor
