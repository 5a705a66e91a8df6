/- Fractions, sources and assignments: both sides. No program in sight. -/
import Derived.Test.YtlmcbeppmlblbaaGreatDoorPwLog5
namespace Go.Proofs.YtlmcbeppmlblbaaGreatDoor
set_option linter.unusedSimpArgs false
set_option linter.unusedVariables false
set_option linter.unusedSectionVars false
set_option linter.unusedVariables false
set_option linter.unusedSimpArgs false
set_option maxHeartbeats 1000000

def FracP (f : Int × Int × Unit) : Prop := BtwP 1 1000000 f.2.1 ∧ BtwP 0 f.2.1 f.1 ∧ Nat.gcd f.1.toNat f.2.1.toNat = 1
def ActP (a : (Int × Int × Unit) × Int × Unit) : Prop := FracP a.1 ∧ a.1.2.1 ≤ 10 ∧ BtwP 0 1000 a.2.1
/-- The nets that no gate drives. -/
noncomputable def srcUpto (b : DBlock) (i : Nat) : List Int := ((List.range i).filter fun k => decide (gateOf b k < 0)).map fun k : Nat => (k : Int)
noncomputable def srcOf (b : DBlock) : List Int := srcUpto b b.2.1.2.1.length
theorem srcUpto_succ (b : DBlock) (i : Nat) : srcUpto b (i + 1) = if gateOf b i < 0 then srcUpto b i ++ [(i : Int)] else srcUpto b i := by
  unfold srcUpto
  rw [List.range_succ, List.filter_append, List.map_append]
  by_cases h : gateOf b i < 0
  · rw [if_pos h]; simp [h]
  · rw [if_neg h]; simp [h]
theorem srcUpto_len (b : DBlock) (i : Nat) : (srcUpto b i).length ≤ i := by
  unfold srcUpto
  rw [List.length_map]
  exact Nat.le_trans (List.length_filter_le _ _) (by simp)
def AssignP (b : DBlock) (l : List ((Int × Int × Unit) × Int × Unit)) : Prop := (BlockP b ∧ Ranked b) ∧ l.length = (srcOf b).length ∧ ∀ a ∈ l, ActP a
section
variable {N : Nat} (hN : 4000000 ≤ N)
include hN
theorem gcd_loop (m n : Nat) (hn : n ≤ 1000000) (u : Unit) : Ret (fixN N (fun (next2 : (Int × (Int × Unit)) → Option (Int × Unit)) (s1 : (Int × (Int × Unit))) =>
    (bif (!decide (s1.2.1 = (0 : Int))) then (bif decide (s1.2.1 = 0) then none else next2 (s1.2.1, (s1.1.tmod s1.2.1), ())) else some (s1.1, ()))) ((m : Int), (n : Int), u)) (fun r => r.1 = (Nat.gcd m n : Int)) := by
  refine Ret.fix (I := fun s => ∃ a c : Nat, s.1 = (a : Int) ∧ s.2.1 = (c : Int) ∧ Nat.gcd a c = Nat.gcd m n) (μ := fun s => s.2.1.toNat) ?_ N _ ⟨m, n, rfl, rfl, rfl⟩ (by dsimp only; omega)
  rintro ⟨x, y, v⟩ next ⟨a, c, h1, h2, h3⟩ hnext
  dsimp only at h1 h2 ⊢
  subst h1 h2
  refine Ret.ifnd ?_ ?_ <;> intro h0
  · refine Ret.guardN h0 ?_
    have e : ((a : Int).tmod (c : Int)) = ((a % c : Nat) : Int) := rfl
    rw [e]
    have hlt := Nat.mod_lt a (show c > 0 by omega)
    refine hnext _ ⟨c, a % c, rfl, rfl, ?_⟩ (by dsimp only; omega)
    rw [← h3, Nat.gcd_comm a c, Nat.gcd_rec c a, Nat.gcd_comm]
  · obtain rfl : c = 0 := by omega
    rw [Nat.gcd_zero_right] at h3
    exact Ret.ret (by dsimp only; rw [h3])
theorem spec_IsFraction (f : Int × Int × Unit) (u : Unit) : F_spec_IsFraction N (f, u) = some (dec (FracP f), ()) := by
  obtain ⟨n, d, v⟩ := f
  refine Ret.tells ?_
  unfold F_spec_IsFraction
  dsimp only
  refine Ret.call (spec_l01In N _ _ _ _) (Ret.ifc ?_ ?_) <;> intro h1
  · refine Ret.call (spec_l01In N _ _ _ _) (Ret.ifc ?_ ?_) <;> intro h2
    · have h1' := h1; have h2' := h2
      unfold BtwP at h1' h2'
      have hg := gcd_loop hN d.toNat n.toNat (by omega) ()
      rw [Int.toNat_of_nonneg (by omega), Int.toNat_of_nonneg (by omega)] at hg
      refine Ret.bind hg ?_
      rintro ⟨g, w⟩ rfl
      refine Ret.ret (tells_decide.2 ⟨fun h => ⟨h1, h2, ?_⟩, fun h => ?_⟩)
      · rw [Nat.gcd_comm]; dsimp only at h ⊢; omega
      · have := h.2.2
        rw [Nat.gcd_comm] at this
        dsimp only at this ⊢; omega
    · exact Ret.ret (tells_false.2 fun h => h2 h.2.1)
  · exact Ret.ret (tells_false.2 fun h => h1 h.1)
theorem impl_IsFraction (f : Int × Int × Unit) (u : Unit) : F_impl_IsFraction N (f, u) = some (dec (FracP f), ()) := by
  obtain ⟨n, d, v⟩ := f
  refine Ret.tells ?_
  unfold F_impl_IsFraction
  dsimp only
  refine Ret.call (impl_within N _ _ _ _) (Ret.ifc ?_ ?_) <;> intro h1
  · refine Ret.call (impl_within N _ _ _ _) (Ret.ifc ?_ ?_) <;> intro h2
    · have h1' := h1; have h2' := h2
      unfold BtwP at h1' h2'
      have hg := gcd_loop hN n.toNat d.toNat (by omega) v
      rw [Int.toNat_of_nonneg (by omega), Int.toNat_of_nonneg (by omega)] at hg
      refine Ret.bind hg ?_
      rintro ⟨g, w⟩ rfl
      refine Ret.ret (tells_decide.2 ⟨fun h => ⟨h1, h2, ?_⟩, fun h => ?_⟩)
      · dsimp only at h ⊢; omega
      · have := h.2.2
        dsimp only at this ⊢; omega
    · exact Ret.ret (tells_false.2 fun h => h2 h.2.1)
  · exact Ret.ret (tells_false.2 fun h => h1 h.1)
variable {b : DBlock} (hb : SmallB b)
include hb
theorem spec_l28Sources (hB : BlockP b) (u : Unit) : F_spec_l28Sources N (b, u) = some (srcOf b, ()) := by
  have hsm := block_small hB
  refine Ret.eq ?_
  unfold F_spec_l28Sources
  dsimp only
  refine Ret.up b.2.1.2.1.length (fun i s => s = (srcUpto b i, ())) (by omega) (by omega) rfl ?_ ?_
  · rintro i s next hi rfl hn
    dsimp only
    have hl := srcUpto_len b i
    have hs := srcUpto_succ b i
    refine Ret.must (by omega) ?_
    refine Ret.call (spec_l28Gate hN hb hB hi ()) ?_
    dsimp only
    refine Ret.ifd ?_ ?_ <;> intro h
    · rw [if_pos h] at hs
      refine Ret.guard (by rw [List.length_append]; simp only [List.length_cons, List.length_nil]; unfold lim; omega) ?_
      exact hn _ (by rw [hs])
    · rw [if_neg h] at hs
      exact hn _ (by rw [hs])
  · rintro s next rfl
    dsimp only
    exact Ret.mustN (by omega) (Ret.ret rfl)
theorem impl_logic_sources (hB : BlockP b) {gates : List Int} {ord : List Int × Unit} (hg : gates.length = b.2.1.2.1.length ∧ ∀ k (h : k < gates.length), gates[k] = gateOf b k) (u : Unit) : F_impl_logic_sources N (some (b, gates, ord), u) = some (srcOf b, ()) := by
  have hsm := block_small hB
  refine Ret.eq ?_
  unfold F_impl_logic_sources
  dsimp only
  refine Ret.call rfl ?_
  dsimp only
  refine Ret.up gates.length (fun i s => s = (srcUpto b i, ())) (by omega) (by omega) rfl ?_ ?_
  · rintro i s next hi rfl hn
    dsimp only
    have hl := srcUpto_len b i
    have hs := srcUpto_succ b i
    refine Ret.must (by omega) ?_
    refine Ret.atN hi ?_
    rw [hg.2 i hi]
    refine Ret.ifd ?_ ?_ <;> intro h
    · rw [if_pos h] at hs
      refine Ret.guard (by rw [List.length_append]; simp only [List.length_cons, List.length_nil]; unfold lim; omega) ?_
      exact hn _ (by rw [hs])
    · rw [if_neg h] at hs
      exact hn _ (by rw [hs])
  · rintro s next rfl
    dsimp only
    refine Ret.mustN (by omega) (Ret.ret ?_)
    rw [hg.1]; rfl
theorem spec_IsAssignment {l : List ((Int × Int × Unit) × Int × Unit)} (hl : l.length < 4000000) (u : Unit) : F_spec_IsAssignment N (b, l, u) = some (dec (AssignP b l), ()) := by
  refine Ret.tells ?_
  unfold F_spec_IsAssignment
  dsimp only
  by_cases hBR : BlockP b ∧ Ranked b
  · obtain ⟨hB, hR⟩ := hBR
    refine Ret.call (a := ((0 : Int), ())) ?_ ?_
    · refine Ret.eq ?_
      unfold F_spec_l28Code
      refine Ret.call (spec_IsBlock hN hb) ?_
      dsimp only
      rw [dec_of hB]
      refine Ret.call (spec_IsLogical hN hb ()) ?_
      dsimp only
      rw [dec_of ⟨hB, hR⟩]
      exact Ret.ret rfl
    dsimp only
    refine Ret.mustNN rfl ?_
    refine Ret.call (spec_l28Sources hN hb hB ()) ?_
    dsimp only
    refine Ret.ifnd ?_ ?_ <;> intro hlen
    · exact Ret.ret (tells_false.2 fun h => hlen (by rw [h.2.1]))
    refine Ret.up l.length (fun i _ => ∀ j (h : j < l.length), j < i → ActP l[j]) (by omega) (by omega) (fun j _ h => absurd h (by omega)) ?_ ?_
    · intro i s next hi hI hn
      dsimp only
      refine Ret.must (by omega) ?_
      refine Ret.atN hi ?_
      refine Ret.call (spec_IsFraction hN _ _) ?_
      have hno : ¬ ActP l[i] → Ret (some (false, ())) (Tells (AssignP b l)) := fun h => Ret.ret (tells_false.2 fun hA => h (hA.2.2 _ (List.getElem_mem hi)))
      dsimp only
      refine Ret.ifnc ?_ ?_ <;> intro h1
      · exact hno fun h => h1 h.1
      refine Ret.atN hi ?_
      refine Ret.ifd ?_ ?_ <;> intro h2
      · exact hno fun h => by have := h.2.1; omega
      refine Ret.atN hi ?_
      refine Ret.call (spec_l01In N _ _ _ _) ?_
      dsimp only
      refine Ret.ifnc ?_ ?_ <;> intro h3
      · exact hno fun h => h3 h.2.2
      refine hn () fun j hj hji => ?_
      by_cases e : j < i
      · exact hI j hj e
      · obtain rfl : j = i := by omega
        exact ⟨h1, by omega, h3⟩
    · intro s next hI
      dsimp only
      refine Ret.mustN (by omega) (Ret.ret (tells_true.2 ⟨⟨hB, hR⟩, by omega, fun a ha => ?_⟩))
      obtain ⟨j, hj, rfl⟩ := List.getElem_of_mem ha
      exact hI j hj hj
  · have hc : ∃ c, c ≠ 0 ∧ F_spec_l28Code N (b, ()) = some (c, ()) := by
      unfold F_spec_l28Code
      by_cases hB : BlockP b
      · refine ⟨7, by omega, Ret.eq ?_⟩
        refine Ret.call (spec_IsBlock hN hb) ?_
        dsimp only
        rw [dec_of hB]
        refine Ret.call (spec_IsLogical hN hb ()) ?_
        dsimp only
        rw [dec_not hBR]
        exact Ret.ret rfl
      · refine ⟨1, by omega, Ret.eq ?_⟩
        refine Ret.call (spec_IsBlock hN hb) ?_
        dsimp only
        rw [dec_not hB]
        exact Ret.ret rfl
    obtain ⟨c, h1, h2⟩ := hc
    refine Ret.call h2 ?_
    dsimp only
    refine Ret.ifnd ?_ ?_ <;> intro h
    · exact Ret.ret (tells_false.2 fun h => hBR h.1)
    · exact absurd h h1
theorem impl_IsAssignment {l : List ((Int × Int × Unit) × Int × Unit)} (hl : l.length < 4000000) (u : Unit) : F_impl_IsAssignment N (b, l, u) = some (dec (AssignP b l), ()) := by
  refine Ret.tells ?_
  unfold F_impl_IsAssignment
  dsimp only
  refine Ret.bind (impl_logicOf hN hb (s := []) (by simp) ()) ?_
  rintro ⟨o, c, v⟩ h
  dsimp only at h ⊢
  rcases h with ⟨h1, h2⟩ | ⟨h1, h2, h3⟩ | ⟨hB, hR, ⟨h1, h2⟩ | ⟨h1, h2, gates, ord, h3, hg, ht⟩⟩
  · exact Ret.mustN (by omega) (Ret.ret (tells_false.2 fun h => h2 h.1.1))
  · exact Ret.mustN (by omega) (Ret.ret (tells_false.2 fun h => h3 h.1.2))
  · exact absurd (fun k hk => by cases hk) h2
  subst h3
  refine Ret.must h1 ?_
  have hall : F_slices_ContainsFunc_impl_Activity_impl_Activity_c_impl_logic_isAssignment_1 N (l, (), ()) = some (dec (∃ a ∈ l, ¬ ActP a), ()) := by
    unfold F_slices_ContainsFunc_impl_Activity_impl_Activity_c_impl_logic_isAssignment_1 F_slices_IndexFunc_impl_Activity_impl_Activity_c_impl_logic_isAssignment_1
    refine containsFunc_eq (indexFunc_eq (fun e => F_impl_logic_isAssignment_1 N (e, ())) (fun a => ¬ ActP a) (fun a _ => ?_) hl hN)
    refine Ret.tells ?_
    unfold F_impl_logic_isAssignment_1
    dsimp only
    refine Ret.call (impl_IsFraction hN _ _) ?_
    dsimp only
    refine Ret.ifnc ?_ ?_ <;> intro h1
    · exact Ret.ret (tells_true.2 fun h => h1 h.1)
    refine Ret.ifd ?_ ?_ <;> intro h2
    · exact Ret.ret (tells_true.2 fun h => by have := h.2.1; omega)
    refine Ret.call (impl_within N _ _ _ _) ?_
    refine Ret.ret (tells_ndec.2 ⟨fun h3 h => h3 h.2.2, fun h h3 => h ⟨h1, by omega, h3⟩⟩)
  refine Ret.bind (Q := Tells (AssignP b l)) ?_ fun r hr => Ret.ret hr
  unfold F_impl_logic_isAssignment
  dsimp only
  refine Ret.call (impl_logic_sources hN hb hB hg ()) ?_
  dsimp only
  refine Ret.ifd ?_ ?_ <;> intro hlen
  · refine Ret.call hall ?_
    refine Ret.ret (tells_ndec.2 ⟨fun h => ⟨⟨hB, hR⟩, by omega, fun a ha => Classical.byContradiction fun hn => h ⟨a, ha, hn⟩⟩, fun h ⟨a, ha, hn⟩ => hn (h.2.2 a ha)⟩)
  · exact Ret.ret (tells_false.2 fun h => hlen (by rw [h.2.1]))
end
end Go.Proofs.YtlmcbeppmlblbaaGreatDoor
