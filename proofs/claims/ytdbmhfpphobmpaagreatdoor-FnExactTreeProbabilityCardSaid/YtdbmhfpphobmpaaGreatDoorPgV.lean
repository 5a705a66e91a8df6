/- Values of nets. No program in sight. Values of nets: the reference's side. No program in sight. The sources of a block: both sides. No program in sight. ValuesFor: both sides. No program in sight. Functions of nets: both sides. No program in sight. DependsOn: both sides. No program in sight. -/
import Derived.Test.YtdbmhfpphobmpaaGreatDoorPgX
import Derived.Laws.BitsLemmas
namespace Go.Proofs.YtdbmhfpphobmpaaGreatDoor
set_option linter.unusedSimpArgs false
set_option linter.unusedVariables false
set_option linter.unusedSectionVars false
set_option maxHeartbeats 1000000
noncomputable def truthOf (b : DBlock) (k : Nat) : List Int := ((b.2.1.1[(gateOf b k).toNat]?).bind fun x => (b.1.1[x.2.1.toNat]?).map fun c => c.2.2.2.2.1).getD []
def idxP (V : Int → Int) (l : List Int) : Nat → Int
 | 0 => 0
 | p + 1 => idxP V l p + V (l[p]?.getD 0) * 2 ^ p
noncomputable def valN (b : DBlock) (src : Nat → Int) : Nat → Nat → Int
 | 0, _ => 0
 | m + 1, k => if gateOf b k < 0 then src k else ((truthOf b k)[(idxP (fun i => valN b src m i.toNat) (insOf b k) (insOf b k).length).toNat]?).getD 0
noncomputable def val (b : DBlock) (src : Nat → Int) (k : Nat) : Int := valN b src 31 k
section
variable {b : DBlock} (hB : BlockP b) {rank : Nat → Nat} (hr : RankP b rank)
include hB hr
omit hr in
theorem truth_ok {k : Nat} (hk : k < b.2.1.2.1.length) (hg : 0 ≤ gateOf b k) : (truthOf b k).length = 2 ^ (insOf b k).length ∧ ∀ v ∈ truthOf b k, 0 ≤ v ∧ v ≤ 1 := by
 rcases gateOf_cases hB.1 hk with ⟨h1, _⟩ | ⟨j, hj, hP⟩
 ·omega
 obtain ⟨hjl, hlast, hcl, hkind⟩ := hP
 have hP : GateP b k j := ⟨hjl, hlast, hcl, hkind⟩
 have ht : truthOf b k = (b.1.1[b.2.1.1[j].2.1.toNat]'hcl).2.2.2.2.1 := by
  unfold truthOf
  rw [hj, Int.toNat_natCast, List.getElem?_eq_getElem hjl]
  simp only [Option.bind_some]
  rw [List.getElem?_eq_getElem hcl]; rfl
 have hc := hB.1.1.1 _ (List.getElem_mem hcl)
 have hI := hB.1.2.2.1.1 _ (List.getElem_mem hjl)
 obtain ⟨_, ⟨h1, h2⟩, h3⟩ := hI
 have hins : (insOf b k).length = (b.1.1[b.2.1.1[j].2.1.toNat]'hcl).2.2.1.length - 1 := by
  rw [insOf_eq hB.1 hk hP, List.length_take, h2]
  omega
 rcases hc.2.2.2.2.2 with ⟨_, _, g1, g2⟩ | ⟨g0, _⟩ | ⟨g0, _⟩
 ·rw [ht, hins]
  exact ⟨g1, fun v hv => g2 v hv⟩
 ·omega
 ·omega
end
theorem mget_mset {α : Type} (l : List (Int × α)) (k j : Int) (x d : α) : mget (mset l k x) j d = if j = k then x else mget l j d := by
 induction l with
 | nil => by_cases h : j = k <;> simp [mset, mget, h]
 | cons p l ih =>
  unfold mset
  by_cases h : k = p.1
  ·rw [decide_eq_true h]
   simp only [cond_true, mget]
   by_cases hj : j = k
   ·rw [decide_eq_true hj, if_pos hj]; rfl
   ·rw [decide_eq_false hj, if_neg hj, decide_eq_false (by rw [← h]; exact hj)]; rfl
  ·rw [decide_eq_false h]
   simp only [cond_false, mget]
   by_cases hj : j = p.1
   ·rw [decide_eq_true hj, if_neg (by rw [hj]; exact Ne.symm h)]; rfl
   ·rw [decide_eq_false hj, ih]; rfl
section
variable {N : Nat} (hN : 4000000 ≤ N) {b : DBlock} (hb : SmallB b) (hB : BlockP b) {rank : Nat → Nat} (hr : RankP b rank)
include hN hB hr
end
end Go.Proofs.YtdbmhfpphobmpaaGreatDoor
namespace Go.Proofs.YtdbmhfpphobmpaaGreatDoor
set_option linter.unusedSimpArgs false
set_option linter.unusedVariables false
set_option linter.unusedSectionVars false
set_option maxHeartbeats 1000000
theorem truth_cell {b : DBlock} (hD : DesignP b.1 b.2.1) {k j : Nat} (hj : gateOf b k = (j : Int)) (hP : GateP b k j) : (b.1.1[(b.2.1.1[j]'hP.1).2.1.toNat]'(inst_ok hD hP.1).1.2).2.2.2.2.1 = truthOf b k := by
 have hjl := hP.1
 unfold truthOf
 rw [hj, Int.toNat_natCast, List.getElem?_eq_getElem hjl]
 simp only [Option.bind_some]
 rw [List.getElem?_eq_getElem (inst_ok hD hP.1).1.2]; rfl
theorem Ret.up2 {ρ σ σ' τ : Type} {R : ρ → Prop} {f : (σ × σ' × Int × τ → Option ρ) → σ × σ' × Int × τ → Option ρ} (n : Nat) (I : Nat → σ → σ' → τ → Prop) {N : Nat} {s0 : σ} {s1 : σ'} {t0 : τ} (hn : n < 4611686018427387904) (hN : n < N) (h0 : I 0 s0 s1 t0)
 (step : ∀ (i : Nat) (s : σ) (s' : σ') (t : τ) (next : σ × σ' × Int × τ → Option ρ), i < n → I i s s' t → (∀ u u' t', I (i + 1) u u' t' → Ret (next (u, u', IntKind.i64.wrap ((i : Int) + 1), t')) R) → Ret (f next (s, s', (i : Int), t)) R)
 (fin : ∀ (s : σ) (s' : σ') (t : τ) (next : σ × σ' × Int × τ → Option ρ), I n s s' t → Ret (f next (s, s', (n : Int), t)) R) : Ret (fixN N f (s0, s1, (0 : Int), t0)) R := by
 refine Ret.fix (I := fun s => ∃ i : Nat, s.2.2.1 = (i : Int) ∧ i ≤ n ∧ I i s.1 s.2.1 s.2.2.2) (μ := fun s => n - s.2.2.1.toNat) ?_ N _ ⟨0, rfl, by omega, h0⟩ (by simp; omega)
 rintro ⟨s, s', j, t⟩ next ⟨i, hi, hin, hI⟩ hnext
 obtain rfl : j = (i : Int) := hi
 by_cases h : i < n
 ·refine step i s s' t next h hI fun u u' t' hs' => ?_
  rw [wrapSucc (by omega)]
  exact hnext _ ⟨i + 1, rfl, by omega, hs'⟩ (by simp; omega)
 ·obtain rfl : i = n := by omega
  exact fin s s' t next hI
section
variable {N : Nat} (hN : 4000000 ≤ N) {b : DBlock} (hb : SmallB b) (hB : BlockP b) {rank : Nat → Nat} (hr : RankP b rank) {src : Nat → Int} (hs : ∀ k, gateOf b k < 0 → 0 ≤ src k ∧ src k ≤ 1)
include hN hb hB hr hs
end
section
variable {N : Nat} (hN : 4000000 ≤ N) {b : DBlock} (hB : BlockP b)
include hN hB
end
end Go.Proofs.YtdbmhfpphobmpaaGreatDoor
namespace Go.Proofs.YtdbmhfpphobmpaaGreatDoor
set_option linter.unusedSimpArgs false
set_option linter.unusedVariables false
set_option linter.unusedSectionVars false
set_option maxHeartbeats 1000000
noncomputable def srcUpto (b : DBlock) (i : Nat) : List Int := ((List.range i).filter fun k => decide (gateOf b k < 0)).map fun k : Nat => (k : Int)
noncomputable def srcOf (b : DBlock) : List Int := srcUpto b b.2.1.2.1.length
theorem srcUpto_succ (b : DBlock) (i : Nat) : srcUpto b (i + 1) = if gateOf b i < 0 then srcUpto b i ++ [(i : Int)] else srcUpto b i := by
 unfold srcUpto
 rw [List.range_succ, List.filter_append, List.map_append]
 by_cases h : gateOf b i < 0
 ·rw [if_pos h]; simp [h]
 ·rw [if_neg h]; simp [h]
theorem srcUpto_len (b : DBlock) (i : Nat) : (srcUpto b i).length ≤ i := by
 unfold srcUpto
 rw [List.length_map]
 exact Nat.le_trans (List.length_filter_le _ _) (by simp)
section
variable {N : Nat} (hN : 4000000 ≤ N)
include hN
variable {b : DBlock} (hb : SmallB b)
include hb
theorem spec_l28Sources (hB : BlockP b) (u : Unit) : F_spec_l28Sources N (b, u) = some (srcOf b, ()) := by
 have hsm := block_small hB
 refine Ret.eq ?_
 unfold F_spec_l28Sources
 dsimp only
 refine Ret.up b.2.1.2.1.length (fun i s => s = (srcUpto b i, ())) (by omega) (by omega) rfl ?_ ?_
 ·rintro i s next hi rfl hn
  dsimp only
  have hl := srcUpto_len b i
  have hs := srcUpto_succ b i
  refine Ret.must (by omega) ?_
  refine Ret.call (spec_l28Gate hN hb hB hi ()) ?_
  dsimp only
  refine Ret.ifd ?_ ?_ <;> intro h
  ·rw [if_pos h] at hs
   refine Ret.guard (by rw [List.length_append]; simp only [List.length_cons, List.length_nil]; unfold lim; omega) ?_
   exact hn _ (by rw [hs])
  ·rw [if_neg h] at hs
   exact hn _ (by rw [hs])
 ·rintro s next rfl
  dsimp only
  exact Ret.mustN (by omega) (Ret.ret rfl)
theorem impl_logic_sources (hB : BlockP b) {gates : List Int} {ord : List Int × Unit} (hg : gates.length = b.2.1.2.1.length ∧ ∀ k (h : k < gates.length), gates[k] = gateOf b k) (u : Unit) : F_impl_logic_sources N (some (b, gates, ord), u) = some (srcOf b, ()) := by
 have hsm := block_small hB
 refine Ret.eq ?_
 unfold F_impl_logic_sources
 dsimp only
 refine Ret.call rfl ?_
 dsimp only
 refine Ret.up gates.length (fun i s => s = (srcUpto b i, ())) (by omega) (by omega) rfl ?_ ?_
 ·rintro i s next hi rfl hn
  dsimp only
  have hl := srcUpto_len b i
  have hs := srcUpto_succ b i
  refine Ret.must (by omega) ?_
  refine Ret.atN hi ?_
  rw [hg.2 i hi]
  refine Ret.ifd ?_ ?_ <;> intro h
  ·rw [if_pos h] at hs
   refine Ret.guard (by rw [List.length_append]; simp only [List.length_cons, List.length_nil]; unfold lim; omega) ?_
   exact hn _ (by rw [hs])
  ·rw [if_neg h] at hs
   exact hn _ (by rw [hs])
 ·rintro s next rfl
  dsimp only
  refine Ret.mustN (by omega) (Ret.ret ?_)
  rw [hg.1]; rfl
end
end Go.Proofs.YtdbmhfpphobmpaaGreatDoor
namespace Go.Proofs.YtdbmhfpphobmpaaGreatDoor
set_option linter.unusedSimpArgs false
set_option linter.unusedVariables false
set_option linter.unusedSectionVars false
set_option maxHeartbeats 1000000
theorem srcOf_mem {b : DBlock} {x : Int} : x ∈ srcOf b ↔ ∃ s : Nat, x = (s : Int) ∧ s < b.2.1.2.1.length ∧ gateOf b s < 0 := by
 unfold srcOf srcUpto
 simp only [List.mem_map, List.mem_filter, List.mem_range, decide_eq_true_eq]
 constructor
 ·rintro ⟨s, ⟨h1, h2⟩, rfl⟩; exact ⟨s, rfl, h1, h2⟩
 ·rintro ⟨s, rfl, h1, h2⟩; exact ⟨s, ⟨h1, h2⟩, rfl⟩
theorem srcOf_nodup (b : DBlock) : (srcOf b).Nodup := by
 unfold srcOf srcUpto
 refine List.Pairwise.map _ (R := fun a b : Nat => a ≠ b) (fun a b h => by show (a : Int) ≠ (b : Int); omega) ?_
 exact (List.nodup_range).filter _
theorem srcOf_len' {b : DBlock} (hB : BlockP b) : (srcOf b).length ≤ 30 := by
 have h1 := srcUpto_len b b.2.1.2.1.length
 have h2 := (block_small hB).2
 unfold srcOf
 omega
section
variable {N : Nat} (hN : 4000000 ≤ N) {b : DBlock} (hb : SmallB b)
include hN hb
end
end Go.Proofs.YtdbmhfpphobmpaaGreatDoor
namespace Go.Proofs.YtdbmhfpphobmpaaGreatDoor
set_option linter.unusedSimpArgs false
set_option linter.unusedVariables false
set_option linter.unusedSectionVars false
set_option maxHeartbeats 1000000
noncomputable def codeN (b : DBlock) (ks : List Int) : Int :=
 @ite _ (BlockP b) (Classical.propDecidable _) (@ite _ (Ranked b) (Classical.propDecidable _) (@ite _ (∀ k ∈ ks, InNets b k) (Classical.propDecidable _) 0 2) 7) 1
theorem codeN_zero {b : DBlock} {ks : List Int} : codeN b ks = 0 ↔ BlockP b ∧ Ranked b ∧ ∀ k ∈ ks, InNets b k := by
 unfold codeN
 by_cases h1 : BlockP b
 ·rw [if_pos h1]
  by_cases h2 : Ranked b
  ·rw [if_pos h2]
   by_cases h3 : ∀ k ∈ ks, InNets b k
   ·rw [if_pos h3]; exact ⟨fun _ => ⟨h1, h2, h3⟩, fun _ => rfl⟩
   ·rw [if_neg h3]; exact ⟨fun h => by omega, fun h => absurd h.2.2 h3⟩
  ·rw [if_neg h2]; exact ⟨fun h => by omega, fun h => absurd h.2.1 h2⟩
 ·rw [if_neg h1]; exact ⟨fun h => by omega, fun h => absurd h.1 h1⟩
theorem codeN_ok {b : DBlock} {ks : List Int} (h1 : BlockP b) (h2 : Ranked b) (h3 : ∀ k ∈ ks, InNets b k) : codeN b ks = 0 := codeN_zero.2 ⟨h1, h2, h3⟩
theorem codeN_not {b : DBlock} {ks : List Int} (h1 : BlockP b) (h2 : Ranked b) (h3 : ¬ ∀ k ∈ ks, InNets b k) : codeN b ks = 2 := by unfold codeN; rw [if_pos h1, if_pos h2, if_neg h3]
theorem inNets_nat {b : DBlock} {k : Int} (h : InNets b k) : k = ((k.toNat : Nat) : Int) ∧ k.toNat < b.2.1.2.1.length := by
 unfold InNets BtwP at h
 omega
def bitsOf (n r : Nat) : List Int := (List.range n).map fun p => ((r / 2 ^ p % 2 : Nat) : Int)
theorem bitsOf_len (n r : Nat) : (bitsOf n r).length = n := by simp [bitsOf]
theorem bitsOf_get {n r p : Nat} (h : p < (bitsOf n r).length) : (bitsOf n r)[p] = ((r / 2 ^ p % 2 : Nat) : Int) := by simp [bitsOf]
structure Sup (b : DBlock) (sup : List Int) : Prop where
 nodup : sup.Nodup
 src : ∀ x ∈ sup, ∃ s : Nat, x = (s : Int) ∧ s < b.2.1.2.1.length ∧ gateOf b s < 0
theorem Sup.len {b : DBlock} (hB : BlockP b) {sup : List Int} (h : Sup b sup) : sup.length ≤ 30 := by
 have hsm := block_small hB
 have h1 : (sup.map Int.toNat).Nodup := by
  refine List.Pairwise.map _ (R := fun a b => a ≠ b ∧ 0 ≤ a ∧ 0 ≤ b) (fun a b h => by omega) ?_
  refine List.pairwise_iff_getElem.2 fun i j hi hj hij => ⟨List.pairwise_iff_getElem.1 h.nodup i j hi hj hij, ?_, ?_⟩
  ·obtain ⟨s, e, _⟩ := h.src _ (List.getElem_mem hi); omega
  ·obtain ⟨s, e, _⟩ := h.src _ (List.getElem_mem hj); omega
 have h2 : ∀ x ∈ sup.map Int.toNat, x ∈ List.range 30 := by
  intro x hx
  obtain ⟨y, hy, rfl⟩ := List.mem_map.1 hx
  obtain ⟨s, rfl, h3, _⟩ := h.src y hy
  rw [List.mem_range]
  omega
 have := List.Nodup.length_le_of_subset h1 h2
 simpa using this
section
variable {N : Nat} (hN : 4000000 ≤ N)
include hN
theorem spec_l28Bits {n r : Nat} (hn : n ≤ 30) (hr : r < 4611686018427387904) (u : Unit) : F_spec_l28Bits N ((r : Int), (n : Int), u) = some (bitsOf n r, ()) := by
 refine Ret.eq ?_
 unfold F_spec_l28Bits
 dsimp only
 refine Ret.upM 0 n (fun i (s : Int) (t : List Int × Unit) => s = ((r / 2 ^ i : Nat) : Int) ∧ t.1 = bitsOf i r) (by omega) (by omega) (by omega) ⟨by simp, rfl⟩ ?_ ?_
 ·rintro i s ⟨l, u1⟩ next _ hi ⟨rfl, h2⟩ hn2
  dsimp only at h2 ⊢
  subst h2
  refine Ret.must (by omega) ?_
  have hle : r / 2 ^ i ≤ r := Nat.div_le_self _ _
  have hm : (((r / 2 ^ i : Nat) : Int).tmod 2) = ((r / 2 ^ i % 2 : Nat) : Int) := rfl
  have hd : (((r / 2 ^ i : Nat) : Int).tdiv 2) = ((r / 2 ^ (i + 1) : Nat) : Int) := by
   rw [Nat.pow_succ, ← Nat.div_div_eq_div_mul]; rfl
  refine Ret.guard ?_ ?_
  ·rw [List.length_append, bitsOf_len]; simp only [List.length_singleton]; unfold lim; omega
  ·rw [hd, hm]
   have hle2 : r / 2 ^ (i + 1) ≤ r := Nat.div_le_self _ _
   have hw : IntKind.i64.wrap ((r / 2 ^ (i + 1) : Nat) : Int) = ((r / 2 ^ (i + 1) : Nat) : Int) := by
    generalize r / 2 ^ (i + 1) = q at *
    exact wrapI (by omega) (by omega)
   rw [hw]
   exact hn2 _ _ ⟨rfl, by simp [bitsOf, List.range_succ]⟩
 ·rintro s ⟨l, u1⟩ next ⟨_, h2⟩
  dsimp only at h2 ⊢
  subst h2
  exact Ret.mustN (by omega) (Ret.ret rfl)
variable {b : DBlock} (hb : SmallB b) (hB : BlockP b) {rank : Nat → Nat} (hr : RankP b rank)
include hb hB hr
omit hN hb hB hr in
theorem wrap62 (n : Int) (h0 : 0 ≤ n) (h : n < 2 ^ 62) : IntKind.i64.wrap n = n := by
 have : (2 : Int) ^ 62 = 4611686018427387904 := by decide
 exact wrapI (by omega) (by omega)
omit hN hb hB hr in
theorem and_bit {i p : Nat} (hi : i < 256) (hp : p < 8) : bits .and .i64 ((i : Int).fdiv (2 ^ (min (p : Int).toNat (IntKind.i64).bits))) 1 = ((i / 2 ^ p % 2 : Nat) : Int) := by
 have h1 : (i : Int).fdiv (2 ^ (min (p : Int).toNat (IntKind.i64).bits)) = ((i / 2 ^ p : Nat) : Int) := by
  rw [Int.toNat_natCast, show min p (IntKind.i64).bits = p from Nat.min_eq_left (by simp only [IntKind.bits]; omega)]
  rw [show (2 : Int) ^ p = ((2 ^ p : Nat) : Int) by simp, Int.fdiv_eq_ediv_of_nonneg _ (Int.natCast_nonneg _)]
  rfl
 have hle : i / 2 ^ p ≤ i := Nat.div_le_self _ _
 rw [h1]
 generalize i / 2 ^ p = q at *
 have h62 : (2 : Int) ^ 62 = 4611686018427387904 := by decide
 have := bits_mask .i64 62 (by decide) wrap62 1 (by decide) (q : Int) (by omega) (by omega)
 rw [show ((2 : Int) ^ 1 - 1) = 1 by decide] at this
 rw [this]
 simp
end
section
variable {N : Nat} (hN : 4000000 ≤ N) {b : DBlock} (hb : SmallB b)
include hN hb
theorem spec_netCode (k : Int) (u : Unit) : F_spec_l28NetCode N (b, k, u) = some (codeN b [k], ()) := by
 obtain ⟨⟨c, u1⟩, h1, h2⟩ := spec_l28NetCode hN hb k u
 rw [h1]
 congr 2
 rcases h2 with ⟨rfl, h⟩ | ⟨rfl, h, h'⟩ | ⟨rfl, h, h', h3⟩ | ⟨rfl, h, h', h3, _⟩
 ·unfold codeN; rw [if_neg h]
 ·unfold codeN; rw [if_pos h, if_neg h']
 ·rw [codeN_not h h' fun hh => h3 (hh k (by simp))]
 ·rw [codeN_ok h h' (by simpa using h3)]
theorem impl_logicOf' {s : List Int} (hs : s.length < 4000000) (u : Unit) : Ret (F_impl_logicOf N (b, s, u)) (fun r => r.2.1 = codeN b s ∧ (codeN b s = 0 → BlockP b ∧ Ranked b ∧ (∀ k ∈ s, InNets b k) ∧ ∃ gates ord, r.1 = some (b, gates, ord) ∧ (gates.length = b.2.1.2.1.length ∧ ∀ k (h : k < gates.length), gates[k] = gateOf b k) ∧ Topo b ord.1)) := by
 refine (impl_logicOf hN hb hs u).imp ?_
 rintro r (⟨h1, h2⟩ | ⟨h1, h2, h3⟩ | ⟨h2, h3, ⟨h1, h4⟩ | ⟨h1, h4, gates, ord, h5, h6, h7⟩⟩)
 ·have e : codeN b s = 1 := by unfold codeN; rw [if_neg h2]
  exact ⟨by rw [h1, e], fun h => by omega⟩
 ·have e : codeN b s = 7 := by unfold codeN; rw [if_pos h2, if_neg h3]
  exact ⟨by rw [h1, e], fun h => by omega⟩
 ·have e : codeN b s = 2 := codeN_not h2 h3 h4
  exact ⟨by rw [h1, e], fun h => by omega⟩
 ·exact ⟨by rw [h1, codeN_ok h2 h3 h4], fun _ => ⟨h2, h3, h4, gates, ord, h5, h6, h7⟩⟩
end
end Go.Proofs.YtdbmhfpphobmpaaGreatDoor
namespace Go.Proofs.YtdbmhfpphobmpaaGreatDoor
set_option linter.unusedSimpArgs false
set_option linter.unusedVariables false
set_option linter.unusedSectionVars false
set_option maxHeartbeats 1000000
theorem half_add {p i : Nat} (h : i / 2 ^ p % 2 = 0) : (i + 2 ^ p) / 2 ^ p % 2 = 1 := by
 rw [Nat.add_div_right _ (Nat.two_pow_pos p)]; omega
section
variable {N : Nat} (hN : 4000000 ≤ N) {b : DBlock} (hb : SmallB b)
include hN
theorem has_at {xs : List Int} (hl : xs.length < 4000000) (v : Int) (u : Unit) : F_spec_l28Has N (xs, v, u) = some (fidx (fun x => x = v) xs, ()) := by
 unfold F_spec_l28Has
 dsimp only
 have := indexFunc_eq (fun e => some (dec (e = v), ())) (fun x => x = v) (fun _ _ => rfl) hl hN
 rw [← this]
 simp only [obind_just, decide_dec]
include hb
end
end Go.Proofs.YtdbmhfpphobmpaaGreatDoor
