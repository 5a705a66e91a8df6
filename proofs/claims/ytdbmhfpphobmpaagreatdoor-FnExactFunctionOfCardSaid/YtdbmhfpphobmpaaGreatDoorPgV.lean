/- Values of nets. No program in sight. Values of nets: the reference's side. No program in sight. The sources of a block: both sides. No program in sight. ValuesFor: both sides. No program in sight. Functions of nets: both sides. No program in sight. Marking loops, told in plain words. No program in sight. Marking loops that carry other rows. No program in sight. -/
import Derived.Test.YtdbmhfpphobmpaaGreatDoorPgX
import Derived.Laws.BitsLemmas
import Derived.Test.YtdbmhfpphobmpaaGreatDoorPvF1
import Derived.Test.YtdbmhfpphobmpaaGreatDoorPgF
namespace Go.Proofs.YtdbmhfpphobmpaaGreatDoor
set_option linter.unusedSimpArgs false
set_option linter.unusedVariables false
set_option linter.unusedSectionVars false
set_option maxHeartbeats 1000000
noncomputable def truthOf (b : DBlock) (k : Nat) : List Int := ((b.2.1.1[(gateOf b k).toNat]?).bind fun x => (b.1.1[x.2.1.toNat]?).map fun c => c.2.2.2.2.1).getD []
def idxP (V : Int → Int) (l : List Int) : Nat → Int
 | 0 => 0
 | p + 1 => idxP V l p + V (l[p]?.getD 0) * 2 ^ p
theorem idxP_bound {V : Int → Int} {l : List Int} (hV : ∀ i ∈ l, 0 ≤ V i ∧ V i ≤ 1) : ∀ p, p ≤ l.length → 0 ≤ idxP V l p ∧ idxP V l p < 2 ^ p
 | 0, _ => by simp [idxP]
 | p + 1, h => by
  have h1 := idxP_bound hV p (by omega)
  have h2 := hV _ (List.getElem_mem (show p < l.length by omega))
  have e : l[p]?.getD 0 = l[p]'(by omega) := by rw [List.getElem?_eq_getElem (by omega)]; rfl
  have hp : (0 : Int) < 2 ^ p := Int.pow_pos (by omega)
  simp only [idxP, e]
  have h3 : V (l[p]'(by omega)) = 0 ∨ V (l[p]'(by omega)) = 1 := by omega
  rw [Int.pow_succ]
  rcases h3 with h3 | h3 <;> rw [h3] <;> omega
theorem idxP_congr {V V' : Int → Int} {l : List Int} (h : ∀ i ∈ l, V i = V' i) : ∀ p, p ≤ l.length → idxP V l p = idxP V' l p
 | 0, _ => rfl
 | p + 1, hp => by
  have e : l[p]?.getD 0 = l[p]'(by omega) := by rw [List.getElem?_eq_getElem (by omega)]; rfl
  simp only [idxP, e, idxP_congr h p (by omega), h _ (List.getElem_mem (show p < l.length by omega))]
noncomputable def valN (b : DBlock) (src : Nat → Int) : Nat → Nat → Int
 | 0, _ => 0
 | m + 1, k => if gateOf b k < 0 then src k else ((truthOf b k)[(idxP (fun i => valN b src m i.toNat) (insOf b k) (insOf b k).length).toNat]?).getD 0
noncomputable def val (b : DBlock) (src : Nat → Int) (k : Nat) : Int := valN b src 31 k
section
variable {b : DBlock} (hB : BlockP b) {rank : Nat → Nat} (hr : RankP b rank)
include hB hr
theorem valN_same (src : Nat → Int) : ∀ (m m' k : Nat), k < b.2.1.2.1.length → rank k < m → rank k < m' → valN b src m k = valN b src m' k
 | 0, _, _, _, h, _ => absurd h (Nat.not_lt_zero _)
 | _ + 1, 0, _, _, _, h => absurd h (Nat.not_lt_zero _)
 | m + 1, m' + 1, k, hk, h, h' => by
  unfold valN
  by_cases hg : gateOf b k < 0
  ·rw [if_pos hg, if_pos hg]
  ·rw [if_neg hg, if_neg hg]
   rw [idxP_congr (fun i hi => ?_) _ (Nat.le_refl _)]
   have := hr.down k hk (by omega) i hi
   exact valN_same src m m' _ (insOf_in hB.1 hk hi).2 (by omega) (by omega)
theorem valN_gate (src : Nat → Int) {m k : Nat} (hm : rank k ≤ m) (hm' : m ≤ 30) (hk : k < b.2.1.2.1.length) (hg : 0 ≤ gateOf b k) : valN b src (m + 1) k = ((truthOf b k)[(idxP (fun i => val b src i.toNat) (insOf b k) (insOf b k).length).toNat]?).getD 0 := by
 have h30 := hr.low k
 rw [valN, if_neg (by omega), idxP_congr (fun i hi => ?_) _ (Nat.le_refl _)]
 have := hr.down k hk hg i hi
 exact valN_same hB hr src _ _ _ (insOf_in hB.1 hk hi).2 (by omega) (by omega)
theorem val_gate (src : Nat → Int) {k : Nat} (hk : k < b.2.1.2.1.length) (hg : 0 ≤ gateOf b k) : val b src k = ((truthOf b k)[(idxP (fun i => val b src i.toNat) (insOf b k) (insOf b k).length).toNat]?).getD 0 :=
 valN_gate hB hr src (hr.low k) (Nat.le_refl _) hk hg
omit hB hr in
theorem val_source (src : Nat → Int) {k : Nat} (hg : gateOf b k < 0) : val b src k = src k := by
 show valN b src (30 + 1) k = _
 rw [valN, if_pos hg]
omit hr in
theorem truth_ok {k : Nat} (hk : k < b.2.1.2.1.length) (hg : 0 ≤ gateOf b k) : (truthOf b k).length = 2 ^ (insOf b k).length ∧ ∀ v ∈ truthOf b k, 0 ≤ v ∧ v ≤ 1 := by
 rcases gateOf_cases hB.1 hk with ⟨h1, _⟩ | ⟨j, hj, hP⟩
 ·omega
 obtain ⟨hjl, hlast, hcl, hkind⟩ := hP
 have hP : GateP b k j := ⟨hjl, hlast, hcl, hkind⟩
 have ht : truthOf b k = (b.1.1[b.2.1.1[j].2.1.toNat]'hcl).2.2.2.2.1 := by
  unfold truthOf
  rw [hj, Int.toNat_natCast, List.getElem?_eq_getElem hjl]
  simp only [Option.bind_some]
  rw [List.getElem?_eq_getElem hcl]; rfl
 have hc := hB.1.1.1 _ (List.getElem_mem hcl)
 have hI := hB.1.2.2.1.1 _ (List.getElem_mem hjl)
 obtain ⟨_, ⟨h1, h2⟩, h3⟩ := hI
 have hins : (insOf b k).length = (b.1.1[b.2.1.1[j].2.1.toNat]'hcl).2.2.1.length - 1 := by
  rw [insOf_eq hB.1 hk hP, List.length_take, h2]
  omega
 rcases hc.2.2.2.2.2 with ⟨_, _, g1, g2⟩ | ⟨g0, _⟩ | ⟨g0, _⟩
 ·rw [ht, hins]
  exact ⟨g1, fun v hv => g2 v hv⟩
 ·omega
 ·omega
theorem val01 (src : Nat → Int) (hs : ∀ k, gateOf b k < 0 → 0 ≤ src k ∧ src k ≤ 1) : ∀ m k, k < b.2.1.2.1.length → rank k ≤ m → 0 ≤ val b src k ∧ val b src k ≤ 1 := by
 intro m
 induction m with
 | zero =>
  intro k hk hm
  by_cases hg : gateOf b k < 0
  ·rw [val_source src hg]; exact hs k hg
  ·have hl := ins_len hB hk (by omega)
   have := hr.down k hk (by omega) _ (List.getElem_mem (show 0 < (insOf b k).length by omega))
   omega
 | succ m ih =>
  intro k hk hm
  by_cases hg : gateOf b k < 0
  ·rw [val_source src hg]; exact hs k hg
  ·rw [val_gate hB hr src hk (by omega)]
   have hb := idxP_bound (V := fun i => val b src i.toNat) (l := insOf b k) (fun i hi => ih _ (insOf_in hB.1 hk hi).2 (by have := hr.down k hk (by omega) i hi; omega)) _ (Nat.le_refl _)
   obtain ⟨t1, t2⟩ := truth_ok hB hk (by omega)
   have hlt : (idxP (fun i => val b src i.toNat) (insOf b k) (insOf b k).length).toNat < (truthOf b k).length := by
    rw [t1]
    have : ((2 ^ (insOf b k).length : Nat) : Int) = 2 ^ (insOf b k).length := by simp
    omega
   rw [List.getElem?_eq_getElem hlt]
   exact t2 _ (List.getElem_mem hlt)
theorem val_bit (src : Nat → Int) (hs : ∀ k, gateOf b k < 0 → 0 ≤ src k ∧ src k ≤ 1) {k : Nat} (hk : k < b.2.1.2.1.length) : 0 ≤ val b src k ∧ val b src k ≤ 1 := val01 hB hr src hs _ k hk (Nat.le_refl _)
theorem val_at (src : Nat → Int) (hs : ∀ k, gateOf b k < 0 → 0 ≤ src k ∧ src k ≤ 1) {k : Nat} (hk : k < b.2.1.2.1.length) (hg : 0 ≤ gateOf b k) :
 0 ≤ idxP (fun i => val b src i.toNat) (insOf b k) (insOf b k).length ∧ ∃ h : (idxP (fun i => val b src i.toNat) (insOf b k) (insOf b k).length).toNat < (truthOf b k).length, (truthOf b k)[(idxP (fun i => val b src i.toNat) (insOf b k) (insOf b k).length).toNat] = val b src k := by
 have hb := idxP_bound (V := fun i => val b src i.toNat) (l := insOf b k) (fun i hi => val_bit hB hr src hs (insOf_in hB.1 hk hi).2) _ (Nat.le_refl _)
 obtain ⟨t1, t2⟩ := truth_ok hB hk hg
 have hlt : (idxP (fun i => val b src i.toNat) (insOf b k) (insOf b k).length).toNat < (truthOf b k).length := by
  rw [t1]
  have : ((2 ^ (insOf b k).length : Nat) : Int) = 2 ^ (insOf b k).length := by simp
  omega
 exact ⟨hb.1, hlt, by rw [val_gate hB hr src hk hg, List.getElem?_eq_getElem hlt]; rfl⟩
end
theorem or_bit {row v : Int} {p : Nat} (hp : p ≤ 3) (h0 : 0 ≤ row) (h1 : row < 2 ^ p) (hv : 0 ≤ v ∧ v ≤ 1) : bits .or .i64 row (IntKind.i64.wrap (v * (2 ^ (min (p : Int).toNat (IntKind.i64).bits)))) = row + v * 2 ^ p := by
 have key : ∀ p : Fin 4, ∀ r : Fin 8, ∀ v : Fin 2, (r : Nat) < 2 ^ (p : Nat) → bits .or .i64 ((r : Nat) : Int) (IntKind.i64.wrap (((v : Nat) : Int) * (2 ^ (min (p : Nat) (IntKind.i64).bits)))) = ((r : Nat) : Int) + ((v : Nat) : Int) * 2 ^ (p : Nat) := by decide
 have h8 : (2 : Int) ^ p ≤ 8 := by
  have : p = 0 ∨ p = 1 ∨ p = 2 ∨ p = 3 := by omega
  rcases this with rfl | rfl | rfl | rfl <;> decide
 have hrn : row.toNat < 2 ^ p := by
  have : ((2 ^ p : Nat) : Int) = 2 ^ p := by simp
  omega
 have := key ⟨p, by omega⟩ ⟨row.toNat, by omega⟩ ⟨v.toNat, by omega⟩ hrn
 simp only [Int.toNat_of_nonneg h0, Int.toNat_of_nonneg hv.1] at this
 rw [Int.toNat_natCast]
 exact this
theorem mget_mset {α : Type} (l : List (Int × α)) (k j : Int) (x d : α) : mget (mset l k x) j d = if j = k then x else mget l j d := by
 induction l with
 | nil => by_cases h : j = k <;> simp [mset, mget, h]
 | cons p l ih =>
  unfold mset
  by_cases h : k = p.1
  ·rw [decide_eq_true h]
   simp only [cond_true, mget]
   by_cases hj : j = k
   ·rw [decide_eq_true hj, if_pos hj]; rfl
   ·rw [decide_eq_false hj, if_neg hj, decide_eq_false (by rw [← h]; exact hj)]; rfl
  ·rw [decide_eq_false h]
   simp only [cond_false, mget]
   by_cases hj : j = p.1
   ·rw [decide_eq_true hj, if_neg (by rw [hj]; exact Ne.symm h)]; rfl
   ·rw [decide_eq_false hj, ih]; rfl
section
variable {N : Nat} (hN : 4000000 ≤ N) {b : DBlock} (hb : SmallB b) (hB : BlockP b) {rank : Nat → Nat} (hr : RankP b rank)
include hN hB hr
def ValsP (b : DBlock) (src : Nat → Int) (ord : List Int) (p : Nat) (S : List Int) : Prop := S.length = b.2.1.2.1.length ∧ ∀ q, q < p → ∀ k : Nat, ord[q]? = some (k : Int) → S[k]? = some (val b src k)
theorem impl_values {gates : List Int} {ord : List Int × Unit} (hg : gates.length = b.2.1.2.1.length ∧ ∀ k (h : k < gates.length), gates[k] = gateOf b k) (ht : Topo b ord.1) {m : List (Int × Int)} (hm : ∀ k : Nat, gateOf b k < 0 → 0 ≤ mget m (k : Int) 0 ∧ mget m (k : Int) 0 ≤ 1) (u : Unit) :
 Ret (F_impl_logic_values N (some (b, gates, ord), m, u)) (fun r => r.1.length = b.2.1.2.1.length ∧ ∀ k, k < b.2.1.2.1.length → r.1[k]? = some (val b (fun k => mget m (k : Int) 0) k)) := by
 have hD := hB.1
 have hsm := block_small hB
 have hol := ht.1
 generalize hsrc : (fun k : Nat => mget m (k : Int) 0) = src
 have hs : ∀ k, gateOf b k < 0 → 0 ≤ src k ∧ src k ≤ 1 := by subst hsrc; exact hm
 unfold F_impl_logic_values
 dsimp only
 refine Ret.call rfl ?_
 dsimp only
 rw [hg.1]
 refine lim_guard (by omega) (Ret.call rfl ?_)
 dsimp only
 rw [Int.toNat_natCast]
 refine Ret.up ord.1.length (fun p s => ValsP b src ord.1 p s.1) (by omega) (by omega) ⟨by simp, fun q h => absurd h (Nat.not_lt_zero q)⟩ ?_ ?_
 ·rintro p ⟨S, u1⟩ next hp ⟨hS, hI⟩ hn
  dsimp only at hS hI ⊢
  refine Ret.must (by omega) (Ret.atN hp ?_)
  refine Ret.call rfl ?_
  obtain ⟨k, hk, he, hin⟩ := ht.2.2 p hp
  rw [he]
  dsimp only
  rw [atI_nat (show k < gates.length by omega)]
  refine Ret.call rfl ?_
  rw [hg.2 k (by omega)]
  have hnext : ∀ S' : List Int, S' = S.set k (val b src k) → ValsP b src ord.1 (p + 1) S' := by
   rintro S' rfl
   refine ⟨by rw [List.length_set]; exact hS, fun q hq j hj => ?_⟩
   rw [List.getElem?_set]
   by_cases hkj : k = j
   ·subst hkj; rw [if_pos rfl, if_pos (by omega)]
   ·rw [if_neg hkj]
    by_cases hqp : q = p
    ·subst hqp
     rw [List.getElem?_eq_getElem hp, he] at hj
     simp only [Option.some.injEq] at hj
     omega
    ·exact hI q (by omega) j hj
  refine Ret.ifd ?_ ?_ <;> intro hgk
  ·rw [Int.toNat_natCast]
   refine Ret.guardI (by omega) (Ret.get (by omega) (hn _ (hnext _ ?_)))
   rw [val_source src hgk, ← hsrc]
  ·have h0 : 0 ≤ gateOf b k := by omega
   refine Ret.call (impl_inputs hN hB hg hk h0 ()) ?_
   dsimp only
   have hil := ins_len hB hk h0
   refine Ret.upM 0 (insOf b k).length (fun i (s : Int) (_ : Unit) => s = idxP (fun i => val b src i.toNat) (insOf b k) i) (by omega) (by omega) (by omega) rfl ?_ ?_
   ·rintro i l u2 next2 _ hi hl hn2
    dsimp only at hl ⊢
    subst hl
    refine Ret.must (by omega) (Ret.atN hi ?_)
    have hmem := List.getElem_mem hi
    obtain ⟨hi0, hi1⟩ := insOf_in hD hk hmem
    obtain ⟨q, hq, hqe⟩ := hin h0 _ hmem
    have hsi := hI q hq (insOf b k)[i].toNat (by rw [hqe, Int.toNat_of_nonneg hi0])
    refine Ret.guardZ hi0 (by omega) ?_
    refine Ret.call hsi ?_
    refine Ret.guard (by omega) (hn2 _ _ ?_)
    have hib := idxP_bound (V := fun i => val b src i.toNat) (l := insOf b k) (fun i hi => val_bit hB hr src hs (insOf_in hB.1 hk hi).2) i (by omega)
    rw [or_bit (by omega) hib.1 hib.2 (val_bit hB hr src hs hi1)]
    simp only [idxP, List.getElem?_eq_getElem hi, Option.getD_some]
   ·rintro l u2 next2 hl
    dsimp only at hl ⊢
    subst hl
    refine Ret.mustN (by omega) ?_
    refine Ret.call rfl (Ret.call rfl ?_)
    dsimp only
    rw [atI_nat (show k < gates.length by omega)]
    refine Ret.call rfl ?_
    rw [hg.2 k (by omega)]
    obtain ⟨hv0, hv1, hv2⟩ := val_at hB hr src hs hk h0
    rcases gateOf_cases hD hk with ⟨h1, _⟩ | ⟨j, hj, hP⟩
    ·omega
    rw [hj]
    refine Ret.call (impl_cellOf hD hP.1 ()) ?_
    dsimp only
    have hjl := hP.1
    have htr : (b.1.1[b.2.1.1[j].2.1.toNat]'(inst_ok hD hP.1).1.2).2.2.2.2.1 = truthOf b k := by
     unfold truthOf
     rw [hj, Int.toNat_natCast, List.getElem?_eq_getElem hP.1]
     simp only [Option.bind_some]
     rw [List.getElem?_eq_getElem (inst_ok hD hP.1).1.2]; rfl
    rw [htr]
    refine Ret.atZ hv0 hv1 ?_
    rw [hv2, Int.toNat_natCast]
    exact Ret.guardI (by omega) (Ret.get (by omega) (hn _ (hnext _ rfl)))
 ·rintro ⟨S, u1⟩ next ⟨hS, hI⟩
  dsimp only at hS hI ⊢
  refine Ret.mustN (by omega) (Ret.ret ⟨hS, fun k hk => ?_⟩)
  obtain ⟨q, hq, hqe⟩ := List.getElem_of_mem (ht.2.1 k hk)
  exact hI q hq k (by rw [List.getElem?_eq_getElem hq, hqe])
end
end Go.Proofs.YtdbmhfpphobmpaaGreatDoor
namespace Go.Proofs.YtdbmhfpphobmpaaGreatDoor
set_option linter.unusedSimpArgs false
set_option linter.unusedVariables false
set_option linter.unusedSectionVars false
set_option maxHeartbeats 1000000
def KnownP (b : DBlock) (src : Nat → Int) (known : List Int) : Prop := known.length = b.2.1.2.1.length ∧ ∀ (j : Nat) (h : j < known.length), known[j] = -1 ∨ known[j] = val b src j
theorem truth_cell {b : DBlock} (hD : DesignP b.1 b.2.1) {k j : Nat} (hj : gateOf b k = (j : Int)) (hP : GateP b k j) : (b.1.1[(b.2.1.1[j]'hP.1).2.1.toNat]'(inst_ok hD hP.1).1.2).2.2.2.2.1 = truthOf b k := by
 have hjl := hP.1
 unfold truthOf
 rw [hj, Int.toNat_natCast, List.getElem?_eq_getElem hjl]
 simp only [Option.bind_some]
 rw [List.getElem?_eq_getElem (inst_ok hD hP.1).1.2]; rfl
theorem Ret.up2 {ρ σ σ' τ : Type} {R : ρ → Prop} {f : (σ × σ' × Int × τ → Option ρ) → σ × σ' × Int × τ → Option ρ} (n : Nat) (I : Nat → σ → σ' → τ → Prop) {N : Nat} {s0 : σ} {s1 : σ'} {t0 : τ} (hn : n < 4611686018427387904) (hN : n < N) (h0 : I 0 s0 s1 t0)
 (step : ∀ (i : Nat) (s : σ) (s' : σ') (t : τ) (next : σ × σ' × Int × τ → Option ρ), i < n → I i s s' t → (∀ u u' t', I (i + 1) u u' t' → Ret (next (u, u', IntKind.i64.wrap ((i : Int) + 1), t')) R) → Ret (f next (s, s', (i : Int), t)) R)
 (fin : ∀ (s : σ) (s' : σ') (t : τ) (next : σ × σ' × Int × τ → Option ρ), I n s s' t → Ret (f next (s, s', (n : Int), t)) R) : Ret (fixN N f (s0, s1, (0 : Int), t0)) R := by
 refine Ret.fix (I := fun s => ∃ i : Nat, s.2.2.1 = (i : Int) ∧ i ≤ n ∧ I i s.1 s.2.1 s.2.2.2) (μ := fun s => n - s.2.2.1.toNat) ?_ N _ ⟨0, rfl, by omega, h0⟩ (by simp; omega)
 rintro ⟨s, s', j, t⟩ next ⟨i, hi, hin, hI⟩ hnext
 obtain rfl : j = (i : Int) := hi
 by_cases h : i < n
 ·refine step i s s' t next h hI fun u u' t' hs' => ?_
  rw [wrapSucc (by omega)]
  exact hnext _ ⟨i + 1, rfl, by omega, hs'⟩ (by simp; omega)
 ·obtain rfl : i = n := by omega
  exact fin s s' t next hI
section
variable {N : Nat} (hN : 4000000 ≤ N) {b : DBlock} (hb : SmallB b) (hB : BlockP b) {rank : Nat → Nat} (hr : RankP b rank) {src : Nat → Int} (hs : ∀ k, gateOf b k < 0 → 0 ≤ src k ∧ src k ≤ 1)
include hN hb hB hr hs
theorem spec_l28Eval : ∀ (M k : Nat) (known : List Int) (u : Unit), rank k < M → k < b.2.1.2.1.length → KnownP b src known → (∀ s (h : s < known.length), SupP b k s → 0 ≤ known[s]) →
 Ret (F_spec_l28Eval N M (b, (k : Int), known, u)) (fun r => r.1.1 = val b src k ∧ KnownP b src r.2.1 ∧ ∀ (j : Nat) (h : j < known.length) (h' : j < r.2.1.length), 0 ≤ known[j] → 0 ≤ r.2.1[j])
 | 0, k, _, _, h, _, _, _ => absurd h (Nat.not_lt_zero _)
 | M + 1, k, known, u, hM, hk, hK, hsup => by
  have hD := hB.1
  have hsm := block_small hB
  have hkl : k < known.length := by rw [hK.1]; exact hk
  unfold F_spec_l28Eval
  dsimp only
  rw [Int.toNat_natCast]
  refine Ret.guardI hkl (Ret.get hkl ?_)
  refine Ret.ifd ?_ ?_ <;> intro h0
  ·refine Ret.guardI hkl (Ret.get hkl (Ret.ret ⟨?_, hK, fun _ _ _ h => h⟩))
   rcases hK.2 k hkl with h | h
   ·omega
   ·exact h
  ·have hg0 : 0 ≤ gateOf b k := Int.not_lt.1 fun h => h0 (hsup k hkl ⟨h, .refl k⟩)
   refine Ret.call (spec_l28Gate hN hb hB hk ()) ?_
   rcases gateOf_cases hD hk with ⟨h1, _⟩ | ⟨j0, hj0, hP⟩
   ·omega
   rw [hj0]
   refine Ret.call (spec_l28Inputs hB hk hP ()) ?_
   dsimp only
   have hil := ins_len hB hk hg0
   refine Ret.up2 (insOf b k).length (fun i ix bit (s : List Int × Unit) => ix = idxP (fun i => val b src i.toNat) (insOf b k) i ∧ bit = 2 ^ i ∧ KnownP b src s.1 ∧ ∀ (j : Nat) (h : j < known.length) (h' : j < s.1.length), (0 : Int) ≤ known[j] → (0 : Int) ≤ s.1[j]) (by omega) (by omega) ⟨rfl, rfl, hK, fun _ _ _ h => h⟩ ?_ ?_
   ·rintro i ix bit ⟨kn, u1⟩ next hi ⟨e1, e2, g1, g2⟩ hn
    dsimp only at e1 e2 g1 g2 ⊢
    subst e1 e2
    have hmem := List.getElem_mem hi
    obtain ⟨hi0, hi1⟩ := insOf_in hD hk hmem
    have e : (insOf b k)[i] = (((insOf b k)[i].toNat : Nat) : Int) := (Int.toNat_of_nonneg hi0).symm
    refine Ret.must (by omega) (Ret.atN hi ?_)
    have hrk := hr.down k hk hg0 _ hmem
    have hc := spec_l28Eval M (insOf b k)[i].toNat kn u1 (by omega) hi1 g1 (fun s hsl hss => g2 s (by rw [hK.1, ← g1.1]; exact hsl) hsl (hsup s (by rw [hK.1, ← g1.1]; exact hsl) ⟨hss.1, .step hg0 hmem hss.2⟩))
    rw [← e] at hc
    refine Ret.bind hc ?_
    rintro ⟨⟨v, u2⟩, kn', u3⟩ ⟨f1, f2, f3⟩
    dsimp only at f1 f2 f3 ⊢
    subst f1
    have hvb := val_bit hB hr src hs hi1
    have hib := idxP_bound (V := fun i => val b src i.toNat) (l := insOf b k) (fun i hi => val_bit hB hr src hs (insOf_in hB.1 hk hi).2) i (by omega)
    have hp : (0 : Int) < 2 ^ i ∧ (2 : Int) ^ i ≤ 8 := by
     have : i = 0 ∨ i = 1 ∨ i = 2 ∨ i = 3 := by omega
     rcases this with rfl | rfl | rfl | rfl <;> decide
    have hmul : 0 ≤ 2 ^ i * val b src (insOf b k)[i].toNat ∧ 2 ^ i * val b src (insOf b k)[i].toNat ≤ 8 := by
     have : val b src (insOf b k)[i].toNat = 0 ∨ val b src (insOf b k)[i].toNat = 1 := by omega
     rcases this with h | h <;> rw [h] <;> omega
    rw [wrapI (n := 2 ^ i * val b src (insOf b k)[i].toNat) (by omega) (by omega), wrapI (n := idxP (fun i => val b src i.toNat) (insOf b k) i + 2 ^ i * val b src (insOf b k)[i].toNat) (by omega) (by omega), wrapI (n := 2 * 2 ^ i) (by omega) (by omega)]
    refine hn _ _ _ ⟨?_, by rw [Int.pow_succ, Int.mul_comm], f2, fun j hj hj' h => f3 j (by rw [g1.1, ← hK.1]; exact hj) hj' (g2 j hj (by rw [g1.1, ← hK.1]; exact hj) h)⟩
    simp only [idxP, List.getElem?_eq_getElem hi, Option.getD_some]
    rw [Int.mul_comm]
   ·rintro ix bit ⟨kn, u1⟩ next ⟨e1, e2, g1, g2⟩
    dsimp only at e1 e2 g1 g2 ⊢
    subst e1 e2
    refine Ret.mustN (by omega) ?_
    obtain ⟨hv0, hv1, hv2⟩ := val_at hB hr src hs hk hg0
    have hjl := hP.1
    refine Ret.atN hjl (Ret.atZ (inst_ok hD hjl).1.1 (inst_ok hD hjl).1.2 ?_)
    rw [truth_cell hD hj0 hP]
    refine Ret.atZ hv0 hv1 ?_
    rw [hv2]
    have hkn : k < kn.length := by rw [g1.1]; exact hk
    refine Ret.guardI hkn (Ret.get hkn (Ret.guardI (by simpa using hkn) (Ret.get (by simpa using hkn) (Ret.ret ⟨by simp, ⟨by simp [g1.1], fun j hj => ?_⟩, fun j hj hj' h => ?_⟩))))
    ·rw [List.getElem_set]
     split
     ·rename_i e; subst e; exact .inr rfl
     ·exact g1.2 j (by simpa using hj)
    ·dsimp only
     rw [List.getElem_set]
     split
     ·exact (val_bit hB hr src hs hk).1
     ·exact g2 j hj (by simpa using hj') h
end
def srcVal (sup vals : List Int) (k : Nat) : Int := match sup.findIdx? (fun x => decide (x = (k : Int))) with
 | some p => vals[p]?.getD 0
 | none => 0
theorem srcVal_at {sup vals : List Int} (hnd : sup.Nodup) {p : Nat} (hp : p < sup.length) (hv : p < vals.length) {k : Nat} (hk : sup[p] = (k : Int)) : srcVal sup vals k = vals[p] := by
 unfold srcVal
 have : sup.findIdx? (fun x => decide (x = (k : Int))) = some p := by
  rw [List.findIdx?_eq_some_iff_getElem]
  refine ⟨hp, by simpa using hk, fun j hj => ?_⟩
  simp only [decide_eq_true_eq]
  intro h
  exact List.pairwise_iff_getElem.1 hnd j p (by omega) hp hj (h.trans hk.symm)
 rw [this]
 simp [hv]
theorem srcVal_not {sup vals : List Int} {k : Nat} (hk : (k : Int) ∉ sup) : srcVal sup vals k = 0 := by
 unfold srcVal
 have : sup.findIdx? (fun x => decide (x = (k : Int))) = none := by
  rw [List.findIdx?_eq_none_iff]
  intro x hx
  simp only [decide_eq_false_iff_not]
  rintro rfl
  exact hk hx
 rw [this]
theorem srcVal_bit {sup vals : List Int} (h : ∀ v ∈ vals, 0 ≤ v ∧ v ≤ 1) (k : Nat) : 0 ≤ srcVal sup vals k ∧ srcVal sup vals k ≤ 1 := by
 unfold srcVal
 split
 ·rename_i p _
  cases hv : vals[p]? with
  | none => simp
  | some v => exact h v (List.mem_of_getElem? hv)
 ·simp
section
variable {N : Nat} (hN : 4000000 ≤ N) {b : DBlock} (hB : BlockP b)
include hN hB
theorem spec_l28Known {sup vals : List Int} (hnd : sup.Nodup) (hsup : ∀ x ∈ sup, ∃ s : Nat, x = (s : Int) ∧ s < b.2.1.2.1.length ∧ gateOf b s < 0) (hl : vals.length = sup.length) (hsl : sup.length ≤ 30) (hv : ∀ v ∈ vals, 0 ≤ v ∧ v ≤ 1) (u : Unit) :
 Ret (F_spec_l28Known N (b, sup, vals, u)) (fun r => KnownP b (srcVal sup vals) r.1 ∧ ∀ s (h : s < r.1.length), (s : Int) ∈ sup → 0 ≤ r.1[s]) := by
 have hsm := block_small hB
 unfold F_spec_l28Known
 dsimp only
 refine lim_guard (by omega) ?_
 rw [Int.toNat_natCast]
 refine Ret.up b.2.1.2.1.length (fun i s => s.1.length = b.2.1.2.1.length ∧ ∀ j (h : j < s.1.length), j < i → s.1[j] = -1) (by omega) (by omega) ⟨by simp, fun j _ h => absurd h (Nat.not_lt_zero j)⟩ ?_ ?_
 ·rintro i ⟨l, u1⟩ next hi ⟨g1, g2⟩ hn
  dsimp only at g1 g2 ⊢
  rw [Int.toNat_natCast]
  refine Ret.must (by omega) (Ret.guardI (by omega) (Ret.get (by omega) (hn _ ⟨by simp [g1], fun j hj hji => ?_⟩)))
  dsimp only
  rw [List.getElem_set]
  split
  ·rfl
  ·exact g2 j (by simpa using hj) (by omega)
 ·rintro ⟨l, u1⟩ next ⟨g1, g2⟩
  dsimp only at g1 g2 ⊢
  refine Ret.mustN (by omega) ?_
  refine Ret.up sup.length (fun i (s : List Int × Unit) => s.1.length = b.2.1.2.1.length ∧ (∀ (j : Nat) (h : j < s.1.length), s.1[j] = -1 ∨ s.1[j] = val b (srcVal sup vals) j) ∧ ∀ q (h : q < sup.length), q < i → ∀ (j : Nat) (h' : j < s.1.length), sup[q] = (j : Int) → (0 : Int) ≤ s.1[j]) (by omega) (by omega) ⟨g1, fun j hj => .inl (g2 j hj (by rw [← g1]; exact hj)), fun q _ h => absurd h (Nat.not_lt_zero q)⟩ ?_ ?_
  ·rintro i ⟨l, u2⟩ next2 hi ⟨k1, k2, k3⟩ hn2
   dsimp only at k1 k2 k3 ⊢
   obtain ⟨s, hse, hsn, hsg⟩ := hsup _ (List.getElem_mem hi)
   refine Ret.must (by omega) (Ret.atN hi (Ret.atN (by omega) ?_))
   rw [hse, Int.toNat_natCast]
   have hval : val b (srcVal sup vals) s = vals[i]'(by omega) := by rw [val_source _ hsg, srcVal_at hnd hi (by omega) hse]
   refine Ret.guardI (by omega) (Ret.get (by omega) (hn2 _ ⟨by simp [k1], fun j hj => ?_, fun q hq hqi j hj he => ?_⟩))
   ·dsimp only
    rw [List.getElem_set]
    split
    ·rename_i e; subst e; exact .inr hval.symm
    ·exact k2 j (by simpa using hj)
   ·dsimp only
    rw [List.getElem_set]
    split
    ·exact (hv _ (List.getElem_mem _)).1
    ·rename_i hne
     refine k3 q hq ?_ j (by simpa using hj) he
     have : q ≠ i := fun e => by subst e; rw [hse] at he; omega
     omega
  ·rintro ⟨l, u2⟩ next2 ⟨k1, k2, k3⟩
   dsimp only at k1 k2 k3 ⊢
   refine Ret.mustN (by omega) (Ret.ret ⟨⟨k1, k2⟩, fun s hs hm => ?_⟩)
   obtain ⟨q, hq, he⟩ := List.getElem_of_mem hm
   exact k3 q hq hq s hs he
end
end Go.Proofs.YtdbmhfpphobmpaaGreatDoor
namespace Go.Proofs.YtdbmhfpphobmpaaGreatDoor
set_option linter.unusedSimpArgs false
set_option linter.unusedVariables false
set_option linter.unusedSectionVars false
set_option maxHeartbeats 1000000
noncomputable def srcUpto (b : DBlock) (i : Nat) : List Int := ((List.range i).filter fun k => decide (gateOf b k < 0)).map fun k : Nat => (k : Int)
noncomputable def srcOf (b : DBlock) : List Int := srcUpto b b.2.1.2.1.length
theorem srcUpto_succ (b : DBlock) (i : Nat) : srcUpto b (i + 1) = if gateOf b i < 0 then srcUpto b i ++ [(i : Int)] else srcUpto b i := by
 unfold srcUpto
 rw [List.range_succ, List.filter_append, List.map_append]
 by_cases h : gateOf b i < 0
 ·rw [if_pos h]; simp [h]
 ·rw [if_neg h]; simp [h]
theorem srcUpto_len (b : DBlock) (i : Nat) : (srcUpto b i).length ≤ i := by
 unfold srcUpto
 rw [List.length_map]
 exact Nat.le_trans (List.length_filter_le _ _) (by simp)
section
variable {N : Nat} (hN : 4000000 ≤ N)
include hN
variable {b : DBlock} (hb : SmallB b)
include hb
theorem spec_l28Sources (hB : BlockP b) (u : Unit) : F_spec_l28Sources N (b, u) = some (srcOf b, ()) := by
 have hsm := block_small hB
 refine Ret.eq ?_
 unfold F_spec_l28Sources
 dsimp only
 refine Ret.up b.2.1.2.1.length (fun i s => s = (srcUpto b i, ())) (by omega) (by omega) rfl ?_ ?_
 ·rintro i s next hi rfl hn
  dsimp only
  have hl := srcUpto_len b i
  have hs := srcUpto_succ b i
  refine Ret.must (by omega) ?_
  refine Ret.call (spec_l28Gate hN hb hB hi ()) ?_
  dsimp only
  refine Ret.ifd ?_ ?_ <;> intro h
  ·rw [if_pos h] at hs
   refine Ret.guard (by rw [List.length_append]; simp only [List.length_cons, List.length_nil]; unfold lim; omega) ?_
   exact hn _ (by rw [hs])
  ·rw [if_neg h] at hs
   exact hn _ (by rw [hs])
 ·rintro s next rfl
  dsimp only
  exact Ret.mustN (by omega) (Ret.ret rfl)
theorem impl_logic_sources (hB : BlockP b) {gates : List Int} {ord : List Int × Unit} (hg : gates.length = b.2.1.2.1.length ∧ ∀ k (h : k < gates.length), gates[k] = gateOf b k) (u : Unit) : F_impl_logic_sources N (some (b, gates, ord), u) = some (srcOf b, ()) := by
 have hsm := block_small hB
 refine Ret.eq ?_
 unfold F_impl_logic_sources
 dsimp only
 refine Ret.call rfl ?_
 dsimp only
 refine Ret.up gates.length (fun i s => s = (srcUpto b i, ())) (by omega) (by omega) rfl ?_ ?_
 ·rintro i s next hi rfl hn
  dsimp only
  have hl := srcUpto_len b i
  have hs := srcUpto_succ b i
  refine Ret.must (by omega) ?_
  refine Ret.atN hi ?_
  rw [hg.2 i hi]
  refine Ret.ifd ?_ ?_ <;> intro h
  ·rw [if_pos h] at hs
   refine Ret.guard (by rw [List.length_append]; simp only [List.length_cons, List.length_nil]; unfold lim; omega) ?_
   exact hn _ (by rw [hs])
  ·rw [if_neg h] at hs
   exact hn _ (by rw [hs])
 ·rintro s next rfl
  dsimp only
  refine Ret.mustN (by omega) (Ret.ret ?_)
  rw [hg.1]; rfl
end
end Go.Proofs.YtdbmhfpphobmpaaGreatDoor
namespace Go.Proofs.YtdbmhfpphobmpaaGreatDoor
set_option linter.unusedSimpArgs false
set_option linter.unusedVariables false
set_option linter.unusedSectionVars false
set_option maxHeartbeats 1000000
theorem srcOf_mem {b : DBlock} {x : Int} : x ∈ srcOf b ↔ ∃ s : Nat, x = (s : Int) ∧ s < b.2.1.2.1.length ∧ gateOf b s < 0 := by
 unfold srcOf srcUpto
 simp only [List.mem_map, List.mem_filter, List.mem_range, decide_eq_true_eq]
 constructor
 ·rintro ⟨s, ⟨h1, h2⟩, rfl⟩; exact ⟨s, rfl, h1, h2⟩
 ·rintro ⟨s, rfl, h1, h2⟩; exact ⟨s, ⟨h1, h2⟩, rfl⟩
theorem srcOf_nodup (b : DBlock) : (srcOf b).Nodup := by
 unfold srcOf srcUpto
 refine List.Pairwise.map _ (R := fun a b : Nat => a ≠ b) (fun a b h => by show (a : Int) ≠ (b : Int); omega) ?_
 exact (List.nodup_range).filter _
theorem srcOf_len' {b : DBlock} (hB : BlockP b) : (srcOf b).length ≤ 30 := by
 have h1 := srcUpto_len b b.2.1.2.1.length
 have h2 := (block_small hB).2
 unfold srcOf
 omega
def ValsOk (b : DBlock) (vs : List Int) : Prop := vs.length = (srcOf b).length ∧ ∀ v ∈ vs, BtwP 0 1 v
noncomputable def valsAns (b : DBlock) (vs : List Int) : List Int × Int × Unit :=
 @ite _ (BlockP b) (Classical.propDecidable _) (@ite _ (Ranked b) (Classical.propDecidable _) (@ite _ (ValsOk b vs) (Classical.propDecidable _) ((List.range b.2.1.2.1.length).map (val b (srcVal (srcOf b) vs)), 0, ()) ([], 2, ())) ([], 7, ())) ([], 1, ())
theorem valsAns_len (b : DBlock) (vs : List Int) : (valsAns b vs).1.length ≤ 30 := by
 unfold valsAns
 by_cases h1 : BlockP b
 ·rw [if_pos h1]
  by_cases h2 : Ranked b
  ·rw [if_pos h2]
   by_cases h3 : ValsOk b vs
   ·rw [if_pos h3]; simpa using (block_small h1).2
   ·rw [if_neg h3]; simp
  ·rw [if_neg h2]; simp
 ·rw [if_neg h1]; simp
section
variable {N : Nat} (hN : 4000000 ≤ N) {b : DBlock} (hb : SmallB b)
include hN hb
theorem spec_l28Code (u : Unit) : F_spec_l28Code N (b, u) = some (@ite _ (BlockP b) (Classical.propDecidable _) (@ite _ (Ranked b) (Classical.propDecidable _) 0 7) 1, ()) := by
 refine Ret.eq ?_
 unfold F_spec_l28Code
 refine Ret.call (spec_IsBlock hN hb) ?_
 dsimp only
 by_cases hB : BlockP b
 ·rw [dec_of hB, if_pos hB]
  refine Ret.call (spec_IsLogical hN hb _) ?_
  dsimp only
  by_cases hR : Ranked b
  ·rw [dec_of ⟨hB, hR⟩, if_pos hR]; exact Ret.ret rfl
  ·rw [dec_not fun h => hR h.2, if_neg hR]; exact Ret.ret rfl
 ·rw [dec_not hB, if_neg hB]; exact Ret.ret rfl
theorem spec_ValuesFor {vs : List Int} (hl : vs.length < 4000000) (u : Unit) : F_spec_ValuesFor N (b, vs, u) = some (valsAns b vs) := by
 refine Ret.eq ?_
 unfold F_spec_ValuesFor valsAns
 refine Ret.call (spec_l28Code hN hb ()) ?_
 dsimp only
 by_cases hB : BlockP b
 rotate_left
 ·rw [if_neg hB, if_neg hB]; exact Ret.ret rfl
 rw [if_pos hB, if_pos hB]
 by_cases hR : Ranked b
 rotate_left
 ·rw [if_neg hR, if_neg hR]; exact Ret.ret rfl
 rw [if_pos hR, if_pos hR]
 refine Ret.mustNN rfl ?_
 have hsm := block_small hB
 have hsl := srcOf_len' hB
 obtain ⟨rank, hr⟩ := ranked_bd hN hb hB hR
 refine Ret.call (spec_l28Sources hN hb hB ()) ?_
 dsimp only
 refine Ret.ifnd ?_ ?_ <;> intro he
 ·rw [if_neg fun h : ValsOk b vs => he (by rw [h.1])]; exact Ret.ret rfl
 have he : vs.length = (srcOf b).length := by omega
 refine Ret.up vs.length (fun i _ => ∀ j (h : j < vs.length), j < i → BtwP 0 1 vs[j]) (by omega) (by omega) (fun j _ h => absurd h (Nat.not_lt_zero j)) ?_ ?_
 ·rintro i u1 next hi hI hn
  dsimp only
  refine Ret.must (by omega) (Ret.atN hi ?_)
  refine Ret.call (spec_l01In N _ _ _ _) ?_
  dsimp only
  refine Ret.ifnc ?_ ?_ <;> intro h
  ·rw [if_neg fun h' : ValsOk b vs => h (h'.2 _ (List.getElem_mem hi))]; exact Ret.ret rfl
  ·exact hn () fun j hj hji => by
    by_cases e : j = i
    ·subst e; exact h
    ·exact hI j hj (by omega)
 rintro u1 next hI
 dsimp only
 refine Ret.mustN (by omega) ?_
 have hok : ValsOk b vs := ⟨he, forall_mem_iff.2 fun j hj => hI j hj hj⟩
 rw [if_pos hok]
 have hv : ∀ v ∈ vs, 0 ≤ v ∧ v ≤ 1 := fun v hv => hok.2 v hv
 have hs : ∀ k, gateOf b k < 0 → 0 ≤ srcVal (srcOf b) vs k ∧ srcVal (srcOf b) vs k ≤ 1 := fun k _ => srcVal_bit hv k
 refine Ret.bind (spec_l28Known hN hB (srcOf_nodup b) (fun x hx => srcOf_mem.1 hx) he hsl hv u) ?_
 rintro ⟨kn, u2⟩ ⟨hK, hk0⟩
 dsimp only at hK hk0 ⊢
 refine Ret.up b.2.1.2.1.length (fun i s => s.1 = (List.range i).map (val b (srcVal (srcOf b) vs)) ∧ KnownP b (srcVal (srcOf b) vs) s.2.1 ∧ ∀ j (h : j < kn.length) (h' : j < s.2.1.length), (0 : Int) ≤ kn[j] → (0 : Int) ≤ s.2.1[j]) (by omega) (by omega) ⟨rfl, hK, fun _ _ _ h => h⟩ ?_ ?_
 ·rintro i ⟨l, kn', u3⟩ next hi ⟨g1, g2, g3⟩ hn
  dsimp only at g1 g2 g3 ⊢
  subst g1
  refine Ret.must (by omega) ?_
  refine Ret.bind (spec_l28Eval hN hb hB hr hs N i kn' u3 (by have := hr.low i; omega) hi g2 fun s hsl' hsp => ?_) ?_
  ·have hsn : s < b.2.1.2.1.length := by rw [← g2.1]; exact hsl'
   exact g3 s (by rw [hK.1]; exact hsn) hsl' (hk0 s _ (srcOf_mem.2 ⟨s, rfl, hsn, hsp.1⟩))
  rintro ⟨⟨v, u4⟩, kn2, u5⟩ ⟨f1, f2, f3⟩
  dsimp only at f1 f2 f3 ⊢
  subst f1
  refine Ret.guard (by simp only [List.length_append, List.length_map, List.length_range, List.length_singleton]; unfold lim; omega) (hn _ ⟨by rw [List.range_succ, List.map_append]; rfl, f2, fun j hj hj' h => f3 j (by rw [g2.1, ← hK.1]; exact hj) hj' (g3 j hj (by rw [g2.1, ← hK.1]; exact hj) h)⟩)
 ·rintro ⟨l, kn', u3⟩ next ⟨g1, _⟩
  dsimp only at g1 ⊢
  subst g1
  exact Ret.mustN (by omega) (Ret.ret rfl)
theorem impl_ValuesFor {vs : List Int} (hl : vs.length < 4000000) (u : Unit) : F_impl_ValuesFor N (b, vs, u) = some (valsAns b vs) := by
 refine Ret.eq ?_
 unfold F_impl_ValuesFor valsAns
 dsimp only
 refine Ret.bind (impl_logicOf hN hb (s := []) (by simp) ()) ?_
 rintro ⟨o, c, v⟩ h
 dsimp only at h ⊢
 by_cases hB : BlockP b
 rotate_left
 ·rw [if_neg hB]
  rcases h with ⟨h1, h2⟩ | ⟨h1, h2, h3⟩ | ⟨h2, _⟩
  ·subst h1; exact Ret.ret rfl
  ·exact absurd h2 hB
  ·exact absurd h2 hB
 rw [if_pos hB]
 by_cases hR : Ranked b
 rotate_left
 ·rw [if_neg hR]
  rcases h with ⟨h1, h2⟩ | ⟨h1, h2, h3⟩ | ⟨_, h3, _⟩
  ·exact absurd hB h2
  ·subst h1; exact Ret.ret rfl
  ·exact absurd h3 hR
 rw [if_pos hR]
 rcases h with ⟨h1, h2⟩ | ⟨h1, h2, h3⟩ | ⟨_, _, ⟨h1, h2⟩ | ⟨h1, h2, gates, ord, h3, hg, ht⟩⟩
 ·exact absurd hB h2
 ·exact absurd hR h3
 ·exact absurd (fun k hk => by cases hk) h2
 subst h1 h3
 have hsm := block_small hB
 have hsl := srcOf_len' hB
 have hr := ht.rankP hB.1 hsm.2
 refine Ret.mustNN rfl ?_
 refine Ret.call (impl_logic_sources hN hb hB hg ()) ?_
 dsimp only
 refine Ret.ifnd ?_ ?_ <;> intro he
 ·rw [if_neg fun h : ValsOk b vs => he (by rw [h.1])]; exact Ret.ret rfl
 have he : vs.length = (srcOf b).length := by omega
 refine Ret.call (impl_areWithin hN hl 0 _) ?_
 dsimp only
 refine Ret.ifnc ?_ ?_ <;> intro hw
 ·rw [if_neg fun h : ValsOk b vs => hw h.2]; exact Ret.ret rfl
 have hok : ValsOk b vs := ⟨he, hw⟩
 rw [if_pos hok]
 have hv : ∀ v ∈ vs, 0 ≤ v ∧ v ≤ 1 := fun v hv => hok.2 v hv
 refine Ret.up (srcOf b).length (fun i s => (∀ q (h : q < (srcOf b).length) (h' : q < vs.length), q < i → mget s.1 (srcOf b)[q] 0 = vs[q]) ∧ ∀ x, (∀ q (h : q < (srcOf b).length), q < i → (srcOf b)[q] ≠ x) → mget s.1 x 0 = 0) (by omega) (by omega) ⟨fun q _ _ h => absurd h (Nat.not_lt_zero q), fun _ _ => rfl⟩ ?_ ?_
 ·rintro i ⟨m, u1⟩ next hi ⟨g1, g2⟩ hn
  dsimp only at g1 g2 ⊢
  rw [Int.toNat_natCast]
  refine Ret.must (by omega) (Ret.guardI hi (Ret.get hi (Ret.atN (by omega) (hn _ ⟨fun q hq hq' hqi => ?_, fun x hx => ?_⟩))))
  ·dsimp only
   rw [mget_mset]
   by_cases e : q = i
   ·subst e; rw [if_pos rfl]
   ·rw [if_neg fun h => ?_]
    ·exact g1 q hq hq' (by omega)
    ·rcases Nat.lt_or_gt_of_ne e with hlt | hgt
     ·exact List.pairwise_iff_getElem.1 (srcOf_nodup b) q i hq hi hlt h
     ·omega
  ·dsimp only
   rw [mget_mset, if_neg fun h => hx i hi (by omega) h.symm]
   exact g2 x fun q hq hqi => hx q hq (by omega)
 rintro ⟨m, u1⟩ next ⟨g1, g2⟩
 dsimp only at g1 g2 ⊢
 refine Ret.mustN (by omega) ?_
 have hm : ∀ k : Nat, mget m (k : Int) 0 = srcVal (srcOf b) vs k := fun k => by
  by_cases hk : (k : Int) ∈ srcOf b
  ·obtain ⟨q, hq, hqe⟩ := List.getElem_of_mem hk
   rw [srcVal_at (srcOf_nodup b) hq (by omega) hqe, ← hqe]
   exact g1 q hq (by omega) hq
  ·rw [srcVal_not hk]
   exact g2 _ fun q hq _ h => hk (by rw [← h]; exact List.getElem_mem hq)
 refine Ret.bind (impl_values hN hB hr hg ht (m := m) (fun k _ => by rw [hm]; exact srcVal_bit hv k) u1) ?_
 rintro ⟨S, u2⟩ ⟨f1, f2⟩
 dsimp only at f1 f2 ⊢
 refine Ret.ret ?_
 have : S = (List.range b.2.1.2.1.length).map (val b (srcVal (srcOf b) vs)) := by
  apply List.ext_getElem?
  intro k
  by_cases hk : k < b.2.1.2.1.length
  ·rw [f2 k hk, funext hm]; simp [hk]
  ·rw [List.getElem?_eq_none (by omega), List.getElem?_eq_none (by simp; omega)]
 rw [this]
end
end Go.Proofs.YtdbmhfpphobmpaaGreatDoor
namespace Go.Proofs.YtdbmhfpphobmpaaGreatDoor
set_option linter.unusedSimpArgs false
set_option linter.unusedVariables false
set_option linter.unusedSectionVars false
set_option maxHeartbeats 1000000
noncomputable def codeN (b : DBlock) (ks : List Int) : Int :=
 @ite _ (BlockP b) (Classical.propDecidable _) (@ite _ (Ranked b) (Classical.propDecidable _) (@ite _ (∀ k ∈ ks, InNets b k) (Classical.propDecidable _) 0 2) 7) 1
theorem codeN_zero {b : DBlock} {ks : List Int} : codeN b ks = 0 ↔ BlockP b ∧ Ranked b ∧ ∀ k ∈ ks, InNets b k := by
 unfold codeN
 by_cases h1 : BlockP b
 ·rw [if_pos h1]
  by_cases h2 : Ranked b
  ·rw [if_pos h2]
   by_cases h3 : ∀ k ∈ ks, InNets b k
   ·rw [if_pos h3]; exact ⟨fun _ => ⟨h1, h2, h3⟩, fun _ => rfl⟩
   ·rw [if_neg h3]; exact ⟨fun h => by omega, fun h => absurd h.2.2 h3⟩
  ·rw [if_neg h2]; exact ⟨fun h => by omega, fun h => absurd h.2.1 h2⟩
 ·rw [if_neg h1]; exact ⟨fun h => by omega, fun h => absurd h.1 h1⟩
theorem codeN_ok {b : DBlock} {ks : List Int} (h1 : BlockP b) (h2 : Ranked b) (h3 : ∀ k ∈ ks, InNets b k) : codeN b ks = 0 := codeN_zero.2 ⟨h1, h2, h3⟩
theorem codeN_not {b : DBlock} {ks : List Int} (h1 : BlockP b) (h2 : Ranked b) (h3 : ¬ ∀ k ∈ ks, InNets b k) : codeN b ks = 2 := by unfold codeN; rw [if_pos h1, if_pos h2, if_neg h3]
theorem inNets_nat {b : DBlock} {k : Int} (h : InNets b k) : k = ((k.toNat : Nat) : Int) ∧ k.toNat < b.2.1.2.1.length := by
 unfold InNets BtwP at h
 omega
def bitsOf (n r : Nat) : List Int := (List.range n).map fun p => ((r / 2 ^ p % 2 : Nat) : Int)
theorem bitsOf_len (n r : Nat) : (bitsOf n r).length = n := by simp [bitsOf]
theorem bitsOf_get {n r p : Nat} (h : p < (bitsOf n r).length) : (bitsOf n r)[p] = ((r / 2 ^ p % 2 : Nat) : Int) := by simp [bitsOf]
theorem bitsOf_bit (n r : Nat) : ∀ v ∈ bitsOf n r, 0 ≤ v ∧ v ≤ 1 := by
 intro v hv
 obtain ⟨p, _, rfl⟩ := List.mem_map.1 hv
 omega
noncomputable def funL (b : DBlock) (sup : List Int) (k : Nat) : List Int := (List.range (2 ^ sup.length)).map fun r => val b (srcVal sup (bitsOf sup.length r)) k
theorem funL_len (b : DBlock) (sup : List Int) (k : Nat) : (funL b sup k).length = 2 ^ sup.length := by simp [funL]
structure Sup (b : DBlock) (sup : List Int) : Prop where
 nodup : sup.Nodup
 src : ∀ x ∈ sup, ∃ s : Nat, x = (s : Int) ∧ s < b.2.1.2.1.length ∧ gateOf b s < 0
theorem supL_sup (b : DBlock) (k : Nat) : Sup b (supL b k) :=
 ⟨(supL_incr b k).imp fun h => by omega, fun x hx => by obtain ⟨s, h1, h2, rfl⟩ := supL_mem.1 hx; exact ⟨s, rfl, h1, h2.1⟩⟩
theorem Sup.len {b : DBlock} (hB : BlockP b) {sup : List Int} (h : Sup b sup) : sup.length ≤ 30 := by
 have hsm := block_small hB
 have h1 : (sup.map Int.toNat).Nodup := by
  refine List.Pairwise.map _ (R := fun a b => a ≠ b ∧ 0 ≤ a ∧ 0 ≤ b) (fun a b h => by omega) ?_
  refine List.pairwise_iff_getElem.2 fun i j hi hj hij => ⟨List.pairwise_iff_getElem.1 h.nodup i j hi hj hij, ?_, ?_⟩
  ·obtain ⟨s, e, _⟩ := h.src _ (List.getElem_mem hi); omega
  ·obtain ⟨s, e, _⟩ := h.src _ (List.getElem_mem hj); omega
 have h2 : ∀ x ∈ sup.map Int.toNat, x ∈ List.range 30 := by
  intro x hx
  obtain ⟨y, hy, rfl⟩ := List.mem_map.1 hx
  obtain ⟨s, rfl, h3, _⟩ := h.src y hy
  rw [List.mem_range]
  omega
 have := List.Nodup.length_le_of_subset h1 h2
 simpa using this
section
variable {N : Nat} (hN : 4000000 ≤ N)
include hN
theorem spec_l28Size {n : Nat} (hn : n ≤ 30) (u : Unit) : F_spec_l28Size N ((n : Int), u) = some (2 ^ n, ()) := by
 refine Ret.eq ?_
 unfold F_spec_l28Size
 dsimp only
 refine Ret.upM 0 n (fun i (s : Int) (_ : Unit) => s = 2 ^ i) (by omega) (by omega) (by omega) rfl ?_ ?_
 ·rintro i s u1 next _ hi rfl hn2
  dsimp only
  refine Ret.must (by omega) ?_
  have hb : (0 : Int) < 2 ^ i ∧ (2 : Int) ^ i ≤ 2 ^ 30 := ⟨Int.pow_pos (by omega), by
   have : 2 ^ i ≤ 2 ^ 30 := Nat.pow_le_pow_right (by omega) (by omega)
   exact_mod_cast this⟩
  rw [wrapI (n := 2 * 2 ^ i) (by omega) (by omega)]
  exact hn2 _ _ (by rw [Int.pow_succ, Int.mul_comm])
 ·rintro s u1 next rfl
  dsimp only
  exact Ret.mustN (by omega) (Ret.ret rfl)
theorem spec_l28Bits {n r : Nat} (hn : n ≤ 30) (hr : r < 4611686018427387904) (u : Unit) : F_spec_l28Bits N ((r : Int), (n : Int), u) = some (bitsOf n r, ()) := by
 refine Ret.eq ?_
 unfold F_spec_l28Bits
 dsimp only
 refine Ret.upM 0 n (fun i (s : Int) (t : List Int × Unit) => s = ((r / 2 ^ i : Nat) : Int) ∧ t.1 = bitsOf i r) (by omega) (by omega) (by omega) ⟨by simp, rfl⟩ ?_ ?_
 ·rintro i s ⟨l, u1⟩ next _ hi ⟨rfl, h2⟩ hn2
  dsimp only at h2 ⊢
  subst h2
  refine Ret.must (by omega) ?_
  have hle : r / 2 ^ i ≤ r := Nat.div_le_self _ _
  have hm : (((r / 2 ^ i : Nat) : Int).tmod 2) = ((r / 2 ^ i % 2 : Nat) : Int) := rfl
  have hd : (((r / 2 ^ i : Nat) : Int).tdiv 2) = ((r / 2 ^ (i + 1) : Nat) : Int) := by
   rw [Nat.pow_succ, ← Nat.div_div_eq_div_mul]; rfl
  refine Ret.guard ?_ ?_
  ·rw [List.length_append, bitsOf_len]; simp only [List.length_singleton]; unfold lim; omega
  ·rw [hd, hm]
   have hle2 : r / 2 ^ (i + 1) ≤ r := Nat.div_le_self _ _
   have hw : IntKind.i64.wrap ((r / 2 ^ (i + 1) : Nat) : Int) = ((r / 2 ^ (i + 1) : Nat) : Int) := by
    generalize r / 2 ^ (i + 1) = q at *
    exact wrapI (by omega) (by omega)
   rw [hw]
   exact hn2 _ _ ⟨rfl, by simp [bitsOf, List.range_succ]⟩
 ·rintro s ⟨l, u1⟩ next ⟨_, h2⟩
  dsimp only at h2 ⊢
  subst h2
  exact Ret.mustN (by omega) (Ret.ret rfl)
variable {b : DBlock} (hb : SmallB b) (hB : BlockP b) {rank : Nat → Nat} (hr : RankP b rank)
include hb hB hr
theorem spec_l28Function {sup : List Int} (hS : Sup b sup) (hl : sup.length ≤ 8) {k : Nat} (hk : k < b.2.1.2.1.length) (hks : ∀ s, SupP b k s → (s : Int) ∈ sup) (u : Unit) : F_spec_l28Function N (b, (k : Int), sup, u) = some (funL b sup k, ()) := by
 have hp : 2 ^ sup.length ≤ 2 ^ 8 := Nat.pow_le_pow_right (by omega) hl
 refine Ret.eq ?_
 unfold F_spec_l28Function
 dsimp only
 have hsz : F_spec_l28Size N ((sup.length : Int), ()) = some (((2 ^ sup.length : Nat) : Int), ()) := by rw [spec_l28Size hN (by omega)]; simp
 refine Ret.up (2 ^ sup.length) (fun i s => s.1 = (List.range i).map fun r => val b (srcVal sup (bitsOf sup.length r)) k) (by omega) (by omega) rfl ?_ ?_
 ·rintro i ⟨l, u1⟩ next hi h1 hn2
  dsimp only at h1 ⊢
  subst h1
  refine Ret.call hsz ?_
  dsimp only
  refine Ret.must (by omega) ?_
  refine Ret.call (spec_l28Bits hN (by omega) (by omega) ()) ?_
  refine Ret.bind (spec_l28Known hN hB hS.nodup hS.src (bitsOf_len _ _) (by omega) (bitsOf_bit _ _) ()) ?_
  rintro ⟨kn, u2⟩ ⟨hK, hk0⟩
  dsimp only at hK hk0 ⊢
  refine Ret.bind (spec_l28Eval hN hb hB hr (src := srcVal sup (bitsOf sup.length i)) (fun j _ => srcVal_bit (bitsOf_bit _ _) j) N k kn u2 (by have := hr.low k; omega) hk hK fun s hsl hsp => hk0 s hsl (hks s hsp)) ?_
  rintro ⟨⟨v, u4⟩, kn2, u5⟩ ⟨f1, f2, f3⟩
  dsimp only at f1 ⊢
  subst f1
  refine Ret.guard (by simp only [List.length_append, List.length_map, List.length_range, List.length_singleton]; unfold lim; omega) (hn2 _ (by
   show _ ++ _ = _
   rw [List.range_succ, List.map_append]; rfl))
 ·rintro ⟨l, u1⟩ next h1
  dsimp only at h1 ⊢
  subst h1
  refine Ret.call hsz ?_
  dsimp only
  exact Ret.mustN (by omega) (Ret.ret rfl)
omit hN hb hB hr in
theorem wrap62 (n : Int) (h0 : 0 ≤ n) (h : n < 2 ^ 62) : IntKind.i64.wrap n = n := by
 have : (2 : Int) ^ 62 = 4611686018427387904 := by decide
 exact wrapI (by omega) (by omega)
omit hN hb hB hr in
theorem and_bit {i p : Nat} (hi : i < 256) (hp : p < 8) : bits .and .i64 ((i : Int).fdiv (2 ^ (min (p : Int).toNat (IntKind.i64).bits))) 1 = ((i / 2 ^ p % 2 : Nat) : Int) := by
 have h1 : (i : Int).fdiv (2 ^ (min (p : Int).toNat (IntKind.i64).bits)) = ((i / 2 ^ p : Nat) : Int) := by
  rw [Int.toNat_natCast, show min p (IntKind.i64).bits = p from Nat.min_eq_left (by simp only [IntKind.bits]; omega)]
  rw [show (2 : Int) ^ p = ((2 ^ p : Nat) : Int) by simp, Int.fdiv_eq_ediv_of_nonneg _ (Int.natCast_nonneg _)]
  rfl
 have hle : i / 2 ^ p ≤ i := Nat.div_le_self _ _
 rw [h1]
 generalize i / 2 ^ p = q at *
 have h62 : (2 : Int) ^ 62 = 4611686018427387904 := by decide
 have := bits_mask .i64 62 (by decide) wrap62 1 (by decide) (q : Int) (by omega) (by omega)
 rw [show ((2 : Int) ^ 1 - 1) = 1 by decide] at this
 rw [this]
 simp
omit hb hB hr in
theorem impl_rows {sup : List Int} (hS : Sup b sup) (hl : sup.length ≤ 8) {i : Nat} (hi : i < 256) {ρ : Type} {R : ρ → Prop} {K : Int × List (Int × Int) × Unit → Option ρ}
 (hK : ∀ m u, (∀ k : Nat, mget m (k : Int) 0 = srcVal sup (bitsOf sup.length i) k) → Ret (K ((sup.length : Int), m, u)) R) (u : Unit) :
 Ret (fixN N (fun (next : Int × List (Int × Int) × Unit → Option ρ) (s : Int × List (Int × Int) × Unit) => bif decide (s.1 < (sup.length : Int)) then obind (atI sup s.1) fun e => (bif decide (0 ≤ s.1) then next (IntKind.i64.wrap (s.1 + (1 : Int)), mset s.2.1 e (bits .and .i64 ((i : Int).fdiv (2 ^ (min s.1.toNat (IntKind.i64).bits))) (1 : Int)), ()) else none) else K s) ((0 : Int), [], u)) R := by
 refine Ret.up sup.length (fun j s => (∀ q (h : q < sup.length), q < j → mget s.1 sup[q] 0 = ((i / 2 ^ q % 2 : Nat) : Int)) ∧ ∀ x, (∀ q (h : q < sup.length), q < j → sup[q] ≠ x) → mget s.1 x 0 = 0) (by omega) (by omega) ⟨fun q _ h => absurd h (Nat.not_lt_zero q), fun _ _ => rfl⟩ ?_ ?_
 ·rintro j ⟨m, u1⟩ next hj ⟨g1, g2⟩ hn
  dsimp only at g1 g2 ⊢
  refine Ret.must (by omega) (Ret.atN hj (Ret.guard (by omega) (hn _ ⟨fun q hq hqi => ?_, fun x hx => ?_⟩)))
  ·dsimp only
   rw [mget_mset]
   by_cases e : q = j
   ·subst e; rw [if_pos rfl, and_bit hi (by omega)]
   ·rw [if_neg fun h => ?_]
    ·exact g1 q hq (by omega)
    ·rcases Nat.lt_or_gt_of_ne e with hlt | hgt
     ·exact List.pairwise_iff_getElem.1 hS.nodup q j hq hj hlt h
     ·omega
  ·dsimp only
   rw [mget_mset, if_neg fun h => hx j hj (by omega) h.symm]
   exact g2 x fun q hq hqi => hx q hq (by omega)
 ·rintro ⟨m, u1⟩ next ⟨g1, g2⟩
  dsimp only at g1 g2 ⊢
  refine Ret.mustN (by omega) (hK m u1 fun k => ?_)
  by_cases hk : (k : Int) ∈ sup
  ·obtain ⟨q, hq, hqe⟩ := List.getElem_of_mem hk
   rw [srcVal_at hS.nodup hq (by rw [bitsOf_len]; exact hq) hqe, bitsOf_get, ← hqe]
   exact g1 q hq hq
  ·rw [srcVal_not hk]
   exact g2 _ fun q hq _ h => hk (by rw [← h]; exact List.getElem_mem hq)
omit hb in
theorem impl_function {gates : List Int} {ord : List Int × Unit} (hg : gates.length = b.2.1.2.1.length ∧ ∀ k (h : k < gates.length), gates[k] = gateOf b k) (ht : Topo b ord.1) {k : Nat} (hk : k < b.2.1.2.1.length) (u : Unit) :
 F_impl_logic_function N (some (b, gates, ord), (k : Int), u) = some (if 8 < (supL b k).length then ([], [], false, ()) else (funL b (supL b k) k, supL b k, true, ())) := by
 refine Ret.eq ?_
 unfold F_impl_logic_function
 dsimp only
 refine Ret.bind (impl_supports hN hB hg ht ()) ?_
 rintro ⟨S, u1⟩ ⟨hS1, hS2⟩
 dsimp only at hS1 hS2 ⊢
 rw [Int.toNat_natCast]
 refine Ret.guardI (by omega) (Ret.call (hS2 k hk) ?_)
 refine Ret.ifd ?_ ?_ <;> intro h8
 ·rw [if_pos (by omega)]; exact Ret.ret rfl
 rw [if_neg (by omega)]
 have hl : (supL b k).length ≤ 8 := by omega
 have hp : 2 ^ (supL b k).length ≤ 2 ^ 8 := Nat.pow_le_pow_right (by omega) hl
 refine Ret.guard (by omega) ?_
 have hlim : IntKind.i64.wrap ((1 : Int) * (2 ^ (min ((supL b k).length : Int).toNat (IntKind.i64).bits))) = ((2 ^ (supL b k).length : Nat) : Int) := by
  rw [Int.toNat_natCast, show min (supL b k).length (IntKind.i64).bits = (supL b k).length from Nat.min_eq_left (by simp only [IntKind.bits]; omega), Int.one_mul]
  rw [show (2 : Int) ^ (supL b k).length = ((2 ^ (supL b k).length : Nat) : Int) by simp]
  generalize 2 ^ (supL b k).length = q at *
  exact wrapI (by omega) (by omega)
 rw [hlim]
 refine Ret.up (2 ^ (supL b k).length) (fun i s => s.2.1 = (List.range i).map fun r => val b (srcVal (supL b k) (bitsOf (supL b k).length r)) k) (by omega) (by omega) rfl ?_ ?_
 ·rintro i ⟨u0, l, u2⟩ next hi h1 hn2
  dsimp only at h1 ⊢
  subst h1
  refine Ret.must (by omega) ?_
  refine impl_rows (i := i) hN (supL_sup b k) hl (by omega) (fun m u3 hm => ?_) ()
  refine Ret.bind (impl_values hN hB hr hg ht (m := m) (fun j _ => by rw [hm]; exact srcVal_bit (bitsOf_bit _ _) j) u3) ?_
  rintro ⟨V, u4⟩ ⟨f1, f2⟩
  dsimp only at f1 f2 ⊢
  refine Ret.guardI (by omega) (Ret.call (f2 k hk) ?_)
  rw [funext hm]
  refine Ret.guard (by simp only [List.length_append, List.length_map, List.length_range, List.length_singleton]; unfold lim; omega) (hn2 _ (by
   show _ ++ _ = _
   rw [List.range_succ, List.map_append]; rfl))
 ·rintro ⟨u0, l, u2⟩ next h1
  dsimp only at h1 ⊢
  subst h1
  exact Ret.mustN (by omega) (Ret.ret rfl)
end
section
variable {N : Nat} (hN : 4000000 ≤ N) {b : DBlock} (hb : SmallB b)
include hN hb
theorem spec_netCode (k : Int) (u : Unit) : F_spec_l28NetCode N (b, k, u) = some (codeN b [k], ()) := by
 obtain ⟨⟨c, u1⟩, h1, h2⟩ := spec_l28NetCode hN hb k u
 rw [h1]
 congr 2
 rcases h2 with ⟨rfl, h⟩ | ⟨rfl, h, h'⟩ | ⟨rfl, h, h', h3⟩ | ⟨rfl, h, h', h3, _⟩
 ·unfold codeN; rw [if_neg h]
 ·unfold codeN; rw [if_pos h, if_neg h']
 ·rw [codeN_not h h' fun hh => h3 (hh k (by simp))]
 ·rw [codeN_ok h h' (by simpa using h3)]
theorem impl_logicOf' {s : List Int} (hs : s.length < 4000000) (u : Unit) : Ret (F_impl_logicOf N (b, s, u)) (fun r => r.2.1 = codeN b s ∧ (codeN b s = 0 → BlockP b ∧ Ranked b ∧ (∀ k ∈ s, InNets b k) ∧ ∃ gates ord, r.1 = some (b, gates, ord) ∧ (gates.length = b.2.1.2.1.length ∧ ∀ k (h : k < gates.length), gates[k] = gateOf b k) ∧ Topo b ord.1)) := by
 refine (impl_logicOf hN hb hs u).imp ?_
 rintro r (⟨h1, h2⟩ | ⟨h1, h2, h3⟩ | ⟨h2, h3, ⟨h1, h4⟩ | ⟨h1, h4, gates, ord, h5, h6, h7⟩⟩)
 ·have e : codeN b s = 1 := by unfold codeN; rw [if_neg h2]
  exact ⟨by rw [h1, e], fun h => by omega⟩
 ·have e : codeN b s = 7 := by unfold codeN; rw [if_pos h2, if_neg h3]
  exact ⟨by rw [h1, e], fun h => by omega⟩
 ·have e : codeN b s = 2 := codeN_not h2 h3 h4
  exact ⟨by rw [h1, e], fun h => by omega⟩
 ·exact ⟨by rw [h1, codeN_ok h2 h3 h4], fun _ => ⟨h2, h3, h4, gates, ord, h5, h6, h7⟩⟩
noncomputable def funAns (b : DBlock) (k : Int) : List Int × Int × Unit := if codeN b [k] ≠ 0 then ([], codeN b [k], ()) else if 8 < (supL b k.toNat).length then ([], 3, ()) else (funL b (supL b k.toNat) k.toNat, 0, ())
omit hN hb in
theorem funAns_len (k : Int) : (funAns b k).1.length ≤ 256 := by
 unfold funAns
 split
 ·simp
 ·split
  ·simp
  ·dsimp only
   rw [funL_len]
   exact Nat.pow_le_pow_right (by omega) (show (supL b k.toNat).length ≤ 8 by omega)
theorem spec_FunctionOf (k : Int) (u : Unit) : F_spec_FunctionOf N (b, k, u) = some (funAns b k) := by
 refine Ret.eq ?_
 unfold F_spec_FunctionOf funAns
 refine Ret.call (spec_netCode hN hb k u) ?_
 dsimp only
 refine Ret.ifnd ?_ ?_ <;> intro hc
 ·rw [if_pos hc]; exact Ret.ret rfl
 rw [if_neg (not_not_intro hc)]
 obtain ⟨hB, hR, hk⟩ := codeN_zero.1 hc
 obtain ⟨hke, hkn⟩ := inNets_nat (hk k (by simp))
 obtain ⟨rank, hr⟩ := ranked_bd hN hb hB hR
 have hsup := spec_l28Support hN hb hB hr hkn u
 rw [← hke] at hsup
 refine Ret.call hsup ?_
 dsimp only
 refine Ret.ifd ?_ ?_ <;> intro h8
 ·rw [if_pos (by omega)]; exact Ret.ret rfl
 rw [if_neg (by omega)]
 have hf := spec_l28Function hN hb hB hr (supL_sup b k.toNat) (by omega) hkn (fun s hs => supL_mem.2 ⟨s, (reach_rank hB.1 hr.down hs.2 hkn).1, hs, rfl⟩) ()
 rw [← hke] at hf
 refine Ret.call hf (Ret.ret rfl)
theorem impl_FunctionOf (k : Int) (u : Unit) : F_impl_FunctionOf N (b, k, u) = some (funAns b k) := by
 refine Ret.eq ?_
 unfold F_impl_FunctionOf funAns
 dsimp only
 refine Ret.bind (impl_logicOf' hN hb (s := [k]) (by simp) ()) ?_
 rintro ⟨o, c, u1⟩ ⟨hc, h0⟩
 dsimp only at hc h0 ⊢
 subst hc
 refine Ret.ifnd ?_ ?_ <;> intro hc
 ·rw [if_pos hc]; exact Ret.ret rfl
 rw [if_neg (not_not_intro hc)]
 obtain ⟨hB, hR, hk, gates, ord, rfl, hg, ht⟩ := h0 hc
 obtain ⟨hke, hkn⟩ := inNets_nat (hk k (by simp))
 have hr := ht.rankP hB.1 (block_small hB).2
 have hf := impl_function hN hB hr hg ht hkn u
 rw [← hke] at hf
 refine Ret.call hf ?_
 by_cases h8 : 8 < (supL b k.toNat).length
 ·rw [if_pos h8, if_pos h8]; exact Ret.ret rfl
 ·rw [if_neg h8, if_neg h8]; exact Ret.ret rfl
end
end Go.Proofs.YtdbmhfpphobmpaaGreatDoor
namespace Go.Proofs.YtdbmhfpphobmpaaGreatDoor
set_option linter.unusedSimpArgs false
set_option linter.unusedVariables false
set_option linter.unusedSectionVars false
theorem strOf_one (n : Int) : (strOf [n]).size = 1 := by simp [strOf]
theorem markText_some {N : Nat} (hN : 1000000000000 ≤ N) (k : Int) (hk : k ≤ 100000000000) (u : Unit) : Ret (F_laws_markText N (k, u)) (fun _ => True) := by
 unfold F_laws_markText
 dsimp only
 refine Ret.ifd ?_ ?_ <;> intro h0
 ·exact Ret.ret trivial
 refine Ret.fix (I := fun s => 0 ≤ s.1 ∧ (s.2.1.size : Int) + s.1 ≤ 100000000000) (μ := fun s => s.1.toNat) ?_ N _ ⟨by dsimp only; omega, by dsimp only; have h0 : (⟨#[]⟩ : ByteArray).size = 0 := rfl; omega⟩ (by dsimp only; omega)
 rintro ⟨k, s, v⟩ next ⟨h1, h2⟩ hn
 dsimp only at h1 h2 ⊢
 refine Ret.ifd ?_ ?_ <;> intro h3
 ·have hd : k.tdiv 10 = ((k.toNat / 10 : Nat) : Int) := by
   have : k = ((k.toNat : Nat) : Int) := by omega
   rw [this]; rfl
  refine Ret.guard ?_ (hn _ ⟨?_, ?_⟩ ?_)
  ·rw [strOf_one]; unfold limS; omega
  ·dsimp only; rw [hd, wrapI (n := ((k.toNat / 10 : Nat) : Int)) (by omega) (by omega)]; omega
  ·dsimp only; rw [hd, wrapI (n := ((k.toNat / 10 : Nat) : Int)) (by omega) (by omega), ByteArray.size_append, strOf_one]; omega
  ·dsimp only; rw [hd, wrapI (n := ((k.toNat / 10 : Nat) : Int)) (by omega) (by omega)]; omega
 ·refine Ret.guard ?_ (Ret.ret trivial)
  have : (⟨#[109]⟩ : ByteArray).size = 1 := rfl
  rw [this]; unfold limS; omega
section
variable {ρ : Type} {R : ρ → Prop} {N : Nat}
theorem Ret.text (hN : 1000000000000 ≤ N) {k : Int} {f : ByteArray → Option ρ} (hk : k ≤ 100000000000) (h : ∀ s, Ret (f s) R) : Ret (obind (obind (F_laws_markText N (k, ())) fun r => some r.1) f) R := by
 obtain ⟨r, hr, _⟩ := markText_some hN k hk ()
 rw [hr]
 exact h _
theorem sum_take_succ {α : Type} (c : α → Nat) {xs : List α} {i : Nat} (h : i < xs.length) : ((xs.take (i + 1)).map c).sum = ((xs.take i).map c).sum + c xs[i] := by
 rw [List.take_succ_eq_append_getElem h, List.map_append, List.sum_append]; simp
theorem sum_take_le {α : Type} (c : α → Nat) (xs : List α) (i : Nat) : ((xs.take i).map c).sum ≤ (xs.map c).sum := by
 conv => rhs; rw [← List.take_append_drop i xs, List.map_append, List.sum_append]
 omega
theorem sum_map_le {α : Type} {c : α → Nat} {b : Nat} {xs : List α} (h : ∀ e ∈ xs, c e ≤ b) : (xs.map c).sum ≤ b * xs.length := by
 induction xs with
 | nil => simp
 | cons x xs ih =>
  have h1 := h x (by simp)
  have h2 := ih fun e he => h e (by simp [he])
  simp only [List.map_cons, List.sum_cons, List.length_cons, Nat.mul_succ]
  omega
theorem Ret.next {next : List Int → Option ρ} {a b j : Int} (h : Ret (next [b, j]) R) (e : a = b) : Ret (next [a, j]) R := by subst e; exact h
theorem mark_loop {α : Type} {xs : List α} (c : α → Nat) {f : (List Int → Option Int) → List Int → Option Int} {k : Int} (hN : 1000000000000 ≤ N) (h0 : 0 ≤ k) (hb : k + ((xs.map c).sum : Nat) ≤ 100000000000) (hl : xs.length < 4000000)
 (step : ∀ (i : Nat) (hi : i < xs.length) (m : Int) (next : List Int → Option Int), 0 ≤ m → m + (c xs[i] : Nat) ≤ 100000000000 → Ret (next [m + (c xs[i] : Nat), IntKind.i64.wrap ((i : Int) + 1)]) (fun r => r = k + ((xs.map c).sum : Nat)) → Ret (f next [m, (i : Int)]) (fun r => r = k + ((xs.map c).sum : Nat)))
 (fin : ∀ (m : Int) (next : List Int → Option Int), f next [m, (xs.length : Int)] = some m) : fixN N f [k, (0 : Int)] = some (k + ((xs.map c).sum : Nat)) := by
 refine Ret.eq ?_
 refine Ret.fix (I := fun l => ∃ i : Nat, i ≤ xs.length ∧ l = [k + (((xs.take i).map c).sum : Nat), (i : Int)]) (μ := fun l => xs.length - (nth l 1 0).toNat) ?_ N _ ⟨0, Nat.zero_le _, by simp⟩ (by omega)
 rintro l next ⟨i, hi, rfl⟩ hn
 by_cases h : i < xs.length
 ·have h1 := sum_take_succ c h
  have h2 := sum_take_le c xs (i + 1)
  refine step i h _ next (by omega) (by omega) ?_
  rw [wrapSucc (by omega)]
  refine hn _ ⟨i + 1, h, ?_⟩ ?_
  ·rw [h1]; simp only [Int.natCast_add, Int.add_assoc]
  ·simp only [nth]; omega
 ·obtain rfl : i = xs.length := by omega
  rw [List.take_length]
  exact Ret.of_eq (fin _ next) rfl
theorem Ret.markInts {K : Int × Int × List Int × Unit → Option ρ} {xs : List Int} (hl : xs.length < 4000000) (hN : 4000000 ≤ N) {u : Unit}
 (h : ∀ row : List Int, row.length = xs.length → (∀ (j : Nat) (h : j < row.length), row[j] = 1 + (j : Int)) → Ret (K (1 + (xs.length : Int), (xs.length : Int), row, ())) R) :
 Ret (fixN N (fun (next : Int × Int × List Int × Unit → Option ρ) (s : Int × Int × List Int × Unit) => bif decide (s.2.1 < (s.2.2.1.length : Int)) then (bif inI s.2.1 s.2.2.1.length then obind (s.2.2.1[s.2.1.toNat]?) fun _ => next (IntKind.i64.wrap (s.1 + (1 : Int)), IntKind.i64.wrap (s.2.1 + (1 : Int)), s.2.2.1.set s.2.1.toNat s.1, ()) else none) else K s) ((1 : Int), (0 : Int), xs, u)) R := by
 refine Ret.fix (I := fun s => ∃ i : Nat, i ≤ xs.length ∧ s.1 = 1 + (i : Int) ∧ s.2.1 = (i : Int) ∧ s.2.2.1.length = xs.length ∧ ∀ (j : Nat) (h : j < s.2.2.1.length), j < i → s.2.2.1[j] = 1 + (j : Int)) (μ := fun s => xs.length - s.2.1.toNat) ?_ N _ ⟨0, Nat.zero_le _, rfl, rfl, rfl, fun j _ h => absurd h (by omega)⟩ (by dsimp only; omega)
 rintro ⟨m, i', row, v⟩ next ⟨i, hi, h1, h2, h3, h4⟩ hn
 dsimp only at h1 h2 h3 h4 ⊢
 subst h1 h2
 by_cases hlt : i < xs.length
 ·refine Ret.must (by omega) (Ret.guardI (by omega) ?_)
  rw [Int.toNat_natCast]
  refine Ret.get (by omega) (hn _ ⟨i + 1, hlt, ?_, ?_, ?_, fun j hj hji => ?_⟩ ?_)
  ·dsimp only; rw [wrapI (by omega) (by omega)]; omega
  ·dsimp only; rw [wrapI (by omega) (by omega)]; omega
  ·dsimp only; rw [List.length_set]; exact h3
  ·dsimp only at hj ⊢
   rw [List.length_set] at hj
   rw [List.getElem_set]
   split
   ·rename_i e; subst e; rfl
   ·exact h4 j hj (by omega)
  ·dsimp only; rw [wrapI (by omega) (by omega)]; omega
 ·obtain rfl : i = xs.length := by omega
  refine Ret.mustN (by omega) ?_
  obtain rfl : v = () := rfl
  exact h row h3 fun j hj => h4 j hj (by omega)
theorem held_ints {row : List Int} {n : Int} (hl : row.length < 4000000) (hN : 4000000 ≤ N) (h : ∀ (j : Nat) (h : j < row.length), row[j] = 1 + (j : Int)) (hn : n = 1 + (row.length : Int)) (u : Unit) : F_laws_heldInt64S N (row, (1 : Int), u) = some (n, ()) := by
 refine Ret.eq ?_
 unfold F_laws_heldInt64S
 dsimp only
 refine Ret.fix (I := fun s => ∃ i : Nat, i ≤ row.length ∧ s.1 = 1 + (i : Int) ∧ s.2.1 = (i : Int)) (μ := fun s => row.length - s.2.1.toNat) ?_ N _ ⟨0, Nat.zero_le _, rfl, rfl⟩ (by dsimp only; omega)
 rintro ⟨m, i', v⟩ next ⟨i, hi, h1, h2⟩ hnx
 dsimp only at h1 h2 ⊢
 subst h1 h2
 by_cases hlt : i < row.length
 ·refine Ret.must (by omega) (Ret.atN hlt ?_)
  rw [h i hlt]
  refine Ret.mustNN rfl (hnx _ ⟨i + 1, hlt, ?_, ?_⟩ ?_)
  ·dsimp only; rw [wrapI (by omega) (by omega)]; omega
  ·dsimp only; rw [wrapI (by omega) (by omega)]; omega
  ·dsimp only; rw [wrapI (by omega) (by omega)]; omega
 ·obtain rfl : i = row.length := by omega
  refine Ret.mustN (by omega) (Ret.ret ?_)
  rw [hn]
end
end Go.Proofs.YtdbmhfpphobmpaaGreatDoor
namespace Go.Proofs.YtdbmhfpphobmpaaGreatDoor
set_option linter.unusedSimpArgs false
set_option linter.unusedVariables false
set_option linter.unusedSectionVars false
section
variable {ρ τ : Type} {R : ρ → Prop} {N : Nat}
theorem Ret.markArg {K : Int × Int × List Int × τ → Option ρ} {xs : List Int} {k : Int} (hk : 0 ≤ k ∧ k ≤ 100000000000) (hl : xs.length < 4000000) (hN : 4000000 ≤ N) {t : τ}
 (h : ∀ row : List Int, row.length = xs.length → Ret (K (k + (xs.length : Int), (xs.length : Int), row, t)) R) :
 Ret (fixN N (fun (next : Int × Int × List Int × τ → Option ρ) (s : Int × Int × List Int × τ) => bif decide (s.2.1 < (s.2.2.1.length : Int)) then (bif inI s.2.1 s.2.2.1.length then obind (s.2.2.1[s.2.1.toNat]?) fun _ => next (IntKind.i64.wrap (s.1 + (1 : Int)), IntKind.i64.wrap (s.2.1 + (1 : Int)), s.2.2.1.set s.2.1.toNat s.1, s.2.2.2) else none) else K s) (k, (0 : Int), xs, t)) R := by
 refine Ret.fix (I := fun s => ∃ i : Nat, i ≤ xs.length ∧ s.1 = k + (i : Int) ∧ s.2.1 = (i : Int) ∧ s.2.2.1.length = xs.length ∧ s.2.2.2 = t) (μ := fun s => xs.length - s.2.1.toNat) ?_ N _ ⟨0, Nat.zero_le _, by simp, rfl, rfl, rfl⟩ (by dsimp only; omega)
 rintro ⟨m, i', row, v⟩ next ⟨i, hi, h1, h2, h3, h4⟩ hn
 dsimp only at h1 h2 h3 h4 ⊢
 subst h1 h2 h4
 by_cases hlt : i < xs.length
 ·refine Ret.must (by omega) (Ret.guardI (by omega) ?_)
  rw [Int.toNat_natCast]
  refine Ret.get (by omega) (hn _ ⟨i + 1, hlt, ?_, ?_, ?_, rfl⟩ ?_)
  ·dsimp only; rw [wrapI (by omega) (by omega)]; omega
  ·dsimp only; rw [wrapI (by omega) (by omega)]; omega
  ·dsimp only; rw [List.length_set]; exact h3
  ·dsimp only; rw [wrapI (by omega) (by omega)]; omega
 ·obtain rfl : i = xs.length := by omega
  exact Ret.mustN (by omega) (h row h3)
theorem Ret.markSnd {K : Int × Int × τ × List Int × Unit → Option ρ} {xs : List Int} (hl : xs.length < 4000000) (hN : 4000000 ≤ N) {t : τ} {u : Unit}
 (h : ∀ row : List Int, row.length = xs.length → (∀ (j : Nat) (h : j < row.length), row[j] = 1 + (j : Int)) → Ret (K (1 + (xs.length : Int), (xs.length : Int), t, row, ())) R) :
 Ret (fixN N (fun (next : Int × Int × τ × List Int × Unit → Option ρ) (s : Int × Int × τ × List Int × Unit) => bif decide (s.2.1 < (s.2.2.2.1.length : Int)) then (bif inI s.2.1 s.2.2.2.1.length then obind (s.2.2.2.1[s.2.1.toNat]?) fun _ => next (IntKind.i64.wrap (s.1 + (1 : Int)), IntKind.i64.wrap (s.2.1 + (1 : Int)), s.2.2.1, s.2.2.2.1.set s.2.1.toNat s.1, ()) else none) else K s) ((1 : Int), (0 : Int), t, xs, u)) R := by
 refine Ret.fix (I := fun s => ∃ i : Nat, i ≤ xs.length ∧ s.1 = 1 + (i : Int) ∧ s.2.1 = (i : Int) ∧ s.2.2.1 = t ∧ s.2.2.2.1.length = xs.length ∧ ∀ (j : Nat) (h : j < s.2.2.2.1.length), j < i → s.2.2.2.1[j] = 1 + (j : Int)) (μ := fun s => xs.length - s.2.1.toNat) ?_ N _ ⟨0, Nat.zero_le _, rfl, rfl, rfl, rfl, fun j _ h => absurd h (by omega)⟩ (by dsimp only; omega)
 rintro ⟨m, i', t', row, v⟩ next ⟨i, hi, h1, h2, h5, h3, h4⟩ hn
 dsimp only at h1 h2 h3 h4 h5 ⊢
 subst h1 h2 h5
 by_cases hlt : i < xs.length
 ·refine Ret.must (by omega) (Ret.guardI (by omega) ?_)
  rw [Int.toNat_natCast]
  refine Ret.get (by omega) (hn _ ⟨i + 1, hlt, ?_, ?_, rfl, ?_, fun j hj hji => ?_⟩ ?_)
  ·dsimp only; rw [wrapI (by omega) (by omega)]; omega
  ·dsimp only; rw [wrapI (by omega) (by omega)]; omega
  ·dsimp only; rw [List.length_set]; exact h3
  ·dsimp only at hj ⊢
   rw [List.length_set] at hj
   rw [List.getElem_set]
   split
   ·rename_i e; subst e; rfl
   ·exact h4 j hj (by omega)
  ·dsimp only; rw [wrapI (by omega) (by omega)]; omega
 ·obtain rfl : i = xs.length := by omega
  refine Ret.mustN (by omega) ?_
  obtain rfl : v = () := rfl
  exact h row h3 fun j hj => h4 j hj (by omega)
end
end Go.Proofs.YtdbmhfpphobmpaaGreatDoor
