/- Values of nets. No program in sight. Values of nets: the reference's side. No program in sight. The sources of a block: both sides. No program in sight. Functions of nets: both sides. No program in sight. SameFunction: both sides. No program in sight. Marking loops, told in plain words. No program in sight. Marking loops that carry other rows. No program in sight. -/
import Derived.Test.YtdbmhfpphobmpaaGreatDoorPgX
import Derived.Laws.BitsLemmas
import Derived.Test.YtdbmhfpphobmpaaGreatDoorPvF1
import Derived.Test.YtdbmhfpphobmpaaGreatDoorPgF
namespace Go.Proofs.YtdbmhfpphobmpaaGreatDoor
set_option linter.unusedSimpArgs false
set_option linter.unusedVariables false
set_option linter.unusedSectionVars false
set_option maxHeartbeats 1000000
noncomputable def truthOf (b : DBlock) (k : Nat) : List Int := ((b.2.1.1[(gateOf b k).toNat]?).bind fun x => (b.1.1[x.2.1.toNat]?).map fun c => c.2.2.2.2.1).getD []
def idxP (V : Int → Int) (l : List Int) : Nat → Int
 | 0 => 0
 | p + 1 => idxP V l p + V (l[p]?.getD 0) * 2 ^ p
theorem idxP_bound {V : Int → Int} {l : List Int} (hV : ∀ i ∈ l, 0 ≤ V i ∧ V i ≤ 1) : ∀ p, p ≤ l.length → 0 ≤ idxP V l p ∧ idxP V l p < 2 ^ p
 | 0, _ => by simp [idxP]
 | p + 1, h => by
  have h1 := idxP_bound hV p (by omega)
  have h2 := hV _ (List.getElem_mem (show p < l.length by omega))
  have e : l[p]?.getD 0 = l[p]'(by omega) := by rw [List.getElem?_eq_getElem (by omega)]; rfl
  have hp : (0 : Int) < 2 ^ p := Int.pow_pos (by omega)
  simp only [idxP, e]
  have h3 : V (l[p]'(by omega)) = 0 ∨ V (l[p]'(by omega)) = 1 := by omega
  rw [Int.pow_succ]
  rcases h3 with h3 | h3 <;> rw [h3] <;> omega
theorem idxP_congr {V V' : Int → Int} {l : List Int} (h : ∀ i ∈ l, V i = V' i) : ∀ p, p ≤ l.length → idxP V l p = idxP V' l p
 | 0, _ => rfl
 | p + 1, hp => by
  have e : l[p]?.getD 0 = l[p]'(by omega) := by rw [List.getElem?_eq_getElem (by omega)]; rfl
  simp only [idxP, e, idxP_congr h p (by omega), h _ (List.getElem_mem (show p < l.length by omega))]
noncomputable def valN (b : DBlock) (src : Nat → Int) : Nat → Nat → Int
 | 0, _ => 0
 | m + 1, k => if gateOf b k < 0 then src k else ((truthOf b k)[(idxP (fun i => valN b src m i.toNat) (insOf b k) (insOf b k).length).toNat]?).getD 0
noncomputable def val (b : DBlock) (src : Nat → Int) (k : Nat) : Int := valN b src 31 k
section
variable {b : DBlock} (hB : BlockP b) {rank : Nat → Nat} (hr : RankP b rank)
include hB hr
theorem valN_same (src : Nat → Int) : ∀ (m m' k : Nat), k < b.2.1.2.1.length → rank k < m → rank k < m' → valN b src m k = valN b src m' k
 | 0, _, _, _, h, _ => absurd h (Nat.not_lt_zero _)
 | _ + 1, 0, _, _, _, h => absurd h (Nat.not_lt_zero _)
 | m + 1, m' + 1, k, hk, h, h' => by
  unfold valN
  by_cases hg : gateOf b k < 0
  ·rw [if_pos hg, if_pos hg]
  ·rw [if_neg hg, if_neg hg]
   rw [idxP_congr (fun i hi => ?_) _ (Nat.le_refl _)]
   have := hr.down k hk (by omega) i hi
   exact valN_same src m m' _ (insOf_in hB.1 hk hi).2 (by omega) (by omega)
theorem valN_gate (src : Nat → Int) {m k : Nat} (hm : rank k ≤ m) (hm' : m ≤ 30) (hk : k < b.2.1.2.1.length) (hg : 0 ≤ gateOf b k) : valN b src (m + 1) k = ((truthOf b k)[(idxP (fun i => val b src i.toNat) (insOf b k) (insOf b k).length).toNat]?).getD 0 := by
 have h30 := hr.low k
 rw [valN, if_neg (by omega), idxP_congr (fun i hi => ?_) _ (Nat.le_refl _)]
 have := hr.down k hk hg i hi
 exact valN_same hB hr src _ _ _ (insOf_in hB.1 hk hi).2 (by omega) (by omega)
theorem val_gate (src : Nat → Int) {k : Nat} (hk : k < b.2.1.2.1.length) (hg : 0 ≤ gateOf b k) : val b src k = ((truthOf b k)[(idxP (fun i => val b src i.toNat) (insOf b k) (insOf b k).length).toNat]?).getD 0 :=
 valN_gate hB hr src (hr.low k) (Nat.le_refl _) hk hg
omit hB hr in
theorem val_source (src : Nat → Int) {k : Nat} (hg : gateOf b k < 0) : val b src k = src k := by
 show valN b src (30 + 1) k = _
 rw [valN, if_pos hg]
omit hr in
theorem truth_ok {k : Nat} (hk : k < b.2.1.2.1.length) (hg : 0 ≤ gateOf b k) : (truthOf b k).length = 2 ^ (insOf b k).length ∧ ∀ v ∈ truthOf b k, 0 ≤ v ∧ v ≤ 1 := by
 rcases gateOf_cases hB.1 hk with ⟨h1, _⟩ | ⟨j, hj, hP⟩
 ·omega
 obtain ⟨hjl, hlast, hcl, hkind⟩ := hP
 have hP : GateP b k j := ⟨hjl, hlast, hcl, hkind⟩
 have ht : truthOf b k = (b.1.1[b.2.1.1[j].2.1.toNat]'hcl).2.2.2.2.1 := by
  unfold truthOf
  rw [hj, Int.toNat_natCast, List.getElem?_eq_getElem hjl]
  simp only [Option.bind_some]
  rw [List.getElem?_eq_getElem hcl]; rfl
 have hc := hB.1.1.1 _ (List.getElem_mem hcl)
 have hI := hB.1.2.2.1.1 _ (List.getElem_mem hjl)
 obtain ⟨_, ⟨h1, h2⟩, h3⟩ := hI
 have hins : (insOf b k).length = (b.1.1[b.2.1.1[j].2.1.toNat]'hcl).2.2.1.length - 1 := by
  rw [insOf_eq hB.1 hk hP, List.length_take, h2]
  omega
 rcases hc.2.2.2.2.2 with ⟨_, _, g1, g2⟩ | ⟨g0, _⟩ | ⟨g0, _⟩
 ·rw [ht, hins]
  exact ⟨g1, fun v hv => g2 v hv⟩
 ·omega
 ·omega
theorem val01 (src : Nat → Int) (hs : ∀ k, gateOf b k < 0 → 0 ≤ src k ∧ src k ≤ 1) : ∀ m k, k < b.2.1.2.1.length → rank k ≤ m → 0 ≤ val b src k ∧ val b src k ≤ 1 := by
 intro m
 induction m with
 | zero =>
  intro k hk hm
  by_cases hg : gateOf b k < 0
  ·rw [val_source src hg]; exact hs k hg
  ·have hl := ins_len hB hk (by omega)
   have := hr.down k hk (by omega) _ (List.getElem_mem (show 0 < (insOf b k).length by omega))
   omega
 | succ m ih =>
  intro k hk hm
  by_cases hg : gateOf b k < 0
  ·rw [val_source src hg]; exact hs k hg
  ·rw [val_gate hB hr src hk (by omega)]
   have hb := idxP_bound (V := fun i => val b src i.toNat) (l := insOf b k) (fun i hi => ih _ (insOf_in hB.1 hk hi).2 (by have := hr.down k hk (by omega) i hi; omega)) _ (Nat.le_refl _)
   obtain ⟨t1, t2⟩ := truth_ok hB hk (by omega)
   have hlt : (idxP (fun i => val b src i.toNat) (insOf b k) (insOf b k).length).toNat < (truthOf b k).length := by
    rw [t1]
    have : ((2 ^ (insOf b k).length : Nat) : Int) = 2 ^ (insOf b k).length := by simp
    omega
   rw [List.getElem?_eq_getElem hlt]
   exact t2 _ (List.getElem_mem hlt)
theorem val_bit (src : Nat → Int) (hs : ∀ k, gateOf b k < 0 → 0 ≤ src k ∧ src k ≤ 1) {k : Nat} (hk : k < b.2.1.2.1.length) : 0 ≤ val b src k ∧ val b src k ≤ 1 := val01 hB hr src hs _ k hk (Nat.le_refl _)
theorem val_at (src : Nat → Int) (hs : ∀ k, gateOf b k < 0 → 0 ≤ src k ∧ src k ≤ 1) {k : Nat} (hk : k < b.2.1.2.1.length) (hg : 0 ≤ gateOf b k) :
 0 ≤ idxP (fun i => val b src i.toNat) (insOf b k) (insOf b k).length ∧ ∃ h : (idxP (fun i => val b src i.toNat) (insOf b k) (insOf b k).length).toNat < (truthOf b k).length, (truthOf b k)[(idxP (fun i => val b src i.toNat) (insOf b k) (insOf b k).length).toNat] = val b src k := by
 have hb := idxP_bound (V := fun i => val b src i.toNat) (l := insOf b k) (fun i hi => val_bit hB hr src hs (insOf_in hB.1 hk hi).2) _ (Nat.le_refl _)
 obtain ⟨t1, t2⟩ := truth_ok hB hk hg
 have hlt : (idxP (fun i => val b src i.toNat) (insOf b k) (insOf b k).length).toNat < (truthOf b k).length := by
  rw [t1]
  have : ((2 ^ (insOf b k).length : Nat) : Int) = 2 ^ (insOf b k).length := by simp
  omega
 exact ⟨hb.1, hlt, by rw [val_gate hB hr src hk hg, List.getElem?_eq_getElem hlt]; rfl⟩
end
theorem or_bit {row v : Int} {p : Nat} (hp : p ≤ 3) (h0 : 0 ≤ row) (h1 : row < 2 ^ p) (hv : 0 ≤ v ∧ v ≤ 1) : bits .or .i64 row (IntKind.i64.wrap (v * (2 ^ (min (p : Int).toNat (IntKind.i64).bits)))) = row + v * 2 ^ p := by
 have key : ∀ p : Fin 4, ∀ r : Fin 8, ∀ v : Fin 2, (r : Nat) < 2 ^ (p : Nat) → bits .or .i64 ((r : Nat) : Int) (IntKind.i64.wrap (((v : Nat) : Int) * (2 ^ (min (p : Nat) (IntKind.i64).bits)))) = ((r : Nat) : Int) + ((v : Nat) : Int) * 2 ^ (p : Nat) := by decide
 have h8 : (2 : Int) ^ p ≤ 8 := by
  have : p = 0 ∨ p = 1 ∨ p = 2 ∨ p = 3 := by omega
  rcases this with rfl | rfl | rfl | rfl <;> decide
 have hrn : row.toNat < 2 ^ p := by
  have : ((2 ^ p : Nat) : Int) = 2 ^ p := by simp
  omega
 have := key ⟨p, by omega⟩ ⟨row.toNat, by omega⟩ ⟨v.toNat, by omega⟩ hrn
 simp only [Int.toNat_of_nonneg h0, Int.toNat_of_nonneg hv.1] at this
 rw [Int.toNat_natCast]
 exact this
theorem mget_mset {α : Type} (l : List (Int × α)) (k j : Int) (x d : α) : mget (mset l k x) j d = if j = k then x else mget l j d := by
 induction l with
 | nil => by_cases h : j = k <;> simp [mset, mget, h]
 | cons p l ih =>
  unfold mset
  by_cases h : k = p.1
  ·rw [decide_eq_true h]
   simp only [cond_true, mget]
   by_cases hj : j = k
   ·rw [decide_eq_true hj, if_pos hj]; rfl
   ·rw [decide_eq_false hj, if_neg hj, decide_eq_false (by rw [← h]; exact hj)]; rfl
  ·rw [decide_eq_false h]
   simp only [cond_false, mget]
   by_cases hj : j = p.1
   ·rw [decide_eq_true hj, if_neg (by rw [hj]; exact Ne.symm h)]; rfl
   ·rw [decide_eq_false hj, ih]; rfl
section
variable {N : Nat} (hN : 4000000 ≤ N) {b : DBlock} (hb : SmallB b) (hB : BlockP b) {rank : Nat → Nat} (hr : RankP b rank)
include hN hB hr
def ValsP (b : DBlock) (src : Nat → Int) (ord : List Int) (p : Nat) (S : List Int) : Prop := S.length = b.2.1.2.1.length ∧ ∀ q, q < p → ∀ k : Nat, ord[q]? = some (k : Int) → S[k]? = some (val b src k)
theorem impl_values {gates : List Int} {ord : List Int × Unit} (hg : gates.length = b.2.1.2.1.length ∧ ∀ k (h : k < gates.length), gates[k] = gateOf b k) (ht : Topo b ord.1) {m : List (Int × Int)} (hm : ∀ k : Nat, gateOf b k < 0 → 0 ≤ mget m (k : Int) 0 ∧ mget m (k : Int) 0 ≤ 1) (u : Unit) :
 Ret (F_impl_logic_values N (some (b, gates, ord), m, u)) (fun r => r.1.length = b.2.1.2.1.length ∧ ∀ k, k < b.2.1.2.1.length → r.1[k]? = some (val b (fun k => mget m (k : Int) 0) k)) := by
 have hD := hB.1
 have hsm := block_small hB
 have hol := ht.1
 generalize hsrc : (fun k : Nat => mget m (k : Int) 0) = src
 have hs : ∀ k, gateOf b k < 0 → 0 ≤ src k ∧ src k ≤ 1 := by subst hsrc; exact hm
 unfold F_impl_logic_values
 dsimp only
 refine Ret.call rfl ?_
 dsimp only
 rw [hg.1]
 refine lim_guard (by omega) (Ret.call rfl ?_)
 dsimp only
 rw [Int.toNat_natCast]
 refine Ret.up ord.1.length (fun p s => ValsP b src ord.1 p s.1) (by omega) (by omega) ⟨by simp, fun q h => absurd h (Nat.not_lt_zero q)⟩ ?_ ?_
 ·rintro p ⟨S, u1⟩ next hp ⟨hS, hI⟩ hn
  dsimp only at hS hI ⊢
  refine Ret.must (by omega) (Ret.atN hp ?_)
  refine Ret.call rfl ?_
  obtain ⟨k, hk, he, hin⟩ := ht.2.2 p hp
  rw [he]
  dsimp only
  rw [atI_nat (show k < gates.length by omega)]
  refine Ret.call rfl ?_
  rw [hg.2 k (by omega)]
  have hnext : ∀ S' : List Int, S' = S.set k (val b src k) → ValsP b src ord.1 (p + 1) S' := by
   rintro S' rfl
   refine ⟨by rw [List.length_set]; exact hS, fun q hq j hj => ?_⟩
   rw [List.getElem?_set]
   by_cases hkj : k = j
   ·subst hkj; rw [if_pos rfl, if_pos (by omega)]
   ·rw [if_neg hkj]
    by_cases hqp : q = p
    ·subst hqp
     rw [List.getElem?_eq_getElem hp, he] at hj
     simp only [Option.some.injEq] at hj
     omega
    ·exact hI q (by omega) j hj
  refine Ret.ifd ?_ ?_ <;> intro hgk
  ·rw [Int.toNat_natCast]
   refine Ret.guardI (by omega) (Ret.get (by omega) (hn _ (hnext _ ?_)))
   rw [val_source src hgk, ← hsrc]
  ·have h0 : 0 ≤ gateOf b k := by omega
   refine Ret.call (impl_inputs hN hB hg hk h0 ()) ?_
   dsimp only
   have hil := ins_len hB hk h0
   refine Ret.upM 0 (insOf b k).length (fun i (s : Int) (_ : Unit) => s = idxP (fun i => val b src i.toNat) (insOf b k) i) (by omega) (by omega) (by omega) rfl ?_ ?_
   ·rintro i l u2 next2 _ hi hl hn2
    dsimp only at hl ⊢
    subst hl
    refine Ret.must (by omega) (Ret.atN hi ?_)
    have hmem := List.getElem_mem hi
    obtain ⟨hi0, hi1⟩ := insOf_in hD hk hmem
    obtain ⟨q, hq, hqe⟩ := hin h0 _ hmem
    have hsi := hI q hq (insOf b k)[i].toNat (by rw [hqe, Int.toNat_of_nonneg hi0])
    refine Ret.guardZ hi0 (by omega) ?_
    refine Ret.call hsi ?_
    refine Ret.guard (by omega) (hn2 _ _ ?_)
    have hib := idxP_bound (V := fun i => val b src i.toNat) (l := insOf b k) (fun i hi => val_bit hB hr src hs (insOf_in hB.1 hk hi).2) i (by omega)
    rw [or_bit (by omega) hib.1 hib.2 (val_bit hB hr src hs hi1)]
    simp only [idxP, List.getElem?_eq_getElem hi, Option.getD_some]
   ·rintro l u2 next2 hl
    dsimp only at hl ⊢
    subst hl
    refine Ret.mustN (by omega) ?_
    refine Ret.call rfl (Ret.call rfl ?_)
    dsimp only
    rw [atI_nat (show k < gates.length by omega)]
    refine Ret.call rfl ?_
    rw [hg.2 k (by omega)]
    obtain ⟨hv0, hv1, hv2⟩ := val_at hB hr src hs hk h0
    rcases gateOf_cases hD hk with ⟨h1, _⟩ | ⟨j, hj, hP⟩
    ·omega
    rw [hj]
    refine Ret.call (impl_cellOf hD hP.1 ()) ?_
    dsimp only
    have hjl := hP.1
    have htr : (b.1.1[b.2.1.1[j].2.1.toNat]'(inst_ok hD hP.1).1.2).2.2.2.2.1 = truthOf b k := by
     unfold truthOf
     rw [hj, Int.toNat_natCast, List.getElem?_eq_getElem hP.1]
     simp only [Option.bind_some]
     rw [List.getElem?_eq_getElem (inst_ok hD hP.1).1.2]; rfl
    rw [htr]
    refine Ret.atZ hv0 hv1 ?_
    rw [hv2, Int.toNat_natCast]
    exact Ret.guardI (by omega) (Ret.get (by omega) (hn _ (hnext _ rfl)))
 ·rintro ⟨S, u1⟩ next ⟨hS, hI⟩
  dsimp only at hS hI ⊢
  refine Ret.mustN (by omega) (Ret.ret ⟨hS, fun k hk => ?_⟩)
  obtain ⟨q, hq, hqe⟩ := List.getElem_of_mem (ht.2.1 k hk)
  exact hI q hq k (by rw [List.getElem?_eq_getElem hq, hqe])
end
end Go.Proofs.YtdbmhfpphobmpaaGreatDoor
namespace Go.Proofs.YtdbmhfpphobmpaaGreatDoor
set_option linter.unusedSimpArgs false
set_option linter.unusedVariables false
set_option linter.unusedSectionVars false
set_option maxHeartbeats 1000000
def KnownP (b : DBlock) (src : Nat → Int) (known : List Int) : Prop := known.length = b.2.1.2.1.length ∧ ∀ (j : Nat) (h : j < known.length), known[j] = -1 ∨ known[j] = val b src j
theorem truth_cell {b : DBlock} (hD : DesignP b.1 b.2.1) {k j : Nat} (hj : gateOf b k = (j : Int)) (hP : GateP b k j) : (b.1.1[(b.2.1.1[j]'hP.1).2.1.toNat]'(inst_ok hD hP.1).1.2).2.2.2.2.1 = truthOf b k := by
 have hjl := hP.1
 unfold truthOf
 rw [hj, Int.toNat_natCast, List.getElem?_eq_getElem hjl]
 simp only [Option.bind_some]
 rw [List.getElem?_eq_getElem (inst_ok hD hP.1).1.2]; rfl
theorem Ret.up2 {ρ σ σ' τ : Type} {R : ρ → Prop} {f : (σ × σ' × Int × τ → Option ρ) → σ × σ' × Int × τ → Option ρ} (n : Nat) (I : Nat → σ → σ' → τ → Prop) {N : Nat} {s0 : σ} {s1 : σ'} {t0 : τ} (hn : n < 4611686018427387904) (hN : n < N) (h0 : I 0 s0 s1 t0)
 (step : ∀ (i : Nat) (s : σ) (s' : σ') (t : τ) (next : σ × σ' × Int × τ → Option ρ), i < n → I i s s' t → (∀ u u' t', I (i + 1) u u' t' → Ret (next (u, u', IntKind.i64.wrap ((i : Int) + 1), t')) R) → Ret (f next (s, s', (i : Int), t)) R)
 (fin : ∀ (s : σ) (s' : σ') (t : τ) (next : σ × σ' × Int × τ → Option ρ), I n s s' t → Ret (f next (s, s', (n : Int), t)) R) : Ret (fixN N f (s0, s1, (0 : Int), t0)) R := by
 refine Ret.fix (I := fun s => ∃ i : Nat, s.2.2.1 = (i : Int) ∧ i ≤ n ∧ I i s.1 s.2.1 s.2.2.2) (μ := fun s => n - s.2.2.1.toNat) ?_ N _ ⟨0, rfl, by omega, h0⟩ (by simp; omega)
 rintro ⟨s, s', j, t⟩ next ⟨i, hi, hin, hI⟩ hnext
 obtain rfl : j = (i : Int) := hi
 by_cases h : i < n
 ·refine step i s s' t next h hI fun u u' t' hs' => ?_
  rw [wrapSucc (by omega)]
  exact hnext _ ⟨i + 1, rfl, by omega, hs'⟩ (by simp; omega)
 ·obtain rfl : i = n := by omega
  exact fin s s' t next hI
section
variable {N : Nat} (hN : 4000000 ≤ N) {b : DBlock} (hb : SmallB b) (hB : BlockP b) {rank : Nat → Nat} (hr : RankP b rank) {src : Nat → Int} (hs : ∀ k, gateOf b k < 0 → 0 ≤ src k ∧ src k ≤ 1)
include hN hb hB hr hs
theorem spec_l28Eval : ∀ (M k : Nat) (known : List Int) (u : Unit), rank k < M → k < b.2.1.2.1.length → KnownP b src known → (∀ s (h : s < known.length), SupP b k s → 0 ≤ known[s]) →
 Ret (F_spec_l28Eval N M (b, (k : Int), known, u)) (fun r => r.1.1 = val b src k ∧ KnownP b src r.2.1 ∧ ∀ (j : Nat) (h : j < known.length) (h' : j < r.2.1.length), 0 ≤ known[j] → 0 ≤ r.2.1[j])
 | 0, k, _, _, h, _, _, _ => absurd h (Nat.not_lt_zero _)
 | M + 1, k, known, u, hM, hk, hK, hsup => by
  have hD := hB.1
  have hsm := block_small hB
  have hkl : k < known.length := by rw [hK.1]; exact hk
  unfold F_spec_l28Eval
  dsimp only
  rw [Int.toNat_natCast]
  refine Ret.guardI hkl (Ret.get hkl ?_)
  refine Ret.ifd ?_ ?_ <;> intro h0
  ·refine Ret.guardI hkl (Ret.get hkl (Ret.ret ⟨?_, hK, fun _ _ _ h => h⟩))
   rcases hK.2 k hkl with h | h
   ·omega
   ·exact h
  ·have hg0 : 0 ≤ gateOf b k := Int.not_lt.1 fun h => h0 (hsup k hkl ⟨h, .refl k⟩)
   refine Ret.call (spec_l28Gate hN hb hB hk ()) ?_
   rcases gateOf_cases hD hk with ⟨h1, _⟩ | ⟨j0, hj0, hP⟩
   ·omega
   rw [hj0]
   refine Ret.call (spec_l28Inputs hB hk hP ()) ?_
   dsimp only
   have hil := ins_len hB hk hg0
   refine Ret.up2 (insOf b k).length (fun i ix bit (s : List Int × Unit) => ix = idxP (fun i => val b src i.toNat) (insOf b k) i ∧ bit = 2 ^ i ∧ KnownP b src s.1 ∧ ∀ (j : Nat) (h : j < known.length) (h' : j < s.1.length), (0 : Int) ≤ known[j] → (0 : Int) ≤ s.1[j]) (by omega) (by omega) ⟨rfl, rfl, hK, fun _ _ _ h => h⟩ ?_ ?_
   ·rintro i ix bit ⟨kn, u1⟩ next hi ⟨e1, e2, g1, g2⟩ hn
    dsimp only at e1 e2 g1 g2 ⊢
    subst e1 e2
    have hmem := List.getElem_mem hi
    obtain ⟨hi0, hi1⟩ := insOf_in hD hk hmem
    have e : (insOf b k)[i] = (((insOf b k)[i].toNat : Nat) : Int) := (Int.toNat_of_nonneg hi0).symm
    refine Ret.must (by omega) (Ret.atN hi ?_)
    have hrk := hr.down k hk hg0 _ hmem
    have hc := spec_l28Eval M (insOf b k)[i].toNat kn u1 (by omega) hi1 g1 (fun s hsl hss => g2 s (by rw [hK.1, ← g1.1]; exact hsl) hsl (hsup s (by rw [hK.1, ← g1.1]; exact hsl) ⟨hss.1, .step hg0 hmem hss.2⟩))
    rw [← e] at hc
    refine Ret.bind hc ?_
    rintro ⟨⟨v, u2⟩, kn', u3⟩ ⟨f1, f2, f3⟩
    dsimp only at f1 f2 f3 ⊢
    subst f1
    have hvb := val_bit hB hr src hs hi1
    have hib := idxP_bound (V := fun i => val b src i.toNat) (l := insOf b k) (fun i hi => val_bit hB hr src hs (insOf_in hB.1 hk hi).2) i (by omega)
    have hp : (0 : Int) < 2 ^ i ∧ (2 : Int) ^ i ≤ 8 := by
     have : i = 0 ∨ i = 1 ∨ i = 2 ∨ i = 3 := by omega
     rcases this with rfl | rfl | rfl | rfl <;> decide
    have hmul : 0 ≤ 2 ^ i * val b src (insOf b k)[i].toNat ∧ 2 ^ i * val b src (insOf b k)[i].toNat ≤ 8 := by
     have : val b src (insOf b k)[i].toNat = 0 ∨ val b src (insOf b k)[i].toNat = 1 := by omega
     rcases this with h | h <;> rw [h] <;> omega
    rw [wrapI (n := 2 ^ i * val b src (insOf b k)[i].toNat) (by omega) (by omega), wrapI (n := idxP (fun i => val b src i.toNat) (insOf b k) i + 2 ^ i * val b src (insOf b k)[i].toNat) (by omega) (by omega), wrapI (n := 2 * 2 ^ i) (by omega) (by omega)]
    refine hn _ _ _ ⟨?_, by rw [Int.pow_succ, Int.mul_comm], f2, fun j hj hj' h => f3 j (by rw [g1.1, ← hK.1]; exact hj) hj' (g2 j hj (by rw [g1.1, ← hK.1]; exact hj) h)⟩
    simp only [idxP, List.getElem?_eq_getElem hi, Option.getD_some]
    rw [Int.mul_comm]
   ·rintro ix bit ⟨kn, u1⟩ next ⟨e1, e2, g1, g2⟩
    dsimp only at e1 e2 g1 g2 ⊢
    subst e1 e2
    refine Ret.mustN (by omega) ?_
    obtain ⟨hv0, hv1, hv2⟩ := val_at hB hr src hs hk hg0
    have hjl := hP.1
    refine Ret.atN hjl (Ret.atZ (inst_ok hD hjl).1.1 (inst_ok hD hjl).1.2 ?_)
    rw [truth_cell hD hj0 hP]
    refine Ret.atZ hv0 hv1 ?_
    rw [hv2]
    have hkn : k < kn.length := by rw [g1.1]; exact hk
    refine Ret.guardI hkn (Ret.get hkn (Ret.guardI (by simpa using hkn) (Ret.get (by simpa using hkn) (Ret.ret ⟨by simp, ⟨by simp [g1.1], fun j hj => ?_⟩, fun j hj hj' h => ?_⟩))))
    ·rw [List.getElem_set]
     split
     ·rename_i e; subst e; exact .inr rfl
     ·exact g1.2 j (by simpa using hj)
    ·dsimp only
     rw [List.getElem_set]
     split
     ·exact (val_bit hB hr src hs hk).1
     ·exact g2 j hj (by simpa using hj') h
end
def srcVal (sup vals : List Int) (k : Nat) : Int := match sup.findIdx? (fun x => decide (x = (k : Int))) with
 | some p => vals[p]?.getD 0
 | none => 0
theorem srcVal_at {sup vals : List Int} (hnd : sup.Nodup) {p : Nat} (hp : p < sup.length) (hv : p < vals.length) {k : Nat} (hk : sup[p] = (k : Int)) : srcVal sup vals k = vals[p] := by
 unfold srcVal
 have : sup.findIdx? (fun x => decide (x = (k : Int))) = some p := by
  rw [List.findIdx?_eq_some_iff_getElem]
  refine ⟨hp, by simpa using hk, fun j hj => ?_⟩
  simp only [decide_eq_true_eq]
  intro h
  exact List.pairwise_iff_getElem.1 hnd j p (by omega) hp hj (h.trans hk.symm)
 rw [this]
 simp [hv]
theorem srcVal_not {sup vals : List Int} {k : Nat} (hk : (k : Int) ∉ sup) : srcVal sup vals k = 0 := by
 unfold srcVal
 have : sup.findIdx? (fun x => decide (x = (k : Int))) = none := by
  rw [List.findIdx?_eq_none_iff]
  intro x hx
  simp only [decide_eq_false_iff_not]
  rintro rfl
  exact hk hx
 rw [this]
theorem srcVal_bit {sup vals : List Int} (h : ∀ v ∈ vals, 0 ≤ v ∧ v ≤ 1) (k : Nat) : 0 ≤ srcVal sup vals k ∧ srcVal sup vals k ≤ 1 := by
 unfold srcVal
 split
 ·rename_i p _
  cases hv : vals[p]? with
  | none => simp
  | some v => exact h v (List.mem_of_getElem? hv)
 ·simp
section
variable {N : Nat} (hN : 4000000 ≤ N) {b : DBlock} (hB : BlockP b)
include hN hB
theorem spec_l28Known {sup vals : List Int} (hnd : sup.Nodup) (hsup : ∀ x ∈ sup, ∃ s : Nat, x = (s : Int) ∧ s < b.2.1.2.1.length ∧ gateOf b s < 0) (hl : vals.length = sup.length) (hsl : sup.length ≤ 30) (hv : ∀ v ∈ vals, 0 ≤ v ∧ v ≤ 1) (u : Unit) :
 Ret (F_spec_l28Known N (b, sup, vals, u)) (fun r => KnownP b (srcVal sup vals) r.1 ∧ ∀ s (h : s < r.1.length), (s : Int) ∈ sup → 0 ≤ r.1[s]) := by
 have hsm := block_small hB
 unfold F_spec_l28Known
 dsimp only
 refine lim_guard (by omega) ?_
 rw [Int.toNat_natCast]
 refine Ret.up b.2.1.2.1.length (fun i s => s.1.length = b.2.1.2.1.length ∧ ∀ j (h : j < s.1.length), j < i → s.1[j] = -1) (by omega) (by omega) ⟨by simp, fun j _ h => absurd h (Nat.not_lt_zero j)⟩ ?_ ?_
 ·rintro i ⟨l, u1⟩ next hi ⟨g1, g2⟩ hn
  dsimp only at g1 g2 ⊢
  rw [Int.toNat_natCast]
  refine Ret.must (by omega) (Ret.guardI (by omega) (Ret.get (by omega) (hn _ ⟨by simp [g1], fun j hj hji => ?_⟩)))
  dsimp only
  rw [List.getElem_set]
  split
  ·rfl
  ·exact g2 j (by simpa using hj) (by omega)
 ·rintro ⟨l, u1⟩ next ⟨g1, g2⟩
  dsimp only at g1 g2 ⊢
  refine Ret.mustN (by omega) ?_
  refine Ret.up sup.length (fun i (s : List Int × Unit) => s.1.length = b.2.1.2.1.length ∧ (∀ (j : Nat) (h : j < s.1.length), s.1[j] = -1 ∨ s.1[j] = val b (srcVal sup vals) j) ∧ ∀ q (h : q < sup.length), q < i → ∀ (j : Nat) (h' : j < s.1.length), sup[q] = (j : Int) → (0 : Int) ≤ s.1[j]) (by omega) (by omega) ⟨g1, fun j hj => .inl (g2 j hj (by rw [← g1]; exact hj)), fun q _ h => absurd h (Nat.not_lt_zero q)⟩ ?_ ?_
  ·rintro i ⟨l, u2⟩ next2 hi ⟨k1, k2, k3⟩ hn2
   dsimp only at k1 k2 k3 ⊢
   obtain ⟨s, hse, hsn, hsg⟩ := hsup _ (List.getElem_mem hi)
   refine Ret.must (by omega) (Ret.atN hi (Ret.atN (by omega) ?_))
   rw [hse, Int.toNat_natCast]
   have hval : val b (srcVal sup vals) s = vals[i]'(by omega) := by rw [val_source _ hsg, srcVal_at hnd hi (by omega) hse]
   refine Ret.guardI (by omega) (Ret.get (by omega) (hn2 _ ⟨by simp [k1], fun j hj => ?_, fun q hq hqi j hj he => ?_⟩))
   ·dsimp only
    rw [List.getElem_set]
    split
    ·rename_i e; subst e; exact .inr hval.symm
    ·exact k2 j (by simpa using hj)
   ·dsimp only
    rw [List.getElem_set]
    split
    ·exact (hv _ (List.getElem_mem _)).1
    ·rename_i hne
     refine k3 q hq ?_ j (by simpa using hj) he
     have : q ≠ i := fun e => by subst e; rw [hse] at he; omega
     omega
  ·rintro ⟨l, u2⟩ next2 ⟨k1, k2, k3⟩
   dsimp only at k1 k2 k3 ⊢
   refine Ret.mustN (by omega) (Ret.ret ⟨⟨k1, k2⟩, fun s hs hm => ?_⟩)
   obtain ⟨q, hq, he⟩ := List.getElem_of_mem hm
   exact k3 q hq hq s hs he
end
end Go.Proofs.YtdbmhfpphobmpaaGreatDoor
namespace Go.Proofs.YtdbmhfpphobmpaaGreatDoor
set_option linter.unusedSimpArgs false
set_option linter.unusedVariables false
set_option linter.unusedSectionVars false
set_option maxHeartbeats 1000000
section
variable {N : Nat} (hN : 4000000 ≤ N)
include hN
variable {b : DBlock} (hb : SmallB b)
include hb
end
end Go.Proofs.YtdbmhfpphobmpaaGreatDoor
namespace Go.Proofs.YtdbmhfpphobmpaaGreatDoor
set_option linter.unusedSimpArgs false
set_option linter.unusedVariables false
set_option linter.unusedSectionVars false
set_option maxHeartbeats 1000000
noncomputable def codeN (b : DBlock) (ks : List Int) : Int :=
 @ite _ (BlockP b) (Classical.propDecidable _) (@ite _ (Ranked b) (Classical.propDecidable _) (@ite _ (∀ k ∈ ks, InNets b k) (Classical.propDecidable _) 0 2) 7) 1
theorem codeN_zero {b : DBlock} {ks : List Int} : codeN b ks = 0 ↔ BlockP b ∧ Ranked b ∧ ∀ k ∈ ks, InNets b k := by
 unfold codeN
 by_cases h1 : BlockP b
 ·rw [if_pos h1]
  by_cases h2 : Ranked b
  ·rw [if_pos h2]
   by_cases h3 : ∀ k ∈ ks, InNets b k
   ·rw [if_pos h3]; exact ⟨fun _ => ⟨h1, h2, h3⟩, fun _ => rfl⟩
   ·rw [if_neg h3]; exact ⟨fun h => by omega, fun h => absurd h.2.2 h3⟩
  ·rw [if_neg h2]; exact ⟨fun h => by omega, fun h => absurd h.2.1 h2⟩
 ·rw [if_neg h1]; exact ⟨fun h => by omega, fun h => absurd h.1 h1⟩
theorem codeN_ok {b : DBlock} {ks : List Int} (h1 : BlockP b) (h2 : Ranked b) (h3 : ∀ k ∈ ks, InNets b k) : codeN b ks = 0 := codeN_zero.2 ⟨h1, h2, h3⟩
theorem codeN_not {b : DBlock} {ks : List Int} (h1 : BlockP b) (h2 : Ranked b) (h3 : ¬ ∀ k ∈ ks, InNets b k) : codeN b ks = 2 := by unfold codeN; rw [if_pos h1, if_pos h2, if_neg h3]
theorem codeN_two {b : DBlock} {k j : Int} : codeN b [k, j] = if codeN b [k] = 0 then (if codeN b [j] = 0 then 0 else 2) else codeN b [k] := by
 by_cases h1 : BlockP b
 ·by_cases h2 : Ranked b
  ·by_cases hk : InNets b k
   ·rw [if_pos (codeN_ok h1 h2 (by simpa using hk))]
    by_cases hj : InNets b j
    ·rw [if_pos (codeN_ok h1 h2 (by simpa using hj)), codeN_ok h1 h2 (by simp [hk, hj])]
    ·rw [if_neg fun h => hj ((codeN_zero.1 h).2.2 j (by simp)), codeN_not h1 h2 fun h => hj (h j (by simp))]
   ·rw [if_neg fun h => hk ((codeN_zero.1 h).2.2 k (by simp)), codeN_not h1 h2 fun h => hk (h k (by simp)), codeN_not h1 h2 fun h => hk (h k (by simp))]
  ·unfold codeN; simp [h1, h2]
 ·unfold codeN; simp [h1]
theorem inNets_nat {b : DBlock} {k : Int} (h : InNets b k) : k = ((k.toNat : Nat) : Int) ∧ k.toNat < b.2.1.2.1.length := by
 unfold InNets BtwP at h
 omega
def bitsOf (n r : Nat) : List Int := (List.range n).map fun p => ((r / 2 ^ p % 2 : Nat) : Int)
theorem bitsOf_len (n r : Nat) : (bitsOf n r).length = n := by simp [bitsOf]
theorem bitsOf_get {n r p : Nat} (h : p < (bitsOf n r).length) : (bitsOf n r)[p] = ((r / 2 ^ p % 2 : Nat) : Int) := by simp [bitsOf]
theorem bitsOf_bit (n r : Nat) : ∀ v ∈ bitsOf n r, 0 ≤ v ∧ v ≤ 1 := by
 intro v hv
 obtain ⟨p, _, rfl⟩ := List.mem_map.1 hv
 omega
noncomputable def funL (b : DBlock) (sup : List Int) (k : Nat) : List Int := (List.range (2 ^ sup.length)).map fun r => val b (srcVal sup (bitsOf sup.length r)) k
theorem funL_len (b : DBlock) (sup : List Int) (k : Nat) : (funL b sup k).length = 2 ^ sup.length := by simp [funL]
structure Sup (b : DBlock) (sup : List Int) : Prop where
 nodup : sup.Nodup
 src : ∀ x ∈ sup, ∃ s : Nat, x = (s : Int) ∧ s < b.2.1.2.1.length ∧ gateOf b s < 0
theorem Sup.len {b : DBlock} (hB : BlockP b) {sup : List Int} (h : Sup b sup) : sup.length ≤ 30 := by
 have hsm := block_small hB
 have h1 : (sup.map Int.toNat).Nodup := by
  refine List.Pairwise.map _ (R := fun a b => a ≠ b ∧ 0 ≤ a ∧ 0 ≤ b) (fun a b h => by omega) ?_
  refine List.pairwise_iff_getElem.2 fun i j hi hj hij => ⟨List.pairwise_iff_getElem.1 h.nodup i j hi hj hij, ?_, ?_⟩
  ·obtain ⟨s, e, _⟩ := h.src _ (List.getElem_mem hi); omega
  ·obtain ⟨s, e, _⟩ := h.src _ (List.getElem_mem hj); omega
 have h2 : ∀ x ∈ sup.map Int.toNat, x ∈ List.range 30 := by
  intro x hx
  obtain ⟨y, hy, rfl⟩ := List.mem_map.1 hx
  obtain ⟨s, rfl, h3, _⟩ := h.src y hy
  rw [List.mem_range]
  omega
 have := List.Nodup.length_le_of_subset h1 h2
 simpa using this
section
variable {N : Nat} (hN : 4000000 ≤ N)
include hN
theorem spec_l28Size {n : Nat} (hn : n ≤ 30) (u : Unit) : F_spec_l28Size N ((n : Int), u) = some (2 ^ n, ()) := by
 refine Ret.eq ?_
 unfold F_spec_l28Size
 dsimp only
 refine Ret.upM 0 n (fun i (s : Int) (_ : Unit) => s = 2 ^ i) (by omega) (by omega) (by omega) rfl ?_ ?_
 ·rintro i s u1 next _ hi rfl hn2
  dsimp only
  refine Ret.must (by omega) ?_
  have hb : (0 : Int) < 2 ^ i ∧ (2 : Int) ^ i ≤ 2 ^ 30 := ⟨Int.pow_pos (by omega), by
   have : 2 ^ i ≤ 2 ^ 30 := Nat.pow_le_pow_right (by omega) (by omega)
   exact_mod_cast this⟩
  rw [wrapI (n := 2 * 2 ^ i) (by omega) (by omega)]
  exact hn2 _ _ (by rw [Int.pow_succ, Int.mul_comm])
 ·rintro s u1 next rfl
  dsimp only
  exact Ret.mustN (by omega) (Ret.ret rfl)
theorem spec_l28Bits {n r : Nat} (hn : n ≤ 30) (hr : r < 4611686018427387904) (u : Unit) : F_spec_l28Bits N ((r : Int), (n : Int), u) = some (bitsOf n r, ()) := by
 refine Ret.eq ?_
 unfold F_spec_l28Bits
 dsimp only
 refine Ret.upM 0 n (fun i (s : Int) (t : List Int × Unit) => s = ((r / 2 ^ i : Nat) : Int) ∧ t.1 = bitsOf i r) (by omega) (by omega) (by omega) ⟨by simp, rfl⟩ ?_ ?_
 ·rintro i s ⟨l, u1⟩ next _ hi ⟨rfl, h2⟩ hn2
  dsimp only at h2 ⊢
  subst h2
  refine Ret.must (by omega) ?_
  have hle : r / 2 ^ i ≤ r := Nat.div_le_self _ _
  have hm : (((r / 2 ^ i : Nat) : Int).tmod 2) = ((r / 2 ^ i % 2 : Nat) : Int) := rfl
  have hd : (((r / 2 ^ i : Nat) : Int).tdiv 2) = ((r / 2 ^ (i + 1) : Nat) : Int) := by
   rw [Nat.pow_succ, ← Nat.div_div_eq_div_mul]; rfl
  refine Ret.guard ?_ ?_
  ·rw [List.length_append, bitsOf_len]; simp only [List.length_singleton]; unfold lim; omega
  ·rw [hd, hm]
   have hle2 : r / 2 ^ (i + 1) ≤ r := Nat.div_le_self _ _
   have hw : IntKind.i64.wrap ((r / 2 ^ (i + 1) : Nat) : Int) = ((r / 2 ^ (i + 1) : Nat) : Int) := by
    generalize r / 2 ^ (i + 1) = q at *
    exact wrapI (by omega) (by omega)
   rw [hw]
   exact hn2 _ _ ⟨rfl, by simp [bitsOf, List.range_succ]⟩
 ·rintro s ⟨l, u1⟩ next ⟨_, h2⟩
  dsimp only at h2 ⊢
  subst h2
  exact Ret.mustN (by omega) (Ret.ret rfl)
variable {b : DBlock} (hb : SmallB b) (hB : BlockP b) {rank : Nat → Nat} (hr : RankP b rank)
include hb hB hr
theorem spec_l28Function {sup : List Int} (hS : Sup b sup) (hl : sup.length ≤ 8) {k : Nat} (hk : k < b.2.1.2.1.length) (hks : ∀ s, SupP b k s → (s : Int) ∈ sup) (u : Unit) : F_spec_l28Function N (b, (k : Int), sup, u) = some (funL b sup k, ()) := by
 have hp : 2 ^ sup.length ≤ 2 ^ 8 := Nat.pow_le_pow_right (by omega) hl
 refine Ret.eq ?_
 unfold F_spec_l28Function
 dsimp only
 have hsz : F_spec_l28Size N ((sup.length : Int), ()) = some (((2 ^ sup.length : Nat) : Int), ()) := by rw [spec_l28Size hN (by omega)]; simp
 refine Ret.up (2 ^ sup.length) (fun i s => s.1 = (List.range i).map fun r => val b (srcVal sup (bitsOf sup.length r)) k) (by omega) (by omega) rfl ?_ ?_
 ·rintro i ⟨l, u1⟩ next hi h1 hn2
  dsimp only at h1 ⊢
  subst h1
  refine Ret.call hsz ?_
  dsimp only
  refine Ret.must (by omega) ?_
  refine Ret.call (spec_l28Bits hN (by omega) (by omega) ()) ?_
  refine Ret.bind (spec_l28Known hN hB hS.nodup hS.src (bitsOf_len _ _) (by omega) (bitsOf_bit _ _) ()) ?_
  rintro ⟨kn, u2⟩ ⟨hK, hk0⟩
  dsimp only at hK hk0 ⊢
  refine Ret.bind (spec_l28Eval hN hb hB hr (src := srcVal sup (bitsOf sup.length i)) (fun j _ => srcVal_bit (bitsOf_bit _ _) j) N k kn u2 (by have := hr.low k; omega) hk hK fun s hsl hsp => hk0 s hsl (hks s hsp)) ?_
  rintro ⟨⟨v, u4⟩, kn2, u5⟩ ⟨f1, f2, f3⟩
  dsimp only at f1 ⊢
  subst f1
  refine Ret.guard (by simp only [List.length_append, List.length_map, List.length_range, List.length_singleton]; unfold lim; omega) (hn2 _ (by
   show _ ++ _ = _
   rw [List.range_succ, List.map_append]; rfl))
 ·rintro ⟨l, u1⟩ next h1
  dsimp only at h1 ⊢
  subst h1
  refine Ret.call hsz ?_
  dsimp only
  exact Ret.mustN (by omega) (Ret.ret rfl)
omit hN hb hB hr in
theorem wrap62 (n : Int) (h0 : 0 ≤ n) (h : n < 2 ^ 62) : IntKind.i64.wrap n = n := by
 have : (2 : Int) ^ 62 = 4611686018427387904 := by decide
 exact wrapI (by omega) (by omega)
omit hN hb hB hr in
theorem and_bit {i p : Nat} (hi : i < 256) (hp : p < 8) : bits .and .i64 ((i : Int).fdiv (2 ^ (min (p : Int).toNat (IntKind.i64).bits))) 1 = ((i / 2 ^ p % 2 : Nat) : Int) := by
 have h1 : (i : Int).fdiv (2 ^ (min (p : Int).toNat (IntKind.i64).bits)) = ((i / 2 ^ p : Nat) : Int) := by
  rw [Int.toNat_natCast, show min p (IntKind.i64).bits = p from Nat.min_eq_left (by simp only [IntKind.bits]; omega)]
  rw [show (2 : Int) ^ p = ((2 ^ p : Nat) : Int) by simp, Int.fdiv_eq_ediv_of_nonneg _ (Int.natCast_nonneg _)]
  rfl
 have hle : i / 2 ^ p ≤ i := Nat.div_le_self _ _
 rw [h1]
 generalize i / 2 ^ p = q at *
 have h62 : (2 : Int) ^ 62 = 4611686018427387904 := by decide
 have := bits_mask .i64 62 (by decide) wrap62 1 (by decide) (q : Int) (by omega) (by omega)
 rw [show ((2 : Int) ^ 1 - 1) = 1 by decide] at this
 rw [this]
 simp
omit hb hB hr in
theorem impl_rows {sup : List Int} (hS : Sup b sup) (hl : sup.length ≤ 8) {i : Nat} (hi : i < 256) {ρ : Type} {R : ρ → Prop} {K : Int × List (Int × Int) × Unit → Option ρ}
 (hK : ∀ m u, (∀ k : Nat, mget m (k : Int) 0 = srcVal sup (bitsOf sup.length i) k) → Ret (K ((sup.length : Int), m, u)) R) (u : Unit) :
 Ret (fixN N (fun (next : Int × List (Int × Int) × Unit → Option ρ) (s : Int × List (Int × Int) × Unit) => bif decide (s.1 < (sup.length : Int)) then obind (atI sup s.1) fun e => (bif decide (0 ≤ s.1) then next (IntKind.i64.wrap (s.1 + (1 : Int)), mset s.2.1 e (bits .and .i64 ((i : Int).fdiv (2 ^ (min s.1.toNat (IntKind.i64).bits))) (1 : Int)), ()) else none) else K s) ((0 : Int), [], u)) R := by
 refine Ret.up sup.length (fun j s => (∀ q (h : q < sup.length), q < j → mget s.1 sup[q] 0 = ((i / 2 ^ q % 2 : Nat) : Int)) ∧ ∀ x, (∀ q (h : q < sup.length), q < j → sup[q] ≠ x) → mget s.1 x 0 = 0) (by omega) (by omega) ⟨fun q _ h => absurd h (Nat.not_lt_zero q), fun _ _ => rfl⟩ ?_ ?_
 ·rintro j ⟨m, u1⟩ next hj ⟨g1, g2⟩ hn
  dsimp only at g1 g2 ⊢
  refine Ret.must (by omega) (Ret.atN hj (Ret.guard (by omega) (hn _ ⟨fun q hq hqi => ?_, fun x hx => ?_⟩)))
  ·dsimp only
   rw [mget_mset]
   by_cases e : q = j
   ·subst e; rw [if_pos rfl, and_bit hi (by omega)]
   ·rw [if_neg fun h => ?_]
    ·exact g1 q hq (by omega)
    ·rcases Nat.lt_or_gt_of_ne e with hlt | hgt
     ·exact List.pairwise_iff_getElem.1 hS.nodup q j hq hj hlt h
     ·omega
  ·dsimp only
   rw [mget_mset, if_neg fun h => hx j hj (by omega) h.symm]
   exact g2 x fun q hq hqi => hx q hq (by omega)
 ·rintro ⟨m, u1⟩ next ⟨g1, g2⟩
  dsimp only at g1 g2 ⊢
  refine Ret.mustN (by omega) (hK m u1 fun k => ?_)
  by_cases hk : (k : Int) ∈ sup
  ·obtain ⟨q, hq, hqe⟩ := List.getElem_of_mem hk
   rw [srcVal_at hS.nodup hq (by rw [bitsOf_len]; exact hq) hqe, bitsOf_get, ← hqe]
   exact g1 q hq hq
  ·rw [srcVal_not hk]
   exact g2 _ fun q hq _ h => hk (by rw [← h]; exact List.getElem_mem hq)
end
section
variable {N : Nat} (hN : 4000000 ≤ N) {b : DBlock} (hb : SmallB b)
include hN hb
theorem spec_netCode (k : Int) (u : Unit) : F_spec_l28NetCode N (b, k, u) = some (codeN b [k], ()) := by
 obtain ⟨⟨c, u1⟩, h1, h2⟩ := spec_l28NetCode hN hb k u
 rw [h1]
 congr 2
 rcases h2 with ⟨rfl, h⟩ | ⟨rfl, h, h'⟩ | ⟨rfl, h, h', h3⟩ | ⟨rfl, h, h', h3, _⟩
 ·unfold codeN; rw [if_neg h]
 ·unfold codeN; rw [if_pos h, if_neg h']
 ·rw [codeN_not h h' fun hh => h3 (hh k (by simp))]
 ·rw [codeN_ok h h' (by simpa using h3)]
end
end Go.Proofs.YtdbmhfpphobmpaaGreatDoor
namespace Go.Proofs.YtdbmhfpphobmpaaGreatDoor
set_option linter.unusedSimpArgs false
set_option linter.unusedVariables false
set_option linter.unusedSectionVars false
set_option maxHeartbeats 1000000
noncomputable def supU (b : DBlock) (k j : Nat) : List Int := ((List.range b.2.1.2.1.length).filter fun s => dec (SupP b k s ∨ SupP b j s)).map fun s : Nat => (s : Int)
theorem supU_mem {b : DBlock} {k j : Nat} {x : Int} : x ∈ supU b k j ↔ ∃ s, s < b.2.1.2.1.length ∧ (SupP b k s ∨ SupP b j s) ∧ x = (s : Int) := by
 unfold supU
 simp only [List.mem_map, List.mem_filter, List.mem_range]
 constructor
 ·rintro ⟨s, ⟨h1, h2⟩, rfl⟩
  exact ⟨s, h1, dec_iff.1 h2, rfl⟩
 ·rintro ⟨s, h1, h2, rfl⟩
  exact ⟨s, ⟨h1, dec_iff.2 h2⟩, rfl⟩
theorem supU_incr (b : DBlock) (k j : Nat) : (supU b k j).Pairwise (· < ·) := by
 unfold supU
 refine List.Pairwise.map _ (R := fun a b : Nat => a < b) (fun a b h => by show (a : Int) < (b : Int); omega) ?_
 exact (List.pairwise_lt_range).filter _
theorem supU_sup (b : DBlock) (k j : Nat) : Sup b (supU b k j) :=
 ⟨(supU_incr b k j).imp fun h => by omega, fun x hx => by
  obtain ⟨s, h1, h2, rfl⟩ := supU_mem.1 hx
  exact ⟨s, rfl, h1, h2.elim (fun h => h.1) (fun h => h.1)⟩⟩
theorem supU_join (b : DBlock) (k j : Nat) : Lib.compact (sortI (supL b k ++ supL b j)) = supU b k j := by
 refine incr_eq (compact_incr (sortI_le _)) (supU_incr b k j) fun x => ?_
 rw [compact_mem (sortI_le _), sortI_mem, List.mem_append, supL_mem, supL_mem, supU_mem]
 constructor
 ·rintro (⟨s, h1, h2, h3⟩ | ⟨s, h1, h2, h3⟩)
  ·exact ⟨s, h1, .inl h2, h3⟩
  ·exact ⟨s, h1, .inr h2, h3⟩
 ·rintro ⟨s, h1, h2 | h2, h3⟩
  ·exact .inl ⟨s, h1, h2, h3⟩
  ·exact .inr ⟨s, h1, h2, h3⟩
noncomputable def sameAns (b : DBlock) (k j : Int) : Bool × Int × Unit :=
 if codeN b [k, j] ≠ 0 then (false, codeN b [k, j], ()) else if 8 < (supU b k.toNat j.toNat).length then (false, 3, ()) else
  (dec (funL b (supU b k.toNat j.toNat) k.toNat = funL b (supU b k.toNat j.toNat) j.toNat), 0, ())
theorem funL_eq {b : DBlock} {sup : List Int} {k j : Nat} : funL b sup k = funL b sup j ↔ ∀ r, r < 2 ^ sup.length → val b (srcVal sup (bitsOf sup.length r)) k = val b (srcVal sup (bitsOf sup.length r)) j := by
 unfold funL
 rw [List.map_inj_left]
 simp only [List.mem_range]
theorem flat_take {α : Type} {L : List (List α)} {i : Nat} (hi : i < L.length) : (L.take (i + 1)).flatten = (L.take i).flatten ++ L[i] := by
 rw [List.take_succ_eq_append_getElem hi, List.flatten_append]; simp
theorem flat_le {α : Type} (L : List (List α)) (i : Nat) : (L.take i).flatten.length ≤ L.flatten.length := by
 conv => rhs; rw [← List.take_append_drop i L, List.flatten_append, List.length_append]
 omega
section
variable {N : Nat} (hN : 4000000 ≤ N)
include hN
theorem concat_loop {L : List (List Int)} (hl : L.length ≤ 1000) (hf : L.flatten.length ≤ 100000) :
 fixN N (fun (next : Int × List Int × Unit → Option (List Int × Unit)) (s : Int × List Int × Unit) => bif decide (s.1 < (L.length : Int)) then obind (atI L s.1) fun e => (bif decide ((s.2.1 ++ e).length ≤ lim) then next (IntKind.i64.wrap (s.1 + (1 : Int)), s.2.1 ++ e, ()) else none) else some s.2) ((0 : Int), [], ()) = some (L.flatten, ()) := by
 refine Ret.eq ?_
 refine Ret.up L.length (fun i s => s.1 = (L.take i).flatten) (by omega) (by omega) (by simp) ?_ ?_
 ·rintro i ⟨t, u1⟩ next hi ht hn
  dsimp only at ht ⊢
  subst ht
  have h1 := flat_le L (i + 1)
  rw [flat_take hi] at h1
  refine Ret.must (by omega) (Ret.atN hi (Ret.guard (by unfold lim; omega) (hn _ ?_)))
  exact (flat_take hi).symm
 ·rintro ⟨t, u1⟩ next ht
  dsimp only at ht ⊢
  subst ht
  refine Ret.mustN (by omega) (Ret.ret ?_)
  rw [List.take_length]
theorem impl_concat {L : List (List Int)} (hl : L.length ≤ 1000) (hf : L.flatten.length ≤ 100000) (u : Unit) : F_slices_Concat_int64_int64 N (L, u) = some (L.flatten, ()) := by
 refine Ret.eq ?_
 unfold F_slices_Concat_int64_int64
 dsimp only
 refine Ret.upM 0 L.length (fun i (s : Int) (_ : Unit) => s = ((L.take i).flatten.length : Int)) (by omega) (by omega) (by omega) (by simp) ?_ ?_
 ·rintro i s u1 next _ hi rfl hn
  dsimp only
  have h1 := flat_le L (i + 1)
  have h2 : (L.take (i + 1)).flatten.length = (L.take i).flatten.length + L[i].length := by rw [flat_take hi, List.length_append]
  refine Ret.must (by omega) (Ret.atN hi ?_)
  rw [wrapI (n := ((L.take i).flatten.length : Int) + (L[i].length : Int)) (by omega) (by omega)]
  refine Ret.mustN (by omega) (hn _ _ (by omega))
 ·rintro s u1 next rfl
  dsimp only
  rw [List.take_length]
  refine Ret.mustN (by omega) (Ret.mustN (by omega) ?_)
  rw [wrapI (n := (0 : Int) - 0) (by omega) (by omega), wrapI (n := (L.flatten.length : Int) - (0 - 0)) (by omega) (by omega)]
  refine Ret.ifd ?_ ?_ <;> intro h0
  ·refine Ret.guard2 ⟨h0, by unfold lim; omega⟩ (Ret.guard2 ⟨by omega, by omega⟩ ?_)
   exact Ret.of_eq (concat_loop hN hl hf) rfl
  ·exact Ret.of_eq (concat_loop hN hl hf) rfl
variable {b : DBlock} (hb : SmallB b)
include hb
theorem spec_SameFunction (k j : Int) (u : Unit) : F_spec_SameFunction N (b, k, j, u) = some (sameAns b k j) := by
 refine Ret.eq ?_
 unfold F_spec_SameFunction sameAns
 refine Ret.call (spec_netCode hN hb k ()) ?_
 dsimp only
 refine Ret.ifnd ?_ ?_ <;> intro hc
 ·have e : codeN b [k, j] = codeN b [k] := by rw [codeN_two, if_neg hc]
  rw [e, if_pos hc]; exact Ret.ret rfl
 refine Ret.call (spec_netCode hN hb j u) ?_
 dsimp only
 refine Ret.ifnd ?_ ?_ <;> intro hc2
 ·have e : codeN b [k, j] = 2 := by rw [codeN_two, if_pos hc, if_neg hc2]
  rw [e, if_pos (by omega)]; exact Ret.ret rfl
 have e : codeN b [k, j] = 0 := by rw [codeN_two, if_pos hc, if_pos hc2]
 rw [if_neg (not_not_intro e)]
 obtain ⟨hB, hR, hk⟩ := codeN_zero.1 e
 obtain ⟨hke, hkn⟩ := inNets_nat (hk k (by simp))
 obtain ⟨hje, hjn⟩ := inNets_nat (hk j (by simp))
 obtain ⟨rank, hr⟩ := ranked_bd hN hb hB hR
 have hsm := block_small hB
 refine lim_guard (by omega) (lim_guard (by omega) ?_)
 rw [Int.toNat_natCast]
 have hno : ∀ j, (List.replicate b.2.1.2.1.length false)[j]? ≠ some true := fun j => by
  rw [List.getElem?_replicate]; split <;> simp
 have h1 := spec_l28Mark hN hb hB hr N k.toNat (List.replicate b.2.1.2.1.length false) (List.replicate b.2.1.2.1.length false) (by have := hr.low k.toNat; omega) hkn (by simp) (by simp) fun r _ _ j hj => absurd hj (hno j)
 rw [← hke] at h1
 refine Ret.bind h1 ?_
 rintro ⟨u0, m, sn, u1⟩ hw
 dsimp only at hw ⊢
 have hml := hw.ml
 have hsl := hw.sl
 rw [List.length_replicate] at hml hsl
 have hcl : ∀ r, rank k.toNat < r → SeenP b rank r m sn := fun r hrr => hw.closed r hrr fun j hj => absurd hj (hno j)
 have h2 := spec_l28Mark hN hb hB hr N j.toNat m sn (by have := hr.low j.toNat; omega) hjn hml hsl fun r _ _ q hq hqr => hcl (r + rank k.toNat + 1) (by omega) q hq (by omega)
 rw [← hje] at h2
 refine Ret.bind h2 ?_
 rintro ⟨u2, m2, sn2, u3⟩ hw2
 dsimp only at hw2 ⊢
 have hml2 := hw2.ml
 refine Ret.call (spec_l28Listed hN hb hB (by omega) ()) ?_
 have hU : ((List.range m2.length).filter fun s => dec (m2[s]? = some true)).map (fun s : Nat => (s : Int)) = supU b k.toNat j.toNat := by
  have : (List.range m2.length).filter (fun s => dec (m2[s]? = some true)) = (List.range b.2.1.2.1.length).filter fun s => dec (SupP b k.toNat s ∨ SupP b j.toNat s) := by
   rw [show m2.length = b.2.1.2.1.length by omega]
   refine List.filter_congr fun s hs => dec_congr ?_
   have hc2 : SeenP b rank (rank k.toNat + rank j.toNat + 1) m2 sn2 := hw2.closed _ (by omega) (hcl _ (by omega))
   constructor
   ·intro h
    rcases hw2.mark_new s h with h | h
    ·exact .inl ((hw.mark_new s h).resolve_left (hno s))
    ·exact .inr h
   ·rintro (⟨g1, g2⟩ | ⟨g1, g2⟩)
    ·exact (hc2 k.toNat (hw2.seen_mono _ hw.seen_k) (by omega) s g2).2 g1
    ·exact (hc2 j.toNat hw2.seen_k (by omega) s g2).2 g1
  rw [this]; rfl
 rw [hU]
 dsimp only
 refine Ret.ifd ?_ ?_ <;> intro h8
 ·rw [if_pos (by omega)]; exact Ret.ret rfl
 rw [if_neg (by omega)]
 have hS := supU_sup b k.toNat j.toNat
 have hf1 := spec_l28Function hN hb hB hr hS (by omega) hkn (fun s hs => supU_mem.2 ⟨s, (reach_rank hB.1 hr.down hs.2 hkn).1, .inl hs, rfl⟩) ()
 have hf2 := spec_l28Function hN hb hB hr hS (by omega) hjn (fun s hs => supU_mem.2 ⟨s, (reach_rank hB.1 hr.down hs.2 hjn).1, .inr hs, rfl⟩) ()
 rw [← hke] at hf1
 rw [← hje] at hf2
 refine Ret.call hf1 (Ret.call hf2 ?_)
 dsimp only
 have l1 := funL_len b (supU b k.toNat j.toNat) k.toNat
 have l2 := funL_len b (supU b k.toNat j.toNat) j.toNat
 have hp8 : 2 ^ (supU b k.toNat j.toNat).length ≤ 2 ^ 8 := Nat.pow_le_pow_right (by omega) (by omega)
 generalize funL b (supU b k.toNat j.toNat) k.toNat = f at *
 generalize funL b (supU b k.toNat j.toNat) j.toNat = g at *
 refine Ret.up f.length (fun i _ => ∀ q, q < i → ∀ (h : q < f.length) (h' : q < g.length), f[q] = g[q]) (by omega) (by omega) (fun q h => absurd h (Nat.not_lt_zero q)) ?_ ?_
 ·rintro i u5 next hi hI hn
  dsimp only
  rw [Int.toNat_natCast]
  refine Ret.must (by omega) (Ret.guardI hi (Ret.get hi (Ret.guardI (by omega) (Ret.get (by omega) ?_))))
  refine Ret.ifnd ?_ ?_ <;> intro he
  ·refine Ret.ret ?_
   rw [dec_not]
   rintro rfl
   exact he rfl
  ·refine hn () fun q hq h h' => ?_
   by_cases hqi : q = i
   ·subst hqi; exact he
   ·exact hI q (by omega) h h'
 ·rintro u5 next hI
  dsimp only
  refine Ret.mustN (by omega) (Ret.ret ?_)
  rw [dec_of]
  exact List.ext_getElem (by omega) fun q h h' => hI q h h h'
theorem impl_SameFunction (k j : Int) (u : Unit) : F_impl_SameFunction N (b, k, j, u) = some (sameAns b k j) := by
 refine Ret.eq ?_
 unfold F_impl_SameFunction sameAns
 dsimp only
 refine Ret.call (impl_IsBlock hN hb) ?_
 dsimp only
 refine Ret.ifnc ?_ ?_ <;> intro hB
 ·have e : codeN b [k, j] = 1 := by unfold codeN; rw [if_neg hB]
  rw [e, if_pos (by omega)]
  exact Ret.ifnd (fun _ => Ret.ret rfl) fun h => absurd h (by omega)
 have hsm := block_small hB
 refine Ret.bind (impl_newLogic hN hb hB ()) ?_
 rintro ⟨o, ok, u1⟩ (⟨h1, gates, ord, h2, hg, ht⟩ | ⟨h1, h2, h3⟩)
 case inr =>
  dsimp only at h1 h2 ⊢
  subst h1 h2
  have e : codeN b [k, j] = 7 := by unfold codeN; rw [if_pos hB, if_neg h3]
  rw [e, if_pos (by omega)]
  simp only [Bool.not_false, cond_true]
  exact Ret.ifnd (fun _ => Ret.ret rfl) fun h => absurd h (by omega)
 dsimp only at h1 h2 ⊢
 subst h1 h2
 have hR := ht.ranked hB.1
 have hr := ht.rankP hB.1 hsm.2
 simp only [Bool.not_true, cond_false]
 refine Ret.call rfl ?_
 refine Ret.call (show F_impl_length_int64 N _ = some _ from rfl) ?_
 dsimp only
 have ea : F_impl_areWithin N ([k, j], 0, IntKind.i64.wrap ((gates.length : Int) - 1), ()) = some (dec (∀ x ∈ [k, j], BtwP 0 ((b.2.1.2.1.length : Int) - 1) x), ()) := by
  rw [hg.1, wrapI (n := (b.2.1.2.1.length : Int) - 1) (by omega) (by omega)]
  exact impl_areWithin hN (by simp) 0 _
 refine Ret.call ea ?_
 dsimp only
 refine Ret.ifnc ?_ ?_ <;> intro hw
 ·have e : codeN b [k, j] = 2 := codeN_not hB hR hw
  rw [e, if_pos (by omega)]
  exact Ret.ifnd (fun _ => Ret.ret rfl) fun h => absurd h (by omega)
 have e : codeN b [k, j] = 0 := codeN_ok hB hR hw
 rw [if_neg (not_not_intro e)]
 simp only [decide_true, Bool.not_true, cond_false]
 obtain ⟨hke, hkn⟩ := inNets_nat (hw k (by simp))
 obtain ⟨hje, hjn⟩ := inNets_nat (hw j (by simp))
 refine Ret.bind (impl_supports hN hB hg ht ()) ?_
 rintro ⟨S, u4⟩ ⟨hS1, hS2⟩
 dsimp only at hS1 hS2 ⊢
 have k0 : 0 ≤ k := by omega
 have j0 : 0 ≤ j := by omega
 refine Ret.guardZ k0 (by omega) (Ret.call (hS2 k.toNat hkn) (Ret.guardZ j0 (by omega) (Ret.call (hS2 j.toNat hjn) ?_)))
 have hl1 := supL_len b k.toNat
 have hl2 := supL_len b j.toNat
 have hfl : ([supL b k.toNat, supL b j.toNat] : List (List Int)).flatten = supL b k.toNat ++ supL b j.toNat := by simp
 have hcon := impl_concat hN (L := [supL b k.toNat, supL b j.toNat]) (by simp) (by rw [hfl, List.length_append]; omega) ()
 rw [hfl] at hcon
 refine Ret.call hcon ?_
 have hso : F_slices_Sort_int64 (supL b k.toNat ++ supL b j.toNat, ()) = some ((), sortI (supL b k.toNat ++ supL b j.toNat), ()) := by
  unfold F_slices_Sort_int64
  rw [decide_eq_true (show (supL b k.toNat ++ supL b j.toNat).length < 4611686018427387904 by rw [List.length_append]; omega)]
  rfl
 refine Ret.call hso ?_
 dsimp only
 refine Ret.call rfl ?_
 rw [supU_join]
 refine Ret.ifd ?_ ?_ <;> intro h8
 ·rw [if_pos (by omega)]; exact Ret.ret rfl
 rw [if_neg (by omega)]
 have hS := supU_sup b k.toNat j.toNat
 generalize hsup : supU b k.toNat j.toNat = sup at *
 have hl : sup.length ≤ 8 := by omega
 have hp8 : 2 ^ sup.length ≤ 2 ^ 8 := Nat.pow_le_pow_right (by omega) hl
 refine Ret.guard (by omega) ?_
 have hlim : IntKind.i64.wrap ((1 : Int) * (2 ^ (min (sup.length : Int).toNat (IntKind.i64).bits))) = ((2 ^ sup.length : Nat) : Int) := by
  rw [Int.toNat_natCast, show min sup.length (IntKind.i64).bits = sup.length from Nat.min_eq_left (by simp only [IntKind.bits]; omega), Int.one_mul]
  rw [show (2 : Int) ^ sup.length = ((2 ^ sup.length : Nat) : Int) by simp]
  generalize 2 ^ sup.length = q at *
  exact wrapI (by omega) (by omega)
 rw [hlim]
 refine Ret.up (2 ^ sup.length) (fun i s => s.1.1 = dec (∀ r, r < i → val b (srcVal sup (bitsOf sup.length r)) k.toNat = val b (srcVal sup (bitsOf sup.length r)) j.toNat)) (by omega) (by omega) (by dsimp only; rw [dec_of fun r h => absurd h (Nat.not_lt_zero r)]) ?_ ?_
 ·rintro i ⟨⟨sm, u5⟩, u6⟩ next hi h1 hn2
  dsimp only at h1 ⊢
  subst h1
  refine Ret.must (by omega) ?_
  refine impl_rows (i := i) hN hS hl (by omega) (fun m u7 hm => ?_) ()
  refine Ret.bind (impl_values hN hB hr hg ht (m := m) (fun j _ => by rw [hm]; exact srcVal_bit (bitsOf_bit _ _) j) u7) ?_
  rintro ⟨V, u8⟩ ⟨f1, f2⟩
  dsimp only at f1 f2 ⊢
  refine Ret.ifc ?_ ?_ <;> intro hall
  ·refine Ret.guardZ k0 (by omega) (Ret.call (f2 k.toNat hkn) (Ret.guardZ j0 (by omega) (Ret.call (f2 j.toNat hjn) (hn2 _ ?_))))
   dsimp only
   rw [funext hm, decide_dec]
   refine dec_congr ⟨fun h r hri => ?_, fun h => h i (by omega)⟩
   by_cases hr2 : r = i
   ·subst hr2; exact h
   ·exact hall r (by omega)
  ·refine hn2 _ ?_
   dsimp only
   rw [dec_not]
   exact fun h => hall fun r hri => h r (by omega)
 ·rintro ⟨⟨sm, u5⟩, u6⟩ next h1
  dsimp only at h1 ⊢
  subst h1
  refine Ret.mustN (by omega) (Ret.ret ?_)
  rw [dec_congr funL_eq]
end
end Go.Proofs.YtdbmhfpphobmpaaGreatDoor
namespace Go.Proofs.YtdbmhfpphobmpaaGreatDoor
set_option linter.unusedSimpArgs false
set_option linter.unusedVariables false
set_option linter.unusedSectionVars false
theorem strOf_one (n : Int) : (strOf [n]).size = 1 := by simp [strOf]
theorem markText_some {N : Nat} (hN : 1000000000000 ≤ N) (k : Int) (hk : k ≤ 100000000000) (u : Unit) : Ret (F_laws_markText N (k, u)) (fun _ => True) := by
 unfold F_laws_markText
 dsimp only
 refine Ret.ifd ?_ ?_ <;> intro h0
 ·exact Ret.ret trivial
 refine Ret.fix (I := fun s => 0 ≤ s.1 ∧ (s.2.1.size : Int) + s.1 ≤ 100000000000) (μ := fun s => s.1.toNat) ?_ N _ ⟨by dsimp only; omega, by dsimp only; have h0 : (⟨#[]⟩ : ByteArray).size = 0 := rfl; omega⟩ (by dsimp only; omega)
 rintro ⟨k, s, v⟩ next ⟨h1, h2⟩ hn
 dsimp only at h1 h2 ⊢
 refine Ret.ifd ?_ ?_ <;> intro h3
 ·have hd : k.tdiv 10 = ((k.toNat / 10 : Nat) : Int) := by
   have : k = ((k.toNat : Nat) : Int) := by omega
   rw [this]; rfl
  refine Ret.guard ?_ (hn _ ⟨?_, ?_⟩ ?_)
  ·rw [strOf_one]; unfold limS; omega
  ·dsimp only; rw [hd, wrapI (n := ((k.toNat / 10 : Nat) : Int)) (by omega) (by omega)]; omega
  ·dsimp only; rw [hd, wrapI (n := ((k.toNat / 10 : Nat) : Int)) (by omega) (by omega), ByteArray.size_append, strOf_one]; omega
  ·dsimp only; rw [hd, wrapI (n := ((k.toNat / 10 : Nat) : Int)) (by omega) (by omega)]; omega
 ·refine Ret.guard ?_ (Ret.ret trivial)
  have : (⟨#[109]⟩ : ByteArray).size = 1 := rfl
  rw [this]; unfold limS; omega
section
variable {ρ : Type} {R : ρ → Prop} {N : Nat}
theorem Ret.text (hN : 1000000000000 ≤ N) {k : Int} {f : ByteArray → Option ρ} (hk : k ≤ 100000000000) (h : ∀ s, Ret (f s) R) : Ret (obind (obind (F_laws_markText N (k, ())) fun r => some r.1) f) R := by
 obtain ⟨r, hr, _⟩ := markText_some hN k hk ()
 rw [hr]
 exact h _
theorem sum_take_succ {α : Type} (c : α → Nat) {xs : List α} {i : Nat} (h : i < xs.length) : ((xs.take (i + 1)).map c).sum = ((xs.take i).map c).sum + c xs[i] := by
 rw [List.take_succ_eq_append_getElem h, List.map_append, List.sum_append]; simp
theorem sum_map_le {α : Type} {c : α → Nat} {b : Nat} {xs : List α} (h : ∀ e ∈ xs, c e ≤ b) : (xs.map c).sum ≤ b * xs.length := by
 induction xs with
 | nil => simp
 | cons x xs ih =>
  have h1 := h x (by simp)
  have h2 := ih fun e he => h e (by simp [he])
  simp only [List.map_cons, List.sum_cons, List.length_cons, Nat.mul_succ]
  omega
theorem Ret.next {next : List Int → Option ρ} {a b j : Int} (h : Ret (next [b, j]) R) (e : a = b) : Ret (next [a, j]) R := by subst e; exact h
end
end Go.Proofs.YtdbmhfpphobmpaaGreatDoor
namespace Go.Proofs.YtdbmhfpphobmpaaGreatDoor
set_option linter.unusedSimpArgs false
set_option linter.unusedVariables false
set_option linter.unusedSectionVars false
section
variable {ρ τ : Type} {R : ρ → Prop} {N : Nat}
end
end Go.Proofs.YtdbmhfpphobmpaaGreatDoor
