/- Fractions, sources and assignments: both sides. No program in sight. Probabilities: weights, sums, fractions. No program in sight. Probabilities: the program's chances. No program in sight. Probabilities: sums over pairs, sensitivities. No program in sight. Densities: DensityOf on both sides. No program in sight. -/
import Derived.Test.YtdbmhfpphobmpaaGreatDoorPgV
namespace Go.Proofs.YtdbmhfpphobmpaaGreatDoor
set_option linter.unusedSimpArgs false
set_option linter.unusedVariables false
set_option linter.unusedSectionVars false
set_option maxHeartbeats 1000000
def FracP (f : Int × Int × Unit) : Prop := BtwP 1 1000000 f.2.1 ∧ BtwP 0 f.2.1 f.1 ∧ Nat.gcd f.1.toNat f.2.1.toNat = 1
def ActP (a : (Int × Int × Unit) × Int × Unit) : Prop := FracP a.1 ∧ a.1.2.1 ≤ 10 ∧ BtwP 0 1000 a.2.1
def AssignP (b : DBlock) (l : List ((Int × Int × Unit) × Int × Unit)) : Prop := (BlockP b ∧ Ranked b) ∧ l.length = (srcOf b).length ∧ ∀ a ∈ l, ActP a
section
variable {N : Nat} (hN : 4000000 ≤ N)
include hN
theorem gcd_loop (m n : Nat) (hn : n ≤ 1000000) (u : Unit) : Ret (fixN N (fun (next2 : (Int × (Int × Unit)) → Option (Int × Unit)) (s1 : (Int × (Int × Unit))) =>
 (bif (!decide (s1.2.1 = (0 : Int))) then (bif decide (s1.2.1 = 0) then none else next2 (s1.2.1, (s1.1.tmod s1.2.1), ())) else some (s1.1, ()))) ((m : Int), (n : Int), u)) (fun r => r.1 = (Nat.gcd m n : Int)) := by
 refine Ret.fix (I := fun s => ∃ a c : Nat, s.1 = (a : Int) ∧ s.2.1 = (c : Int) ∧ Nat.gcd a c = Nat.gcd m n) (μ := fun s => s.2.1.toNat) ?_ N _ ⟨m, n, rfl, rfl, rfl⟩ (by dsimp only; omega)
 rintro ⟨x, y, v⟩ next ⟨a, c, h1, h2, h3⟩ hnext
 dsimp only at h1 h2 ⊢
 subst h1 h2
 refine Ret.ifnd ?_ ?_ <;> intro h0
 ·refine Ret.guardN h0 ?_
  have e : ((a : Int).tmod (c : Int)) = ((a % c : Nat) : Int) := rfl
  rw [e]
  have hlt := Nat.mod_lt a (show c > 0 by omega)
  refine hnext _ ⟨c, a % c, rfl, rfl, ?_⟩ (by dsimp only; omega)
  rw [← h3, Nat.gcd_comm a c, Nat.gcd_rec c a, Nat.gcd_comm]
 ·obtain rfl : c = 0 := by omega
  rw [Nat.gcd_zero_right] at h3
  exact Ret.ret (by dsimp only; rw [h3])
theorem spec_IsFraction (f : Int × Int × Unit) (u : Unit) : F_spec_IsFraction N (f, u) = some (dec (FracP f), ()) := by
 obtain ⟨n, d, v⟩ := f
 refine Ret.tells ?_
 unfold F_spec_IsFraction
 dsimp only
 refine Ret.call (spec_l01In N _ _ _ _) (Ret.ifc ?_ ?_) <;> intro h1
 ·refine Ret.call (spec_l01In N _ _ _ _) (Ret.ifc ?_ ?_) <;> intro h2
  ·have h1' := h1; have h2' := h2
   unfold BtwP at h1' h2'
   have hg := gcd_loop hN d.toNat n.toNat (by omega) ()
   rw [Int.toNat_of_nonneg (by omega), Int.toNat_of_nonneg (by omega)] at hg
   refine Ret.bind hg ?_
   rintro ⟨g, w⟩ rfl
   refine Ret.ret (tells_decide.2 ⟨fun h => ⟨h1, h2, ?_⟩, fun h => ?_⟩)
   ·rw [Nat.gcd_comm]; dsimp only at h ⊢; omega
   ·have := h.2.2
    rw [Nat.gcd_comm] at this
    dsimp only at this ⊢; omega
  ·exact Ret.ret (tells_false.2 fun h => h2 h.2.1)
 ·exact Ret.ret (tells_false.2 fun h => h1 h.1)
theorem impl_IsFraction (f : Int × Int × Unit) (u : Unit) : F_impl_IsFraction N (f, u) = some (dec (FracP f), ()) := by
 obtain ⟨n, d, v⟩ := f
 refine Ret.tells ?_
 unfold F_impl_IsFraction
 dsimp only
 refine Ret.call (impl_within N _ _ _ _) (Ret.ifc ?_ ?_) <;> intro h1
 ·refine Ret.call (impl_within N _ _ _ _) (Ret.ifc ?_ ?_) <;> intro h2
  ·have h1' := h1; have h2' := h2
   unfold BtwP at h1' h2'
   have hg := gcd_loop hN n.toNat d.toNat (by omega) v
   rw [Int.toNat_of_nonneg (by omega), Int.toNat_of_nonneg (by omega)] at hg
   refine Ret.bind hg ?_
   rintro ⟨g, w⟩ rfl
   refine Ret.ret (tells_decide.2 ⟨fun h => ⟨h1, h2, ?_⟩, fun h => ?_⟩)
   ·dsimp only at h ⊢; omega
   ·have := h.2.2
    dsimp only at this ⊢; omega
  ·exact Ret.ret (tells_false.2 fun h => h2 h.2.1)
 ·exact Ret.ret (tells_false.2 fun h => h1 h.1)
variable {b : DBlock} (hb : SmallB b)
include hb
theorem spec_IsAssignment {l : List ((Int × Int × Unit) × Int × Unit)} (hl : l.length < 4000000) (u : Unit) : F_spec_IsAssignment N (b, l, u) = some (dec (AssignP b l), ()) := by
 refine Ret.tells ?_
 unfold F_spec_IsAssignment
 dsimp only
 by_cases hBR : BlockP b ∧ Ranked b
 ·obtain ⟨hB, hR⟩ := hBR
  refine Ret.call (a := ((0 : Int), ())) ?_ ?_
  ·refine Ret.eq ?_
   unfold F_spec_l28Code
   refine Ret.call (spec_IsBlock hN hb) ?_
   dsimp only
   rw [dec_of hB]
   refine Ret.call (spec_IsLogical hN hb ()) ?_
   dsimp only
   rw [dec_of ⟨hB, hR⟩]
   exact Ret.ret rfl
  dsimp only
  refine Ret.mustNN rfl ?_
  refine Ret.call (spec_l28Sources hN hb hB ()) ?_
  dsimp only
  refine Ret.ifnd ?_ ?_ <;> intro hlen
  ·exact Ret.ret (tells_false.2 fun h => hlen (by rw [h.2.1]))
  refine Ret.up l.length (fun i _ => ∀ j (h : j < l.length), j < i → ActP l[j]) (by omega) (by omega) (fun j _ h => absurd h (by omega)) ?_ ?_
  ·intro i s next hi hI hn
   dsimp only
   refine Ret.must (by omega) ?_
   refine Ret.atN hi ?_
   refine Ret.call (spec_IsFraction hN _ _) ?_
   have hno : ¬ ActP l[i] → Ret (some (false, ())) (Tells (AssignP b l)) := fun h => Ret.ret (tells_false.2 fun hA => h (hA.2.2 _ (List.getElem_mem hi)))
   dsimp only
   refine Ret.ifnc ?_ ?_ <;> intro h1
   ·exact hno fun h => h1 h.1
   refine Ret.atN hi ?_
   refine Ret.ifd ?_ ?_ <;> intro h2
   ·exact hno fun h => by have := h.2.1; omega
   refine Ret.atN hi ?_
   refine Ret.call (spec_l01In N _ _ _ _) ?_
   dsimp only
   refine Ret.ifnc ?_ ?_ <;> intro h3
   ·exact hno fun h => h3 h.2.2
   refine hn () fun j hj hji => ?_
   by_cases e : j < i
   ·exact hI j hj e
   ·obtain rfl : j = i := by omega
    exact ⟨h1, by omega, h3⟩
  ·intro s next hI
   dsimp only
   refine Ret.mustN (by omega) (Ret.ret (tells_true.2 ⟨⟨hB, hR⟩, by omega, fun a ha => ?_⟩))
   obtain ⟨j, hj, rfl⟩ := List.getElem_of_mem ha
   exact hI j hj hj
 ·have hc : ∃ c, c ≠ 0 ∧ F_spec_l28Code N (b, ()) = some (c, ()) := by
   unfold F_spec_l28Code
   by_cases hB : BlockP b
   ·refine ⟨7, by omega, Ret.eq ?_⟩
    refine Ret.call (spec_IsBlock hN hb) ?_
    dsimp only
    rw [dec_of hB]
    refine Ret.call (spec_IsLogical hN hb ()) ?_
    dsimp only
    rw [dec_not hBR]
    exact Ret.ret rfl
   ·refine ⟨1, by omega, Ret.eq ?_⟩
    refine Ret.call (spec_IsBlock hN hb) ?_
    dsimp only
    rw [dec_not hB]
    exact Ret.ret rfl
  obtain ⟨c, h1, h2⟩ := hc
  refine Ret.call h2 ?_
  dsimp only
  refine Ret.ifnd ?_ ?_ <;> intro h
  ·exact Ret.ret (tells_false.2 fun h => hBR h.1)
  ·exact absurd h h1
theorem impl_isAssignment (hB : BlockP b) (hR : Ranked b) {gates : List Int} {ord : List Int × Unit} (hg : gates.length = b.2.1.2.1.length ∧ ∀ k (h : k < gates.length), gates[k] = gateOf b k) {l : List ((Int × Int × Unit) × Int × Unit)} (hl : l.length < 4000000) (u : Unit) : F_impl_logic_isAssignment N (some (b, gates, ord), l, u) = some (dec (AssignP b l), ()) := by
 refine Ret.tells ?_
 have hall : F_slices_ContainsFunc_impl_Activity_impl_Activity_c_impl_logic_isAssignment_1 N (l, (), ()) = some (dec (∃ a ∈ l, ¬ ActP a), ()) := by
  unfold F_slices_ContainsFunc_impl_Activity_impl_Activity_c_impl_logic_isAssignment_1 F_slices_IndexFunc_impl_Activity_impl_Activity_c_impl_logic_isAssignment_1
  refine containsFunc_eq (indexFunc_eq (fun e => F_impl_logic_isAssignment_1 N (e, ())) (fun a => ¬ ActP a) (fun a _ => ?_) hl hN)
  refine Ret.tells ?_
  unfold F_impl_logic_isAssignment_1
  dsimp only
  refine Ret.call (impl_IsFraction hN _ _) ?_
  dsimp only
  refine Ret.ifnc ?_ ?_ <;> intro h1
  ·exact Ret.ret (tells_true.2 fun h => h1 h.1)
  refine Ret.ifd ?_ ?_ <;> intro h2
  ·exact Ret.ret (tells_true.2 fun h => by have := h.2.1; omega)
  refine Ret.call (impl_within N _ _ _ _) ?_
  refine Ret.ret (tells_ndec.2 ⟨fun h3 h => h3 h.2.2, fun h h3 => h ⟨h1, by omega, h3⟩⟩)
 unfold F_impl_logic_isAssignment
 dsimp only
 refine Ret.call (impl_logic_sources hN hb hB hg ()) ?_
 dsimp only
 refine Ret.ifd ?_ ?_ <;> intro hlen
 ·refine Ret.call hall ?_
  refine Ret.ret (tells_ndec.2 ⟨fun h => ⟨⟨hB, hR⟩, by omega, fun a ha => Classical.byContradiction fun hn => h ⟨a, ha, hn⟩⟩, fun h ⟨a, ha, hn⟩ => hn (h.2.2 a ha)⟩)
 ·exact Ret.ret (tells_false.2 fun h => hlen (by rw [h.2.1]))
end
end Go.Proofs.YtdbmhfpphobmpaaGreatDoor
namespace Go.Proofs.YtdbmhfpphobmpaaGreatDoor
set_option linter.unusedSimpArgs false
set_option linter.unusedVariables false
set_option linter.unusedSectionVars false
set_option maxHeartbeats 1000000
abbrev AT := (Int × Int × Unit) × Int × Unit
def pickA (sup : List Int) (l : List AT) (x : Int) : AT := match sup.findIdx? (fun y => decide (y = x)) with
 | some p => l[p]?.getD ((0, 0, ()), 0, ())
 | none => ((0, 0, ()), 0, ())
theorem pickA_at {sup : List Int} {l : List AT} (hnd : sup.Nodup) {p : Nat} (hp : p < sup.length) (hv : p < l.length) {x : Int} (hk : sup[p] = x) : pickA sup l x = l[p] := by
 unfold pickA
 have : sup.findIdx? (fun y => decide (y = x)) = some p := by
  rw [List.findIdx?_eq_some_iff_getElem]
  refine ⟨hp, by simpa using hk, fun j hj => ?_⟩
  simp only [decide_eq_true_eq]
  intro h
  exact List.pairwise_iff_getElem.1 hnd j p (by omega) hp hj (h.trans hk.symm)
 rw [this]
 simp [hv]
def fac (a : AT) (bit : Bool) : Int := if bit then a.1.1 else a.1.2.1 - a.1.1
def wtP (A : Int → AT) (sup : List Int) (i : Nat) (skip : Int) : Nat → Int
 | 0 => 1
 | p + 1 => if (p : Int) = skip then wtP A sup i skip p else wtP A sup i skip p * fac (A (sup[p]?.getD 0)) (decide (i / 2 ^ p % 2 = 1))
def dnP (A : Int → AT) (sup : List Int) (skip : Int) : Nat → Int
 | 0 => 1
 | p + 1 => if (p : Int) = skip then dnP A sup skip p else dnP A sup skip p * (A (sup[p]?.getD 0)).1.2.1
def OkA (A : Int → AT) (sup : List Int) : Prop := ∀ x ∈ sup, (0 ≤ (A x).1.1 ∧ (A x).1.1 ≤ (A x).1.2.1) ∧ (1 ≤ (A x).1.2.1 ∧ (A x).1.2.1 ≤ 10) ∧ 0 ≤ (A x).2.1 ∧ (A x).2.1 ≤ 1000
theorem get0 {sup : List Int} {p : Nat} (h : p < sup.length) : sup[p]?.getD 0 = sup[p] := by rw [List.getElem?_eq_getElem h]; rfl
theorem fac_bound {A : Int → AT} {sup : List Int} (hA : OkA A sup) {p : Nat} (h : p < sup.length) (b : Bool) : 0 ≤ fac (A (sup[p]?.getD 0)) b ∧ fac (A (sup[p]?.getD 0)) b ≤ 10 := by
 have := hA _ (List.getElem_mem h)
 rw [get0 h]
 unfold fac
 cases b <;> simp <;> omega
theorem mul_bound {a c m : Int} (ha : 0 ≤ a ∧ a ≤ m) (hc : 0 ≤ c ∧ c ≤ 10) : 0 ≤ a * c ∧ a * c ≤ m * 10 :=
 ⟨Int.mul_nonneg ha.1 hc.1, Int.le_trans (Int.mul_le_mul_of_nonneg_left hc.2 ha.1) (Int.mul_le_mul_of_nonneg_right ha.2 (by omega))⟩
theorem wtP_bound {A : Int → AT} {sup : List Int} (hA : OkA A sup) (i : Nat) (skip : Int) : ∀ p, p ≤ sup.length → 0 ≤ wtP A sup i skip p ∧ wtP A sup i skip p ≤ 10 ^ p
 | 0, _ => by simp [wtP]
 | p + 1, h => by
  have h1 := wtP_bound hA i skip p (by omega)
  have hp : (0 : Int) < 10 ^ p := Int.pow_pos (by omega)
  rw [Int.pow_succ]
  unfold wtP
  split
  ·omega
  ·exact mul_bound h1 (fac_bound hA (by omega) _)
theorem dnP_bound {A : Int → AT} {sup : List Int} (hA : OkA A sup) (skip : Int) : ∀ p, p ≤ sup.length → 1 ≤ dnP A sup skip p ∧ dnP A sup skip p ≤ 10 ^ p
 | 0, _ => by simp [dnP]
 | p + 1, h => by
  have h1 := dnP_bound hA skip p (by omega)
  have hp : (0 : Int) < 10 ^ p := Int.pow_pos (by omega)
  have ha := hA _ (List.getElem_mem (show p < sup.length by omega))
  rw [Int.pow_succ]
  unfold dnP
  split
  ·omega
  ·rw [get0 (by omega)]
   refine ⟨?_, (mul_bound ⟨by omega, h1.2⟩ ⟨by omega, ha.2.1.2⟩).2⟩
   exact Int.le_trans (show (1 : Int) ≤ 1 * 1 by omega) (Int.mul_le_mul h1.1 ha.2.1.1 (by omega) (by omega))
theorem pow8 {n : Nat} (h : n ≤ 8) : (10 : Int) ^ n ≤ 100000000 := by
 have h1 : ∀ m : Nat, m < 9 → (10 : Int) ^ m ≤ 100000000 := by decide
 exact h1 n (by omega)
def sumW (f : List Int) (w : Nat → Int) : Nat → Int
 | 0 => 0
 | i + 1 => sumW f w i + f[i]?.getD 0 * w i
def Bits01 (f : List Int) : Prop := ∀ v ∈ f, v = 0 ∨ v = 1
theorem get01 {f : List Int} (h : Bits01 f) (i : Nat) : f[i]?.getD 0 = 0 ∨ f[i]?.getD 0 = 1 := by
 cases hi : f[i]? with
 | none => exact .inl rfl
 | some v => exact h v (List.mem_of_getElem? hi)
theorem sumW_bound {f : List Int} (h : Bits01 f) {w : Nat → Int} {m : Int} (hm : 0 ≤ m) (hw : ∀ i, 0 ≤ w i ∧ w i ≤ m) : ∀ n, 0 ≤ sumW f w n ∧ sumW f w n ≤ (n : Int) * m
 | 0 => by simp [sumW]
 | n + 1 => by
  have h1 := sumW_bound h hm hw n
  have h2 := hw n
  have e : ((n + 1 : Nat) : Int) * m = (n : Int) * m + m := by rw [Int.natCast_add, Int.add_mul]; simp
  rw [e]
  unfold sumW
  rcases get01 h n with h3 | h3 <;> rw [h3] <;> omega
theorem funL_bits {b : DBlock} (hB : BlockP b) {rank : Nat → Nat} (hr : RankP b rank) (sup : List Int) {k : Nat} (hk : k < b.2.1.2.1.length) : Bits01 (funL b sup k) := by
 intro v hv
 unfold funL at hv
 obtain ⟨r, _, rfl⟩ := List.mem_map.1 hv
 have := val_bit hB hr (srcVal sup (bitsOf sup.length r)) (fun j _ => srcVal_bit (bitsOf_bit _ _) j) hk
 omega
def redF (n d : Int) : Int × Int × Unit := (n.tdiv (Nat.gcd n.toNat d.toNat : Int), d.tdiv (Nat.gcd n.toNat d.toNat : Int), ())
theorem redF_mul {n m : Nat} {d : Nat} (hd : 0 < d) : redF ((n * d : Nat) : Int) ((m * d : Nat) : Int) = redF (n : Int) (m : Int) := by
 unfold redF
 simp only [Int.toNat_natCast, Nat.gcd_mul_right]
 have e : ∀ a g : Nat, ((a * d : Nat) : Int).tdiv ((g * d : Nat) : Int) = (a : Int).tdiv (g : Int) := fun a g => by
  show (((a * d) / (g * d) : Nat) : Int) = ((a / g : Nat) : Int)
  rw [Nat.mul_div_mul_right _ _ hd]
 rw [e, e]
section
variable {N : Nat} (hM : 1000000000000 ≤ N)
include hM
theorem gcd_loop' (m n : Nat) (hn : n ≤ 100000000000) (u : Unit) : Ret (fixN N (fun (next2 : (Int × (Int × Unit)) → Option (Int × Unit)) (s1 : (Int × (Int × Unit))) =>
 (bif (!decide (s1.2.1 = (0 : Int))) then (bif decide (s1.2.1 = 0) then none else next2 (s1.2.1, (s1.1.tmod s1.2.1), ())) else some (s1.1, ()))) ((m : Int), (n : Int), u)) (fun r => r.1 = (Nat.gcd m n : Int)) := by
 refine Ret.fix (I := fun s => ∃ a c : Nat, s.1 = (a : Int) ∧ s.2.1 = (c : Int) ∧ Nat.gcd a c = Nat.gcd m n) (μ := fun s => s.2.1.toNat) ?_ N _ ⟨m, n, rfl, rfl, rfl⟩ (by dsimp only; omega)
 rintro ⟨x, y, v⟩ next ⟨a, c, h1, h2, h3⟩ hnext
 dsimp only at h1 h2 ⊢
 subst h1 h2
 refine Ret.ifnd ?_ ?_ <;> intro h0
 ·refine Ret.guardN h0 ?_
  have e : ((a : Int).tmod (c : Int)) = ((a % c : Nat) : Int) := rfl
  rw [e]
  have hlt := Nat.mod_lt a (show c > 0 by omega)
  refine hnext _ ⟨c, a % c, rfl, rfl, ?_⟩ (by dsimp only; omega)
  rw [← h3, Nat.gcd_comm a c, Nat.gcd_rec c a, Nat.gcd_comm]
 ·obtain rfl : c = 0 := by omega
  rw [Nat.gcd_zero_right] at h3
  exact Ret.ret (by dsimp only; rw [h3])
theorem red_parts {n d : Int} (hn : 0 ≤ n ∧ n ≤ 100000000000) (hd : 1 ≤ d ∧ d ≤ 100000000000) : 1 ≤ (Nat.gcd n.toNat d.toNat : Int) ∧ IntKind.i64.wrap (n.tdiv (Nat.gcd n.toNat d.toNat : Int)) = n.tdiv (Nat.gcd n.toNat d.toNat : Int) ∧ IntKind.i64.wrap (d.tdiv (Nat.gcd n.toNat d.toNat : Int)) = d.tdiv (Nat.gcd n.toNat d.toNat : Int) := by
 obtain ⟨a, rfl⟩ : ∃ a : Nat, n = a := ⟨n.toNat, by omega⟩
 obtain ⟨c, rfl⟩ : ∃ c : Nat, d = c := ⟨d.toNat, by omega⟩
 simp only [Int.toNat_natCast]
 have hg : 0 < Nat.gcd a c := Nat.gcd_pos_of_pos_right _ (by omega)
 generalize Nat.gcd a c = g at *
 have h1 : a / g ≤ a := Nat.div_le_self _ _
 have h2 : c / g ≤ c := Nat.div_le_self _ _
 refine ⟨by omega, ?_, ?_⟩
 ·show IntKind.i64.wrap ((a / g : Nat) : Int) = ((a / g : Nat) : Int)
  generalize a / g = q at *
  exact wrapI (by omega) (by omega)
 ·show IntKind.i64.wrap ((c / g : Nat) : Int) = ((c / g : Nat) : Int)
  generalize c / g = q at *
  exact wrapI (by omega) (by omega)
theorem impl_reduced {n d : Int} (hn : 0 ≤ n ∧ n ≤ 100000000000) (hd : 1 ≤ d ∧ d ≤ 100000000000) (u : Unit) : F_impl_reduced N (n, d, u) = some (redF n d, ()) := by
 obtain ⟨h1, h2, h3⟩ := red_parts hM hn hd
 have e1 : n = ((n.toNat : Nat) : Int) := by omega
 have e2 : d = ((d.toNat : Nat) : Int) := by omega
 refine Ret.eq ?_
 unfold F_impl_reduced F_impl_gcd
 dsimp only
 have hg := gcd_loop' hM n.toNat d.toNat (by omega) u
 rw [← e1, ← e2] at hg
 refine Ret.bind hg ?_
 rintro ⟨g, v⟩ he
 dsimp only at he ⊢
 subst he
 refine Ret.guardN (by omega) (Ret.guardN (by omega) (Ret.ret ?_))
 rw [h2, h3]; rfl
theorem spec_reduce {n d : Int} (hn : 0 ≤ n ∧ n ≤ 100000000000) (hd : 1 ≤ d ∧ d ≤ 100000000000) (u : Unit) : F_spec_l29Reduce N (n, d, u) = some (if 1000000 < (redF n d).2.1 then ((0, 0, ()), false, ()) else (redF n d, true, ())) := by
 obtain ⟨h1, h2, h3⟩ := red_parts hM hn hd
 have e1 : n = ((n.toNat : Nat) : Int) := by omega
 have e2 : d = ((d.toNat : Nat) : Int) := by omega
 refine Ret.eq ?_
 unfold F_spec_l29Reduce F_spec_l29Gcd
 dsimp only
 have hg := gcd_loop' hM d.toNat n.toNat (by omega) ()
 rw [← e1, ← e2, Nat.gcd_comm] at hg
 refine Ret.bind hg ?_
 rintro ⟨g, v⟩ he
 dsimp only at he ⊢
 subst he
 refine Ret.guardN (by omega) (Ret.guardN (by omega) ?_)
 rw [h2, h3]
 refine Ret.ifd ?_ ?_ <;> intro h
 ·rw [if_pos (show 1000000 < (redF n d).2.1 from h)]; exact Ret.ret rfl
 ·rw [if_neg (show ¬ 1000000 < (redF n d).2.1 from h)]; exact Ret.ret rfl
end
section
variable {N : Nat} (hN : 4000000 ≤ N) {b : DBlock} (hb : SmallB b) (hB : BlockP b)
include hN hb hB
theorem spec_l29Of {l : List AT} (hl : l.length = (srcOf b).length) {x : Int} (hx : x ∈ srcOf b) (u : Unit) : F_spec_l29Of N (b, l, x, u) = some (pickA (srcOf b) l x, ()) := by
 have hs := srcOf_len' hB
 obtain ⟨p, hp, he⟩ := List.getElem_of_mem hx
 have hf : fidx (fun y => y = x) (srcOf b) = (p : Int) := fidx_at hp he fun j hj hji h => List.pairwise_iff_getElem.1 (srcOf_nodup b) j p hj hp hji (h.trans he.symm)
 refine Ret.eq ?_
 unfold F_spec_l29Of
 dsimp only
 refine Ret.call (spec_l28Sources hN hb hB ()) ?_
 have hlen : (srcOf b).length < 4000000 := by omega
 refine Ret.call (has_at hN hlen x u) ?_
 rw [hf]
 refine Ret.atN (by omega) (Ret.ret ?_)
 rw [pickA_at (srcOf_nodup b) hp (by omega) he]
theorem spec_l29Weight {l : List AT} (hl : l.length = (srcOf b).length) {sup : List Int} (h8 : sup.length ≤ 8) (hsup : ∀ x ∈ sup, x ∈ srcOf b) (hA : OkA (pickA (srcOf b) l) sup) {i : Nat} (hi : i < 256) (u : Unit) :
 F_spec_l29Weight N (b, l, sup, (i : Int), u) = some (wtP (pickA (srcOf b) l) sup i (-1) sup.length, ()) := by
 refine Ret.eq ?_
 unfold F_spec_l29Weight
 dsimp only
 refine Ret.up2 sup.length (fun p ii n _ => ii = ((i / 2 ^ p : Nat) : Int) ∧ n = wtP (pickA (srcOf b) l) sup i (-1) p) (by omega) (by omega) ⟨by simp, rfl⟩ ?_ ?_
 ·rintro p ii n u1 next hp ⟨rfl, rfl⟩ hn
  dsimp only
  refine Ret.must (by omega) (Ret.atN hp ?_)
  refine Ret.call (spec_l29Of hN hb hB hl (hsup _ (List.getElem_mem hp)) ()) ?_
  dsimp only
  have hle : i / 2 ^ p ≤ i := Nat.div_le_self _ _
  have hle2 : i / 2 ^ (p + 1) ≤ i := Nat.div_le_self _ _
  have hm : (((i / 2 ^ p : Nat) : Int).tmod 2) = ((i / 2 ^ p % 2 : Nat) : Int) := rfl
  have hd : IntKind.i64.wrap (((i / 2 ^ p : Nat) : Int).tdiv 2) = ((i / 2 ^ (p + 1) : Nat) : Int) := by
   have : (((i / 2 ^ p : Nat) : Int).tdiv 2) = ((i / 2 ^ (p + 1) : Nat) : Int) := by
    rw [Nat.pow_succ, ← Nat.div_div_eq_div_mul]; rfl
   rw [this]
   generalize i / 2 ^ (p + 1) = q at *
   exact wrapI (by omega) (by omega)
  rw [hm, hd]
  have hw := wtP_bound hA i (-1) p (by omega)
  have hp8 := pow8 (show p ≤ 8 by omega)
  have hne : ¬ ((p : Int) = -1) := by omega
  have ha := hA _ (List.getElem_mem hp)
  have key : ∀ bit : Bool, decide (i / 2 ^ p % 2 = 1) = bit → IntKind.i64.wrap (wtP (pickA (srcOf b) l) sup i (-1) p * fac (pickA (srcOf b) l sup[p]) bit) = wtP (pickA (srcOf b) l) sup i (-1) (p + 1) := fun bit hbit => by
   have h2 := fac_bound hA hp bit
   have h3 := mul_bound hw h2
   rw [get0 hp] at h3
   rw [wrapI (by omega) (by omega)]
   conv => rhs; unfold wtP
   rw [if_neg hne, get0 hp, hbit]
  refine Ret.ifd ?_ ?_ <;> intro hbit
  ·exact hn _ _ _ ⟨rfl, key true (by simp; omega)⟩
  ·have h4 : IntKind.i64.wrap ((pickA (srcOf b) l sup[p]).1.2.1 - (pickA (srcOf b) l sup[p]).1.1) = (pickA (srcOf b) l sup[p]).1.2.1 - (pickA (srcOf b) l sup[p]).1.1 := wrapI (by omega) (by omega)
   rw [h4]
   exact hn _ _ _ ⟨rfl, key false (by simp; omega)⟩
 ·rintro ii n u1 next ⟨_, rfl⟩
  dsimp only
  exact Ret.mustN (by omega) (Ret.ret rfl)
theorem spec_l29Product {l : List AT} (hl : l.length = (srcOf b).length) {sup : List Int} (h8 : sup.length ≤ 8) (hsup : ∀ x ∈ sup, x ∈ srcOf b) (hA : OkA (pickA (srcOf b) l) sup) (u : Unit) :
 F_spec_l29Product N (b, l, sup, u) = some (dnP (pickA (srcOf b) l) sup (-1) sup.length, ()) := by
 refine Ret.eq ?_
 unfold F_spec_l29Product
 dsimp only
 refine Ret.upM 0 sup.length (fun p (n : Int) (_ : Unit) => n = dnP (pickA (srcOf b) l) sup (-1) p) (by omega) (by omega) (by omega) rfl ?_ ?_
 ·rintro p n u1 next _ hp rfl hn
  dsimp only
  refine Ret.must (by omega) (Ret.atN hp ?_)
  refine Ret.call (spec_l29Of hN hb hB hl (hsup _ (List.getElem_mem hp)) ()) ?_
  dsimp only
  have hw := dnP_bound hA (-1) p (by omega)
  have hp8 := pow8 (show p ≤ 8 by omega)
  have ha := hA _ (List.getElem_mem hp)
  have h3 := mul_bound (a := dnP (pickA (srcOf b) l) sup (-1) p) ⟨by omega, hw.2⟩ (show 0 ≤ (pickA (srcOf b) l sup[p]).1.2.1 ∧ (pickA (srcOf b) l sup[p]).1.2.1 ≤ 10 by omega)
  rw [wrapI (by omega) (by omega)]
  refine hn _ _ ?_
  conv => rhs; unfold dnP
  rw [if_neg (by omega), get0 hp]
 ·rintro n u1 next rfl
  dsimp only
  exact Ret.mustN (by omega) (Ret.ret rfl)
theorem spec_l29Sum {l : List AT} (hl : l.length = (srcOf b).length) {sup : List Int} (h8 : sup.length ≤ 8) (hsup : ∀ x ∈ sup, x ∈ srcOf b) (hA : OkA (pickA (srcOf b) l) sup) {f : List Int} (hf : Bits01 f) (hfl : f.length ≤ 256) (u : Unit) :
 F_spec_l29Sum N (b, l, sup, f, u) = some (sumW f (fun i => wtP (pickA (srcOf b) l) sup i (-1) sup.length) f.length, ()) := by
 refine Ret.eq ?_
 unfold F_spec_l29Sum
 dsimp only
 have hwb : ∀ i, 0 ≤ wtP (pickA (srcOf b) l) sup i (-1) sup.length ∧ wtP (pickA (srcOf b) l) sup i (-1) sup.length ≤ 100000000 := fun i => by
  have := wtP_bound hA i (-1) _ (Nat.le_refl _)
  have := pow8 h8
  omega
 refine Ret.upM 0 f.length (fun i (n : Int) (_ : Unit) => n = sumW f (fun i => wtP (pickA (srcOf b) l) sup i (-1) sup.length) i) (by omega) (by omega) (by omega) rfl ?_ ?_
 ·rintro i n u1 next _ hi rfl hn
  dsimp only
  refine Ret.must (by omega) (Ret.atN hi ?_)
  have hs := sumW_bound hf (by omega) hwb i
  have h1 := hwb i
  have hfi := hf _ (List.getElem_mem hi)
  refine Ret.ifd ?_ ?_ <;> intro h
  ·refine Ret.call (spec_l29Weight hN hb hB hl h8 hsup hA (by omega) u1) ?_
   dsimp only
   rw [wrapI (by omega) (by omega)]
   refine hn _ _ ?_
   conv => rhs; unfold sumW
   rw [get0 hi, h, Int.one_mul]
  ·refine hn _ _ ?_
   conv => rhs; unfold sumW
   rw [get0 hi, show f[i] = 0 by omega, Int.zero_mul, Int.add_zero]
 ·rintro n u1 next rfl
  dsimp only
  exact Ret.mustN (by omega) (Ret.ret rfl)
end
end Go.Proofs.YtdbmhfpphobmpaaGreatDoor
namespace Go.Proofs.YtdbmhfpphobmpaaGreatDoor
set_option linter.unusedSimpArgs false
set_option linter.unusedVariables false
set_option linter.unusedSectionVars false
set_option maxHeartbeats 1000000
noncomputable def codeA (b : DBlock) (l : List AT) (ks : List Int) : Int :=
 if codeN b ks ≠ 0 then codeN b ks else @ite _ (AssignP b l) (Classical.propDecidable _) 0 5
theorem codeA_zero {b : DBlock} {l : List AT} {ks : List Int} : codeA b l ks = 0 ↔ codeN b ks = 0 ∧ AssignP b l := by
 unfold codeA
 by_cases h : codeN b ks = 0
 ·rw [if_neg (not_not_intro h)]
  by_cases h2 : AssignP b l
  ·rw [if_pos h2]; exact ⟨fun _ => ⟨h, h2⟩, fun _ => rfl⟩
  ·rw [if_neg h2]; exact ⟨fun h => by omega, fun h => absurd h.2 h2⟩
 ·rw [if_pos h]; exact ⟨fun h' => absurd h' h, fun h' => absurd h'.1 h⟩
def MapA (m : List (Int × AT)) (b : DBlock) (l : List AT) : Prop := ∀ x ∈ srcOf b, mget m x ((0, 0, ()), 0, ()) = pickA (srcOf b) l x
theorem okA_of {b : DBlock} {l : List AT} (h : AssignP b l) {sup : List Int} (hsup : ∀ x ∈ sup, x ∈ srcOf b) : OkA (pickA (srcOf b) l) sup := by
 intro x hx
 obtain ⟨p, hp, he⟩ := List.getElem_of_mem (hsup x hx)
 rw [pickA_at (srcOf_nodup b) hp (by rw [h.2.1]; exact hp) he]
 have h1 := h.2.2 _ (List.getElem_mem (show p < l.length by rw [h.2.1]; exact hp))
 unfold ActP FracP BtwP at h1
 omega
theorem supL_src {b : DBlock} {k : Nat} : ∀ x ∈ supL b k, x ∈ srcOf b := fun x hx => srcOf_mem.2 ((supL_sup b k).src x hx)
section
variable {N : Nat} (hN : 4000000 ≤ N) {b : DBlock} (hb : SmallB b)
include hN hb
theorem spec_l29Code {l : List AT} (hl : l.length < 4000000) (k : Int) (u : Unit) : F_spec_l29Code N (b, l, k, u) = some (codeA b l [k], ()) := by
 refine Ret.eq ?_
 unfold F_spec_l29Code codeA
 dsimp only
 refine Ret.call (spec_netCode hN hb k u) ?_
 dsimp only
 refine Ret.ifnd ?_ ?_ <;> intro hc
 ·rw [if_pos hc]; exact Ret.ret rfl
 rw [if_neg (not_not_intro hc)]
 refine Ret.call (spec_IsAssignment hN hb hl ()) ?_
 dsimp only
 refine Ret.ifnc ?_ ?_ <;> intro h
 ·rw [if_neg h]; exact Ret.ret rfl
 ·rw [if_pos h]; exact Ret.ret rfl
theorem impl_chancesOf {l : List AT} (hl : l.length < 4000000) {s : List Int} (hs : s.length < 4000000) (u : Unit) :
 Ret (F_impl_chancesOf N (b, l, s, u)) (fun r => r.2.1 = codeA b l s ∧ (codeA b l s = 0 → AssignP b l ∧ (∀ k ∈ s, InNets b k) ∧ ∃ gates ord m, r.1 = some (some (b, gates, ord), m, ()) ∧ (gates.length = b.2.1.2.1.length ∧ ∀ k (h : k < gates.length), gates[k] = gateOf b k) ∧ Topo b ord.1 ∧ MapA m b l)) := by
 unfold F_impl_chancesOf
 dsimp only
 refine Ret.bind (impl_logicOf' hN hb hs u) ?_
 rintro ⟨o, c, u1⟩ ⟨hc, h0⟩
 dsimp only at hc h0 ⊢
 subst hc
 refine Ret.ifnd ?_ ?_ <;> intro hc
 ·have e : codeA b l s = codeN b s := by unfold codeA; rw [if_pos hc]
  exact Ret.ret ⟨e.symm, fun h => absurd (e.symm.trans h) hc⟩
 obtain ⟨hB, hR, hk, gates, ord, rfl, hg, ht⟩ := h0 hc
 refine Ret.call (impl_isAssignment hN hb hB hR hg hl ()) ?_
 dsimp only
 refine Ret.ifnc ?_ ?_ <;> intro hA
 ·have e : codeA b l s = 5 := by unfold codeA; rw [if_neg (not_not_intro hc), if_neg hA]
  exact Ret.ret ⟨e.symm, fun h => by omega⟩
 have e : codeA b l s = 0 := codeA_zero.2 ⟨hc, hA⟩
 refine Ret.call (impl_logic_sources hN hb hB hg ()) ?_
 dsimp only
 have h30 := srcOf_len' hB
 have hll := hA.2.1
 refine Ret.up (srcOf b).length (fun j t => ∀ q (h : q < (srcOf b).length), q < j → mget t.1 (srcOf b)[q] ((0, 0, ()), 0, ()) = l[q]'(by omega)) (by omega) (by omega) (fun q _ h => absurd h (Nat.not_lt_zero q)) ?_ ?_
 ·rintro j ⟨m, u2⟩ next hj g hn
  dsimp only at g ⊢
  rw [Int.toNat_natCast]
  refine Ret.must (by omega) (Ret.guardI hj (Ret.get hj (Ret.atN (by omega) (hn _ fun q hq hqi => ?_))))
  dsimp only
  rw [mget_mset]
  by_cases e : q = j
  ·subst e; rw [if_pos rfl]
  ·rw [if_neg fun h => ?_]
   ·exact g q hq (by omega)
   ·rcases Nat.lt_or_gt_of_ne e with hlt | hgt
    ·exact List.pairwise_iff_getElem.1 (srcOf_nodup b) q j hq hj hlt h
    ·omega
 ·rintro ⟨m, u2⟩ next g
  dsimp only at g ⊢
  refine Ret.mustN (by omega) (Ret.ret ⟨e.symm, fun _ => ⟨hA, hk, gates, ord, m, rfl, hg, ht, fun x hx => ?_⟩⟩)
  obtain ⟨q, hq, hqe⟩ := List.getElem_of_mem hx
  rw [pickA_at (srcOf_nodup b) hq (by omega) hqe, ← hqe]
  exact g q hq hq
omit hb in
theorem impl_weight {lg : Option Dlogic} {m : List (Int × AT)} {A : Int → AT} {sup : List Int} (h8 : sup.length ≤ 8) (hm : ∀ x ∈ sup, mget m x ((0, 0, ()), 0, ()) = A x) (hA : OkA A sup) {i : Nat} (hi : i < 256) (skip : Int) (u v : Unit) :
 F_impl_chances_weight N (some (lg, m, v), sup, (i : Int), skip, u) = some (wtP A sup i skip sup.length, ()) := by
 refine Ret.eq ?_
 unfold F_impl_chances_weight
 dsimp only
 refine Ret.up sup.length (fun p t => t.1 = wtP A sup i skip p) (by omega) (by omega) rfl ?_ ?_
 ·rintro p ⟨n, u1⟩ next hp hI hn
  dsimp only at hI ⊢
  subst hI
  refine Ret.must (by omega) (Ret.atN hp ?_)
  refine Ret.call rfl ?_
  dsimp only
  rw [hm _ (List.getElem_mem hp)]
  have hw := wtP_bound hA i skip p (by omega)
  have hp8 := pow8 (show p ≤ 8 by omega)
  have ha := hA _ (List.getElem_mem hp)
  refine Ret.ifd ?_ ?_ <;> intro hs
  ·refine hn _ ?_
   conv => rhs; unfold wtP
   rw [if_pos hs]
  refine Ret.guard (by omega) ?_
  rw [and_bit hi (by omega)]
  have key : ∀ bit : Bool, decide (i / 2 ^ p % 2 = 1) = bit → IntKind.i64.wrap (wtP A sup i skip p * fac (A sup[p]) bit) = wtP A sup i skip (p + 1) := fun bit hbit => by
   have h2 := fac_bound hA hp bit
   have h3 := mul_bound hw h2
   rw [get0 hp] at h3
   rw [wrapI (by omega) (by omega)]
   conv => rhs; unfold wtP
   rw [if_neg hs, get0 hp, hbit]
  refine Ret.ifd ?_ ?_ <;> intro hbit
  ·exact hn _ (key true (by simp; omega))
  ·have h4 : IntKind.i64.wrap ((A sup[p]).1.2.1 - (A sup[p]).1.1) = (A sup[p]).1.2.1 - (A sup[p]).1.1 := wrapI (by omega) (by omega)
   rw [h4]
   exact hn _ (key false (by simp; omega))
 ·rintro ⟨n, u1⟩ next hI
  dsimp only at hI ⊢
  subst hI
  exact Ret.mustN (by omega) (Ret.ret rfl)
omit hb in
theorem impl_denominator {lg : Option Dlogic} {m : List (Int × AT)} {A : Int → AT} {sup : List Int} (h8 : sup.length ≤ 8) (hm : ∀ x ∈ sup, mget m x ((0, 0, ()), 0, ()) = A x) (hA : OkA A sup) (skip : Int) (u v : Unit) :
 F_impl_chances_denominator N (some (lg, m, v), sup, skip, u) = some (dnP A sup skip sup.length, ()) := by
 refine Ret.eq ?_
 unfold F_impl_chances_denominator
 dsimp only
 refine Ret.upM 0 sup.length (fun p (n : Int) (_ : Unit) => n = dnP A sup skip p) (by omega) (by omega) (by omega) rfl ?_ ?_
 ·rintro p n u1 next _ hp rfl hn
  dsimp only
  refine Ret.must (by omega) (Ret.atN hp ?_)
  have hw := dnP_bound hA skip p (by omega)
  have hp8 := pow8 (show p ≤ 8 by omega)
  have ha := hA _ (List.getElem_mem hp)
  have h3 := mul_bound (a := dnP A sup skip p) ⟨by omega, hw.2⟩ (show 0 ≤ (A sup[p]).1.2.1 ∧ (A sup[p]).1.2.1 ≤ 10 by omega)
  refine Ret.ifnd ?_ ?_ <;> intro hs
  ·refine Ret.call rfl ?_
   dsimp only
   rw [hm _ (List.getElem_mem hp), wrapI (by omega) (by omega)]
   refine hn _ _ ?_
   conv => rhs; unfold dnP
   rw [if_neg hs, get0 hp]
  ·refine hn _ _ ?_
   conv => rhs; unfold dnP
   rw [if_pos hs]
 ·rintro n u1 next rfl
  dsimp only
  exact Ret.mustN (by omega) (Ret.ret rfl)
end
noncomputable def probR (b : DBlock) (l : List AT) (k : Nat) : Int × Int × Unit :=
 redF (sumW (funL b (supL b k) k) (fun i => wtP (pickA (srcOf b) l) (supL b k) i (-1) (supL b k).length) (2 ^ (supL b k).length)) (dnP (pickA (srcOf b) l) (supL b k) (-1) (supL b k).length)
noncomputable def capF (r : Int × Int × Unit) : (Int × Int × Unit) × Int × Unit := if 1000000 < r.2.1 then ((0, 0, ()), 3, ()) else (r, 0, ())
noncomputable def probAns (b : DBlock) (l : List AT) (k : Int) : (Int × Int × Unit) × Int × Unit :=
 if codeA b l [k] ≠ 0 then ((0, 0, ()), codeA b l [k], ()) else if 8 < (supL b k.toNat).length then ((0, 0, ()), 3, ()) else capF (probR b l k.toNat)
section
variable {N : Nat} (hM : 1000000000000 ≤ N) {b : DBlock} (hb : SmallB b)
include hM hb
theorem spec_ProbabilityOf {l : List AT} (hl : l.length < 4000000) (k : Int) (u : Unit) : F_spec_ProbabilityOf N (b, l, k, u) = some (probAns b l k) := by
 have hN : 4000000 ≤ N := by omega
 refine Ret.eq ?_
 unfold F_spec_ProbabilityOf probAns
 refine Ret.call (spec_l29Code hN hb hl k u) ?_
 dsimp only
 refine Ret.ifnd ?_ ?_ <;> intro hc
 ·rw [if_pos hc]; exact Ret.ret rfl
 rw [if_neg (not_not_intro hc)]
 obtain ⟨hc1, hA⟩ := codeA_zero.1 hc
 obtain ⟨hB, hR, hk⟩ := codeN_zero.1 hc1
 obtain ⟨hke, hkn⟩ := inNets_nat (hk k (by simp))
 obtain ⟨rank, hr⟩ := ranked_bd hN hb hB hR
 have hsup := spec_l28Support hN hb hB hr hkn u
 rw [← hke] at hsup
 refine Ret.call hsup ?_
 dsimp only
 refine Ret.ifd ?_ ?_ <;> intro h8
 ·rw [if_pos (by omega)]; exact Ret.ret rfl
 rw [if_neg (by omega)]
 have h8' : (supL b k.toNat).length ≤ 8 := by omega
 have hf := spec_l28Function hN hb hB hr (supL_sup b k.toNat) h8' hkn (fun s hs => supL_mem.2 ⟨s, (reach_rank hB.1 hr.down hs.2 hkn).1, hs, rfl⟩) ()
 rw [← hke] at hf
 refine Ret.call hf ?_
 have hok := okA_of hA (sup := supL b k.toNat) supL_src
 have hbits := funL_bits hB hr (supL b k.toNat) hkn
 have hfl := funL_len b (supL b k.toNat) k.toNat
 have hp8 : 2 ^ (supL b k.toNat).length ≤ 2 ^ 8 := Nat.pow_le_pow_right (by omega) h8'
 refine Ret.call (spec_l29Sum hN hb hB hA.2.1 h8' supL_src hok hbits (by omega) ()) ?_
 refine Ret.call (spec_l29Product hN hb hB hA.2.1 h8' supL_src hok ()) ?_
 dsimp only
 rw [hfl]
 have hwb : ∀ i, 0 ≤ wtP (pickA (srcOf b) l) (supL b k.toNat) i (-1) (supL b k.toNat).length ∧ wtP (pickA (srcOf b) l) (supL b k.toNat) i (-1) (supL b k.toNat).length ≤ 100000000 := fun i => by
  have := wtP_bound hok i (-1) _ (Nat.le_refl _)
  have := pow8 h8'
  omega
 have hs := sumW_bound hbits (by omega) hwb (2 ^ (supL b k.toNat).length)
 have hd := dnP_bound hok (-1) _ (Nat.le_refl _)
 have hd8 := pow8 h8'
 refine Ret.call (spec_reduce hM (by omega) (by omega) ()) ?_
 show Ret (cond (!(if 1000000 < (probR b l k.toNat).2.1 then _ else _ : (Int × Int × Unit) × Bool × Unit).2.1) _ (some ((if 1000000 < (probR b l k.toNat).2.1 then _ else _ : (Int × Int × Unit) × Bool × Unit).1, 0, ()))) _
 unfold capF
 by_cases h : 1000000 < (probR b l k.toNat).2.1
 ·rw [if_pos h, if_pos h]; exact Ret.ret rfl
 ·rw [if_neg h, if_neg h]; exact Ret.ret rfl
theorem impl_ProbabilityOf {l : List AT} (hl : l.length < 4000000) (k : Int) (u : Unit) : F_impl_ProbabilityOf N (b, l, k, u) = some (probAns b l k) := by
 have hN : 4000000 ≤ N := by omega
 refine Ret.eq ?_
 unfold F_impl_ProbabilityOf probAns
 dsimp only
 refine Ret.bind (impl_chancesOf hN hb hl (s := [k]) (by simp) ()) ?_
 rintro ⟨o, c, u1⟩ ⟨hc, h0⟩
 dsimp only at hc h0 ⊢
 subst hc
 refine Ret.ifnd ?_ ?_ <;> intro hc
 ·rw [if_pos hc]; exact Ret.ret rfl
 rw [if_neg (not_not_intro hc)]
 obtain ⟨hA, hk, gates, ord, m, rfl, hg, ht, hm⟩ := h0 hc
 obtain ⟨⟨hB, hR⟩, hll, _⟩ := id hA
 obtain ⟨hke, hkn⟩ := inNets_nat (hk k (by simp))
 have hr := ht.rankP hB.1 (block_small hB).2
 refine Ret.call rfl ?_
 have hf := impl_function hN hB hr hg ht hkn u
 rw [← hke] at hf
 refine Ret.call hf ?_
 by_cases h8 : 8 < (supL b k.toNat).length
 ·rw [if_pos h8, if_pos h8]; exact Ret.ret rfl
 rw [if_neg h8, if_neg h8]
 dsimp only
 simp only [Bool.not_true, cond_false]
 have h8' : (supL b k.toNat).length ≤ 8 := by omega
 have hok := okA_of hA (sup := supL b k.toNat) supL_src
 have hmk : ∀ x ∈ supL b k.toNat, mget m x ((0, 0, ()), 0, ()) = pickA (srcOf b) l x := fun x hx => hm x (supL_src x hx)
 have hbits := funL_bits hB hr (supL b k.toNat) hkn
 have hfl := funL_len b (supL b k.toNat) k.toNat
 have hp8 : 2 ^ (supL b k.toNat).length ≤ 2 ^ 8 := Nat.pow_le_pow_right (by omega) h8'
 have hwb : ∀ i, 0 ≤ wtP (pickA (srcOf b) l) (supL b k.toNat) i (-1) (supL b k.toNat).length ∧ wtP (pickA (srcOf b) l) (supL b k.toNat) i (-1) (supL b k.toNat).length ≤ 100000000 := fun i => by
  have := wtP_bound hok i (-1) _ (Nat.le_refl _)
  have := pow8 h8'
  omega
 refine Ret.upM 0 (2 ^ (supL b k.toNat).length) (fun i (n : Int) (_ : Unit) => n = sumW (funL b (supL b k.toNat) k.toNat) (fun i => wtP (pickA (srcOf b) l) (supL b k.toNat) i (-1) (supL b k.toNat).length) i) (by omega) (by omega) (by omega) rfl ?_ ?_
 ·rintro i n u2 next _ hi rfl hn
  dsimp only
  rw [Int.toNat_natCast]
  have hif : i < (funL b (supL b k.toNat) k.toNat).length := by omega
  refine Ret.must (by omega) (Ret.guardI hif (Ret.get hif ?_))
  refine Ret.call (impl_weight hN h8' hmk hok (by omega) (-1) () ()) ?_
  dsimp only
  have hs := sumW_bound hbits (by omega) hwb i
  have h1 := hwb i
  have hfi := hbits _ (List.getElem_mem hif)
  have e : (funL b (supL b k.toNat) k.toNat)[i]?.getD 0 = (funL b (supL b k.toNat) k.toNat)[i] := get0 hif
  have hmul : 0 ≤ (funL b (supL b k.toNat) k.toNat)[i] * wtP (pickA (srcOf b) l) (supL b k.toNat) i (-1) (supL b k.toNat).length ∧ (funL b (supL b k.toNat) k.toNat)[i] * wtP (pickA (srcOf b) l) (supL b k.toNat) i (-1) (supL b k.toNat).length ≤ 100000000 := by
   rcases hfi with h | h <;> rw [h] <;> omega
  rw [wrapI (n := _ * _) (by omega) (by omega), wrapI (by omega) (by omega)]
  refine hn _ _ ?_
  conv => rhs; unfold sumW
  rw [e]
 ·rintro n u2 next rfl
  dsimp only
  refine Ret.mustN (by omega) ?_
  refine Ret.call (impl_denominator hN h8' hmk hok (-1) () ()) ?_
  have hs := sumW_bound hbits (by omega) hwb (2 ^ (supL b k.toNat).length)
  have hd := dnP_bound hok (-1) _ (Nat.le_refl _)
  have hd8 := pow8 h8'
  refine Ret.call (impl_reduced hM (by omega) (by omega) ()) ?_
  show Ret (cond (decide (1000000 < (probR b l k.toNat).2.1)) _ (some (probR b l k.toNat, 0, ()))) _
  unfold capF
  refine Ret.ifd ?_ ?_ <;> intro h
  ·rw [if_pos h]; exact Ret.ret rfl
  ·rw [if_neg h]; exact Ret.ret rfl
end
end Go.Proofs.YtdbmhfpphobmpaaGreatDoor
namespace Go.Proofs.YtdbmhfpphobmpaaGreatDoor
set_option linter.unusedSimpArgs false
set_option linter.unusedVariables false
set_option linter.unusedSectionVars false
set_option maxHeartbeats 1000000
def sumF (g : Nat → Int) : Nat → Int
 | 0 => 0
 | n + 1 => sumF g n + g n
theorem sumF_congr {g h : Nat → Int} : ∀ n, (∀ i, i < n → g i = h i) → sumF g n = sumF h n
 | 0, _ => rfl
 | n + 1, e => by unfold sumF; rw [sumF_congr n fun i hi => e i (by omega), e n (by omega)]
theorem sumF_split (g : Nat → Int) (m : Nat) : ∀ n, sumF g (m + n) = sumF g m + sumF (fun j => g (m + j)) n
 | 0 => by simp [sumF]
 | n + 1 => by
  rw [show m + (n + 1) = (m + n) + 1 by omega]
  simp only [sumF]
  rw [sumF_split g m n]
  omega
theorem sumF_plus (g h : Nat → Int) : ∀ n, sumF (fun i => g i + h i) n = sumF g n + sumF h n
 | 0 => rfl
 | n + 1 => by simp only [sumF]; rw [sumF_plus g h n]; omega
theorem sumF_zero : ∀ n, sumF (fun _ => 0) n = 0
 | 0 => rfl
 | n + 1 => by simp only [sumF]; rw [sumF_zero n]; rfl
theorem sumF_mul (d : Int) (g : Nat → Int) : ∀ n, sumF (fun i => d * g i) n = d * sumF g n
 | 0 => by simp [sumF]
 | n + 1 => by simp only [sumF]; rw [sumF_mul d g n, Int.mul_add]
theorem sumF_pair (g : Nat → Int) {B : Nat} (hB : 0 < B) : ∀ K, sumF g (K * (B + B)) = sumF (fun i => if i / B % 2 = 0 then g i + g (i + B) else 0) (K * (B + B))
 | 0 => by simp [sumF]
 | K + 1 => by
  have e : (K + 1) * (B + B) = K * (B + B) + (B + B) := by rw [Nat.add_mul, Nat.one_mul]
  rw [e, sumF_split, sumF_split _ (K * (B + B)), sumF_pair g hB K]
  congr 1
  rw [sumF_split, sumF_split _ B]
  have em : K * (B + B) = (2 * K) * B := by rw [Nat.mul_add, Nat.mul_comm 2 K, Nat.mul_assoc, Nat.two_mul, Nat.mul_add]
  have d1 : ∀ j, j < B → (K * (B + B) + j) / B = 2 * K := fun j hj => by
   rw [em, Nat.add_comm, Nat.add_mul_div_right _ _ hB, Nat.div_eq_of_lt hj]; omega
  have d2 : ∀ j, j < B → (K * (B + B) + (B + j)) / B = 2 * K + 1 := fun j hj => by
   rw [show K * (B + B) + (B + j) = K * (B + B) + j + B by omega, Nat.add_div_right _ hB, d1 j hj]
  rw [sumF_congr (g := fun j => (fun i => if i / B % 2 = 0 then g i + g (i + B) else 0) (K * (B + B) + j)) (h := fun j => g (K * (B + B) + j) + g (K * (B + B) + j + B)) B fun j hj => by
   show (if (K * (B + B) + j) / B % 2 = 0 then _ else _) = _
   rw [d1 j hj, if_pos (by omega)]]
  rw [sumF_congr (g := fun j => (fun j => (fun i => if i / B % 2 = 0 then g i + g (i + B) else 0) (K * (B + B) + j)) (B + j)) (h := fun _ => 0) B fun j hj => by
   show (if (K * (B + B) + (B + j)) / B % 2 = 0 then _ else _) = _
   rw [d2 j hj, if_neg (by omega)]]
  rw [sumF_zero, sumF_plus, Int.add_zero]
  congr 1
  refine sumF_congr B fun j _ => ?_
  show g (K * (B + B) + (B + j)) = _
  congr 1; omega
theorem sumW_F (f : List Int) (w : Nat → Int) : ∀ n, sumW f w n = sumF (fun i => f[i]?.getD 0 * w i) n
 | 0 => rfl
 | n + 1 => by unfold sumW sumF; rw [sumW_F f w n]
noncomputable def chgL (f : List Int) (p : Nat) : List Int := (List.range f.length).map fun i => if f[i]?.getD 0 = f[flip p i]?.getD 0 then 0 else 1
theorem chgL_len (f : List Int) (p : Nat) : (chgL f p).length = f.length := by simp [chgL]
theorem chgL_bits (f : List Int) (p : Nat) : Bits01 (chgL f p) := by
 intro v hv
 obtain ⟨i, _, rfl⟩ := List.mem_map.1 hv
 split
 ·exact .inl rfl
 ·exact .inr rfl
theorem chgL_at {f : List Int} {p i : Nat} (h : i < f.length) : (chgL f p)[i]?.getD 0 = if f[i]?.getD 0 = f[flip p i]?.getD 0 then 0 else 1 := by
 unfold chgL
 rw [List.getElem?_map, List.getElem?_range h]
 rfl
def sensT (f : List Int) (p : Nat) (w : Nat → Int) (i : Nat) : Int := if i / 2 ^ p % 2 = 0 then (if f[i]?.getD 0 = f[i + 2 ^ p]?.getD 0 then 0 else w i) else 0
theorem flip_add {p i : Nat} (h : i / 2 ^ p % 2 = 0) : flip p i = i + 2 ^ p := by unfold flip; rw [if_pos h]
theorem flip_sub {p i : Nat} (h : i / 2 ^ p % 2 = 0) : flip p (i + 2 ^ p) = i := by
 unfold flip
 rw [if_neg (by rw [half_add h]; decide)]
 omega
theorem sens_eq {f : List Int} {n p : Nat} (hf : f.length = 2 ^ n) (hp : p < n) {w w' : Nat → Int} {d : Int} (hw : ∀ i, i / 2 ^ p % 2 = 0 → w i + w (i + 2 ^ p) = d * w' i) :
 sumW (chgL f p) w (2 ^ n) = d * sumF (sensT f p w') (2 ^ n) := by
 obtain ⟨m, rfl⟩ : ∃ m, n = m + (p + 1) := ⟨n - (p + 1), by omega⟩
 have e : 2 ^ (m + (p + 1)) = 2 ^ m * (2 ^ p + 2 ^ p) := by rw [Nat.pow_add, Nat.pow_succ, Nat.mul_two]
 rw [sumW_F]
 conv => lhs; rw [e, sumF_pair _ (Nat.two_pow_pos p), ← e]
 rw [← sumF_mul]
 refine sumF_congr _ fun i hi => ?_
 unfold sensT
 by_cases h0 : i / 2 ^ p % 2 = 0
 ·rw [if_pos h0, if_pos h0]
  have hfl := flip_lt (n := m + (p + 1)) (p := p) (i := i) (by omega) hi
  rw [flip_add h0] at hfl
  rw [chgL_at (by omega), chgL_at (by omega), flip_add h0, flip_sub h0]
  by_cases h : f[i]?.getD 0 = f[i + 2 ^ p]?.getD 0
  ·rw [if_pos h, if_pos h.symm, if_pos h]; simp
  ·rw [if_neg h, if_neg (Ne.symm h), if_neg h, Int.one_mul, Int.one_mul, hw i h0]
 ·rw [if_neg h0, if_neg h0, Int.mul_zero]
theorem bit_other {i p q : Nat} (h : i / 2 ^ p % 2 = 0) (hne : q ≠ p) : (i + 2 ^ p) / 2 ^ q % 2 = i / 2 ^ q % 2 := by
 rcases Nat.lt_or_gt_of_ne hne with hlt | hgt
 ·obtain ⟨r, rfl⟩ : ∃ r, p = q + (r + 1) := ⟨p - q - 1, by omega⟩
  rw [Nat.pow_add 2 q, Nat.add_mul_div_left _ _ (Nat.two_pow_pos q), Nat.pow_succ]
  omega
 ·obtain ⟨r, rfl⟩ : ∃ r, q = p + (r + 1) := ⟨q - p - 1, by omega⟩
  rw [Nat.pow_add 2 p, Nat.pow_succ, Nat.mul_comm (2 ^ r) 2, ← Nat.div_div_eq_div_mul, ← Nat.div_div_eq_div_mul, ← Nat.div_div_eq_div_mul, ← Nat.div_div_eq_div_mul, Nat.add_div_right _ (Nat.two_pow_pos p)]
  congr 2
  omega
def denA (A : Int → AT) (sup : List Int) (p : Nat) : Int := (A (sup[p]?.getD 0)).1.2.1
theorem wt_pair (A : Int → AT) (sup : List Int) {i p : Nat} (h : i / 2 ^ p % 2 = 0) : ∀ q, (q ≤ p → wtP A sup i (-1) q = wtP A sup i p q ∧ wtP A sup (i + 2 ^ p) (-1) q = wtP A sup i p q) ∧
 (p < q → wtP A sup i (-1) q + wtP A sup (i + 2 ^ p) (-1) q = denA A sup p * wtP A sup i p q)
 | 0 => ⟨fun _ => ⟨rfl, rfl⟩, fun h => absurd h (Nat.not_lt_zero _)⟩
 | q + 1 => by
  obtain ⟨h1, h2⟩ := wt_pair A sup h q
  have hne : ¬ ((q : Int) = -1) := by omega
  refine ⟨fun hq => ?_, fun hq => ?_⟩
  ·obtain ⟨e1, e2⟩ := h1 (by omega)
   unfold wtP
   rw [if_neg hne, if_neg (show ¬ ((q : Int) = (p : Int)) by omega), if_neg hne, bit_other h (by omega), e1, e2]
   exact ⟨rfl, rfl⟩
  ·by_cases e : q = p
   ·subst e
    obtain ⟨e1, e2⟩ := h1 (Nat.le_refl _)
    unfold wtP
    rw [if_neg hne, if_pos rfl, if_neg hne, half_add h, h, e1, e2]
    unfold fac denA
    simp only [decide_true, decide_false, if_true, show ¬ (0 = 1) by decide]
    generalize wtP A sup i (q : Int) q = W
    generalize (A (sup[q]?.getD 0)).1.2.1 = D
    generalize (A (sup[q]?.getD 0)).1.1 = n
    have e3 : W * (D - n) = W * D - W * n := Int.mul_sub _ _ _
    have e4 : W * D = D * W := Int.mul_comm _ _
    simp only [Bool.false_eq_true, if_false]
    omega
   ·have e3 := h2 (by omega)
    unfold wtP
    rw [if_neg hne, if_neg (show ¬ ((q : Int) = (p : Int)) by omega), if_neg hne, bit_other h (by omega), ← Int.add_mul, e3, Int.mul_assoc]
theorem dn_pair (A : Int → AT) (sup : List Int) (p : Nat) : ∀ q, (q ≤ p → dnP A sup (-1) q = dnP A sup p q) ∧ (p < q → dnP A sup (-1) q = denA A sup p * dnP A sup p q)
 | 0 => ⟨fun _ => rfl, fun h => absurd h (Nat.not_lt_zero _)⟩
 | q + 1 => by
  obtain ⟨h1, h2⟩ := dn_pair A sup p q
  have hne : ¬ ((q : Int) = -1) := by omega
  refine ⟨fun hq => ?_, fun hq => ?_⟩
  ·unfold dnP
   rw [if_neg hne, if_neg (show ¬ ((q : Int) = (p : Int)) by omega), h1 (by omega)]
  ·by_cases e : q = p
   ·subst e
    unfold dnP
    rw [if_neg hne, if_pos rfl, h1 (Nat.le_refl _), Int.mul_comm]
    rfl
   ·unfold dnP
    rw [if_neg hne, if_neg (show ¬ ((q : Int) = (p : Int)) by omega), h2 (by omega), Int.mul_assoc]
theorem sumF_bound {g : Nat → Int} {m : Int} (hg : ∀ i, 0 ≤ g i ∧ g i ≤ m) : ∀ n, 0 ≤ sumF g n ∧ sumF g n ≤ (n : Int) * m
 | 0 => by simp [sumF]
 | n + 1 => by
  have h1 := sumF_bound hg n
  have h2 := hg n
  have e : ((n + 1 : Nat) : Int) * m = (n : Int) * m + m := by rw [Int.natCast_add, Int.add_mul]; simp
  rw [e]
  unfold sumF
  omega
theorem sensT_bound (f : List Int) (p : Nat) {w : Nat → Int} {m : Int} (hm : 0 ≤ m) (hw : ∀ i, 0 ≤ w i ∧ w i ≤ m) (i : Nat) : 0 ≤ sensT f p w i ∧ sensT f p w i ≤ m := by
 have := hw i
 unfold sensT
 split
 ·split <;> omega
 ·omega
theorem or_bitP {i p : Nat} (hi : i < 256) (hp : p < 8) (h0 : i / 2 ^ p % 2 = 0) : bits .or .i64 (i : Int) ((2 ^ p : Nat) : Int) = ((i + 2 ^ p : Nat) : Int) := by
 have key : (List.range 8).all (fun p => (List.range 256).all fun i => !decide (i / 2 ^ p % 2 = 0) || decide (bits .or .i64 (i : Int) ((2 ^ p : Nat) : Int) = ((i + 2 ^ p : Nat) : Int))) = true := by decide +kernel
 have h1 := List.all_eq_true.1 key p (List.mem_range.2 hp)
 have h2 := List.all_eq_true.1 h1 i (List.mem_range.2 hi)
 rw [Bool.or_eq_true] at h2
 rcases h2 with h2 | h2
 ·simp [h0] at h2
 ·exact of_decide_eq_true h2
theorem redF_mulI {s e d : Int} (hs : 0 ≤ s) (he : 0 ≤ e) (hd : 1 ≤ d) : redF (d * s) (d * e) = redF s e := by
 obtain ⟨a, rfl⟩ : ∃ a : Nat, s = a := ⟨s.toNat, by omega⟩
 obtain ⟨c, rfl⟩ : ∃ c : Nat, e = c := ⟨e.toNat, by omega⟩
 obtain ⟨g, rfl⟩ : ∃ g : Nat, d = g := ⟨d.toNat, by omega⟩
 have := redF_mul (n := a) (m := c) (d := g) (by omega)
 rw [← this]
 congr 1
 ·rw [Int.natCast_mul, Int.mul_comm]
 ·rw [Int.natCast_mul, Int.mul_comm]
section
variable {N : Nat} (hN : 4000000 ≤ N)
include hN
theorem spec_l28Bit {p : Nat} (hp : p ≤ 8) (u : Unit) : F_spec_l28Bit N ((p : Int), u) = some (((2 ^ p : Nat) : Int), ()) := by
 unfold F_spec_l28Bit
 rw [spec_l28Size hN (by omega)]
 simp [obind]
theorem spec_l29Change {f : List Int} {n p : Nat} (hf : f.length = 2 ^ n) (hn : n ≤ 8) (hp : p < n) (u : Unit) : F_spec_l29Change N (f, ((2 ^ p : Nat) : Int), u) = some (chgL f p, ()) := by
 have hp8 : 2 ^ n ≤ 2 ^ 8 := Nat.pow_le_pow_right (by omega) hn
 have hpp : 0 < 2 ^ p := Nat.two_pow_pos p
 have hpe : 2 ^ p ≤ 2 ^ 8 := Nat.pow_le_pow_right (by omega) (by omega)
 refine Ret.eq ?_
 unfold F_spec_l29Change
 dsimp only
 refine Ret.up f.length (fun i s => s.1 = (List.range i).map fun i => if f[i]?.getD 0 = f[flip p i]?.getD 0 then (0 : Int) else 1) (by omega) (by omega) rfl ?_ ?_
 ·rintro i ⟨l, u1⟩ next hi h1 hn2
  dsimp only at h1 ⊢
  subst h1
  refine Ret.must (by omega) (Ret.guardN (by omega) ?_)
  have hq : ((i : Int).tdiv ((2 ^ p : Nat) : Int)) = ((i / 2 ^ p : Nat) : Int) := rfl
  have hle : i / 2 ^ p ≤ i := Nat.div_le_self _ _
  have hw : IntKind.i64.wrap ((i : Int).tdiv ((2 ^ p : Nat) : Int)) = ((i / 2 ^ p : Nat) : Int) := by
   rw [hq]
   generalize i / 2 ^ p = q at *
   exact wrapI (by omega) (by omega)
  rw [hw]
  have hm : (((i / 2 ^ p : Nat) : Int).tmod 2) = ((i / 2 ^ p % 2 : Nat) : Int) := rfl
  rw [hm]
  have hfl := flip_lt (n := n) (p := p) (i := i) hp (by omega)
  have key : ∀ v : Int, v = (if f[i]?.getD 0 = f[flip p i]?.getD 0 then 0 else 1) → (List.range i).map (fun i => if f[i]?.getD 0 = f[flip p i]?.getD 0 then (0 : Int) else 1) ++ [v] = (List.range (i + 1)).map fun i => if f[i]?.getD 0 = f[flip p i]?.getD 0 then (0 : Int) else 1 := fun v hv => by
   rw [List.range_succ, List.map_append, hv]; rfl
  have hlen : ∀ v : Int, ((List.range i).map (fun i => if f[i]?.getD 0 = f[flip p i]?.getD 0 then (0 : Int) else 1) ++ [v]).length ≤ lim := fun v => by
   simp only [List.length_append, List.length_map, List.length_range, List.length_singleton]; unfold lim; omega
  have hfin : ∀ (j : Nat) (hj : j < f.length), flip p i = j → Ret (bif (!decide (f[i] = f[j])) then
   (bif decide ((((List.range i).map fun i => if f[i]?.getD 0 = f[flip p i]?.getD 0 then (0 : Int) else 1) ++ [(1 : Int)]).length ≤ lim) then next ((IntKind.i64.wrap ((i : Int) + (1 : Int))), ((((List.range i).map fun i => if f[i]?.getD 0 = f[flip p i]?.getD 0 then (0 : Int) else 1) ++ [(1 : Int)]), ())) else none)
   else (bif decide ((((List.range i).map fun i => if f[i]?.getD 0 = f[flip p i]?.getD 0 then (0 : Int) else 1) ++ [(0 : Int)]).length ≤ lim) then next ((IntKind.i64.wrap ((i : Int) + (1 : Int))), ((((List.range i).map fun i => if f[i]?.getD 0 = f[flip p i]?.getD 0 then (0 : Int) else 1) ++ [(0 : Int)]), ())) else none)) (fun r => r = (chgL f p, ())) := fun j hj he => by
   refine Ret.ifnd ?_ ?_ <;> intro hv
   ·refine Ret.guard (hlen 1) (hn2 _ (key 1 ?_))
    rw [he, get0 hi, get0 hj, if_neg hv]
   ·refine Ret.guard (hlen 0) (hn2 _ (key 0 ?_))
    rw [he, get0 hi, get0 hj, if_pos hv]
  refine Ret.ifd ?_ ?_ <;> intro h0
  ·have h0' : ¬ i / 2 ^ p % 2 = 0 := by omega
   obtain ⟨hge, _⟩ := half_bit h0'
   have hw2 : IntKind.i64.wrap ((i : Int) - ((2 ^ p : Nat) : Int)) = ((i - 2 ^ p : Nat) : Int) := by
    obtain ⟨q, hq⟩ : ∃ q, q = 2 ^ p := ⟨_, rfl⟩
    rw [← hq] at hge hpe ⊢
    rw [wrapI (by omega) (by omega)]
    omega
   rw [hw2]
   refine Ret.atN hi (Ret.atN (by omega) (hfin (i - 2 ^ p) (by omega) ?_))
   unfold flip
   rw [if_neg h0']
  ·have h0' : i / 2 ^ p % 2 = 0 := by omega
   rw [flip_add h0'] at hfl
   have hw2 : IntKind.i64.wrap ((i : Int) + ((2 ^ p : Nat) : Int)) = ((i + 2 ^ p : Nat) : Int) := by
    obtain ⟨q, hq⟩ : ∃ q, q = 2 ^ p := ⟨_, rfl⟩
    rw [← hq]
    exact wrapI (by omega) (by omega)
   rw [hw2]
   exact Ret.atN hi (Ret.atN (by omega) (hfin (i + 2 ^ p) (by omega) (flip_add h0')))
 ·rintro ⟨l, u1⟩ next h1
  dsimp only at h1 ⊢
  subst h1
  exact Ret.mustN (by omega) (Ret.ret rfl)
theorem impl_sensitivity {lg : Option Dlogic} {m : List (Int × AT)} {A : Int → AT} {sup f : List Int} (h8 : sup.length ≤ 8) (hm : ∀ x ∈ sup, mget m x ((0, 0, ()), 0, ()) = A x) (hA : OkA A sup) (hf : f.length = 2 ^ sup.length) {p : Nat} (hp : p < sup.length) (u v : Unit) :
 F_impl_chances_sensitivity N (some (lg, m, v), f, sup, (p : Int), u) = some (sumF (sensT f p (fun i => wtP A sup i p sup.length)) (2 ^ sup.length), ()) := by
 have hp8 : 2 ^ sup.length ≤ 2 ^ 8 := Nat.pow_le_pow_right (by omega) h8
 refine Ret.eq ?_
 unfold F_impl_chances_sensitivity
 dsimp only
 have hwb : ∀ i, 0 ≤ wtP A sup i p sup.length ∧ wtP A sup i p sup.length ≤ 100000000 := fun i => by
  have := wtP_bound hA i p _ (Nat.le_refl _)
  have := pow8 h8
  omega
 refine Ret.upM 0 f.length (fun i (n : Int) (_ : Unit) => n = sumF (sensT f p (fun i => wtP A sup i p sup.length)) i) (by omega) (by omega) (by omega) rfl ?_ ?_
 ·rintro i n u1 next _ hi rfl hn
  dsimp only
  refine Ret.must (by omega) (Ret.atN hi (Ret.guard (by omega) ?_))
  rw [and_bit (by omega) (by omega)]
  have hs := sumF_bound (sensT_bound f p (by omega) hwb) i
  have h1 := hwb i
  have hno : sensT f p (fun i => wtP A sup i p sup.length) i = 0 → sumF (sensT f p (fun i => wtP A sup i p sup.length)) i = sumF (sensT f p (fun i => wtP A sup i p sup.length)) (i + 1) := fun h => by
   conv => rhs; unfold sumF
   rw [h, Int.add_zero]
  refine Ret.ifd ?_ ?_ <;> intro h0
  ·have h0' : i / 2 ^ p % 2 = 0 := by omega
   have hfl := flip_lt (n := sup.length) (p := p) (i := i) hp (by omega)
   rw [flip_add h0'] at hfl
   refine Ret.guard (by omega) ?_
   have hsh := shl_one (p := p) (by omega)
   first
   | rw [hsh, or_bitP (by omega) (by omega) h0']
   | rw [shl_one' (by omega), or_bitP (by omega) (by omega) h0']
   | rw [or_bitP (by omega) (by omega) h0']
   refine Ret.atN (by omega) ?_
   refine Ret.ifnd ?_ ?_ <;> intro he
   ·refine Ret.call (impl_weight hN h8 hm hA (by omega) (p : Int) () v) ?_
    dsimp only
    rw [wrapI (by omega) (by omega)]
    refine hn _ _ ?_
    conv => rhs; unfold sumF
    unfold sensT
    rw [if_pos h0', get0 hi, get0 (show i + 2 ^ p < f.length by omega), if_neg he]
   ·refine hn _ _ (hno ?_)
    unfold sensT
    rw [if_pos h0', get0 hi, get0 (show i + 2 ^ p < f.length by omega), if_pos he]
  ·refine hn _ _ (hno ?_)
   unfold sensT
   rw [if_neg (by omega)]
 ·rintro n u1 next rfl
  dsimp only
  rw [hf]
  exact Ret.mustN (by omega) (Ret.ret rfl)
end
noncomputable def sensN (b : DBlock) (l : List AT) (k p : Nat) : Int := sumF (sensT (funL b (supL b k) k) p (fun i => wtP (pickA (srcOf b) l) (supL b k) i p (supL b k).length)) (2 ^ (supL b k).length)
noncomputable def sensAns (b : DBlock) (l : List AT) (k s : Int) : (Int × Int × Unit) × Int × Unit :=
 if codeA b l [k, s] ≠ 0 then ((0, 0, ()), codeA b l [k, s], ()) else if 8 < (supL b k.toNat).length then ((0, 0, ()), 3, ()) else
  if fidx (fun x => x = s) (supL b k.toNat) < 0 then ((0, 1, ()), 0, ()) else
   capF (redF (sensN b l k.toNat (fidx (fun x => x = s) (supL b k.toNat)).toNat) (dnP (pickA (srcOf b) l) (supL b k.toNat) (fidx (fun x => x = s) (supL b k.toNat)).toNat (supL b k.toNat).length))
section
variable {N : Nat} (hM : 1000000000000 ≤ N) {b : DBlock} (hb : SmallB b)
include hM hb
theorem spec_sum (hB : BlockP b) {rank : Nat → Nat} (hr : RankP b rank) {l : List AT} (hA : AssignP b l) {k : Nat} (hk : k < b.2.1.2.1.length) (h8 : (supL b k).length ≤ 8) {p : Nat} (hp : p < (supL b k).length) (u : Unit) :
 F_spec_l29Sum N (b, l, supL b k, chgL (funL b (supL b k) k) p, u) = some (denA (pickA (srcOf b) l) (supL b k) p * sensN b l k p, ()) ∧ 0 ≤ denA (pickA (srcOf b) l) (supL b k) p * sensN b l k p ∧ denA (pickA (srcOf b) l) (supL b k) p * sensN b l k p ≤ 25600000000 ∧ 1 ≤ denA (pickA (srcOf b) l) (supL b k) p ∧ denA (pickA (srcOf b) l) (supL b k) p ≤ 10 ∧ 0 ≤ sensN b l k p ∧ sensN b l k p ≤ 25600000000 := by
 have hN : 4000000 ≤ N := by omega
 have hok := okA_of hA (sup := supL b k) supL_src
 have hfl := funL_len b (supL b k) k
 have hp8 : 2 ^ (supL b k).length ≤ 2 ^ 8 := Nat.pow_le_pow_right (by omega) h8
 have hcl := chgL_len (funL b (supL b k) k) p
 have h1 := spec_l29Sum hN hb hB hA.2.1 h8 supL_src hok (chgL_bits (funL b (supL b k) k) p) (by omega) u
 rw [hcl, hfl] at h1
 have h2 := sens_eq (w := fun i => wtP (pickA (srcOf b) l) (supL b k) i (-1) (supL b k).length) (w' := fun i => wtP (pickA (srcOf b) l) (supL b k) i p (supL b k).length) hfl hp fun i hi => (wt_pair (pickA (srcOf b) l) (supL b k) hi (supL b k).length).2 hp
 rw [h2] at h1
 have hwb : ∀ (skip : Int) i, 0 ≤ wtP (pickA (srcOf b) l) (supL b k) i skip (supL b k).length ∧ wtP (pickA (srcOf b) l) (supL b k) i skip (supL b k).length ≤ 100000000 := fun skip i => by
  have := wtP_bound hok i skip _ (Nat.le_refl _)
  have := pow8 h8
  omega
 have h3 := sumW_bound (chgL_bits (funL b (supL b k) k) p) (by omega) (hwb (-1)) (2 ^ (supL b k).length)
 rw [h2] at h3
 have h4 := sumF_bound (sensT_bound (funL b (supL b k) k) p (by omega) (hwb p)) (2 ^ (supL b k).length)
 have hd := hok _ (List.getElem_mem hp)
 have hde : denA (pickA (srcOf b) l) (supL b k) p = (pickA (srcOf b) l (supL b k)[p]).1.2.1 := by unfold denA; rw [get0 hp]
 refine ⟨h1, ?_⟩
 rw [hcl, hfl] at *
 have hn : ((2 ^ (supL b k).length : Nat) : Int) ≤ 256 := by omega
 unfold sensN
 rw [← hde] at hd
 refine ⟨h3.1, Int.le_trans h3.2 ?_, by omega, by omega, h4.1, Int.le_trans h4.2 ?_⟩ <;> omega
theorem spec_SensitivityOf {l : List AT} (hl : l.length < 4000000) (k s : Int) (u : Unit) : F_spec_SensitivityOf N (b, l, k, s, u) = some (sensAns b l k s) := by
 have hN : 4000000 ≤ N := by omega
 refine Ret.eq ?_
 unfold F_spec_SensitivityOf sensAns
 dsimp only
 have e2 := codeN_two (b := b) (k := k) (j := s)
 refine Ret.call (spec_netCode hN hb k ()) ?_
 dsimp only
 refine Ret.ifnd ?_ ?_ <;> intro hc
 ·rw [if_neg hc] at e2
  have e3 : codeA b l [k, s] = codeN b [k] := by unfold codeA; rw [if_pos (by rw [e2]; exact hc), e2]
  rw [if_pos (by rw [e3]; exact hc), e3]; exact Ret.ret rfl
 rw [if_pos hc] at e2
 refine Ret.call (spec_netCode hN hb s u) ?_
 dsimp only
 refine Ret.ifnd ?_ ?_ <;> intro hc2
 ·rw [if_neg hc2] at e2
  have e3 : codeA b l [k, s] = 2 := by unfold codeA; rw [if_pos (by rw [e2]; decide), e2]
  rw [if_pos (by rw [e3]; decide), e3]; exact Ret.ret rfl
 rw [if_pos hc2] at e2
 refine Ret.call (spec_IsAssignment hN hb hl ()) ?_
 dsimp only
 refine Ret.ifnc ?_ ?_ <;> intro hA
 ·have e3 : codeA b l [k, s] = 5 := by unfold codeA; rw [if_neg (not_not_intro e2), if_neg hA]
  rw [if_pos (by rw [e3]; decide), e3]; exact Ret.ret rfl
 rw [if_neg (not_not_intro (codeA_zero.2 ⟨e2, hA⟩))]
 obtain ⟨hB, hR, hk⟩ := codeN_zero.1 hc
 obtain ⟨hke, hkn⟩ := inNets_nat (hk k (by simp))
 obtain ⟨rank, hr⟩ := ranked_bd hN hb hB hR
 have hsup := spec_l28Support hN hb hB hr hkn ()
 rw [← hke] at hsup
 refine Ret.call hsup ?_
 dsimp only
 have h30 := supL_len b k.toNat
 have hsm := block_small hB
 refine Ret.ifd ?_ ?_ <;> intro h8
 ·rw [if_pos (by omega)]; exact Ret.ret rfl
 rw [if_neg (by omega)]
 refine Ret.call (has_at hN (by omega) s u) ?_
 dsimp only
 refine Ret.ifd ?_ ?_ <;> intro hp
 ·rw [if_pos hp]; exact Ret.ret rfl
 rw [if_neg hp]
 have hpl := fidx_hi (fun x => x = s) (supL b k.toNat)
 generalize fidx (fun x => x = s) (supL b k.toNat) = p at *
 obtain ⟨p, rfl⟩ : ∃ q : Nat, p = (q : Int) := ⟨p.toNat, by omega⟩
 rw [Int.toNat_natCast]
 have h8' : (supL b k.toNat).length ≤ 8 := by omega
 have hf := spec_l28Function hN hb hB hr (supL_sup b k.toNat) h8' hkn (fun s hs => supL_mem.2 ⟨s, (reach_rank hB.1 hr.down hs.2 hkn).1, hs, rfl⟩) ()
 rw [← hke] at hf
 refine Ret.call hf ?_
 have hfl := funL_len b (supL b k.toNat) k.toNat
 refine Ret.call (spec_l28Bit hN (by omega) ()) ?_
 dsimp only
 refine Ret.call (spec_l29Change hN hfl h8' (by omega) ()) ?_
 obtain ⟨h1, h2, h3, h4, h5, h6, h7⟩ := spec_sum hM hb hB hr hA hkn h8' (show p < (supL b k.toNat).length by omega) ()
 refine Ret.call h1 ?_
 have hok := okA_of hA (sup := supL b k.toNat) supL_src
 refine Ret.call (spec_l29Product hN hb hB hA.2.1 h8' supL_src hok ()) ?_
 dsimp only
 have hd := dnP_bound hok (-1) _ (Nat.le_refl _)
 have hd' := dnP_bound hok p _ (Nat.le_refl _)
 have hd8 := pow8 h8'
 have hdn := (dn_pair (pickA (srcOf b) l) (supL b k.toNat) p (supL b k.toNat).length).2 (by omega)
 refine Ret.call (spec_reduce hM (by omega) (by omega) ()) ?_
 rw [hdn, redF_mulI h6 (by omega) h4]
 unfold capF
 generalize redF (sensN b l k.toNat p) (dnP (pickA (srcOf b) l) (supL b k.toNat) p (supL b k.toNat).length) = r
 by_cases h : 1000000 < r.2.1
 ·rw [if_pos h, if_pos h]; exact Ret.ret rfl
 ·rw [if_neg h, if_neg h]; exact Ret.ret rfl
theorem impl_SensitivityOf {l : List AT} (hl : l.length < 4000000) (k s : Int) (u : Unit) : F_impl_SensitivityOf N (b, l, k, s, u) = some (sensAns b l k s) := by
 have hN : 4000000 ≤ N := by omega
 refine Ret.eq ?_
 unfold F_impl_SensitivityOf sensAns
 dsimp only
 refine Ret.bind (impl_chancesOf hN hb hl (s := [k, s]) (by simp) ()) ?_
 rintro ⟨o, c, u1⟩ ⟨hc, h0⟩
 dsimp only at hc h0 ⊢
 subst hc
 refine Ret.ifnd ?_ ?_ <;> intro hc
 ·rw [if_pos hc]; exact Ret.ret rfl
 rw [if_neg (not_not_intro hc)]
 obtain ⟨hA, hk, gates, ord, m, rfl, hg, ht, hm⟩ := h0 hc
 obtain ⟨⟨hB, hR⟩, hll, _⟩ := id hA
 obtain ⟨hke, hkn⟩ := inNets_nat (hk k (by simp))
 have hsm := block_small hB
 have hr := ht.rankP hB.1 hsm.2
 refine Ret.call rfl ?_
 have hf := impl_function hN hB hr hg ht hkn ()
 rw [← hke] at hf
 refine Ret.call hf ?_
 have h30 := supL_len b k.toNat
 by_cases h8 : 8 < (supL b k.toNat).length
 ·rw [if_pos h8, if_pos h8]; exact Ret.ret rfl
 rw [if_neg h8, if_neg h8]
 dsimp only
 simp only [Bool.not_true, cond_false]
 have h8' : (supL b k.toNat).length ≤ 8 := by omega
 refine Ret.call (index_at hN (by omega) s u) ?_
 dsimp only
 refine Ret.ifd ?_ ?_ <;> intro hp
 ·rw [if_pos hp]; exact Ret.ret rfl
 rw [if_neg hp]
 have hpl := fidx_hi (fun x => x = s) (supL b k.toNat)
 generalize fidx (fun x => x = s) (supL b k.toNat) = p at *
 obtain ⟨p, rfl⟩ : ∃ q : Nat, p = (q : Int) := ⟨p.toNat, by omega⟩
 rw [Int.toNat_natCast]
 have hok := okA_of hA (sup := supL b k.toNat) supL_src
 have hmk : ∀ x ∈ supL b k.toNat, mget m x ((0, 0, ()), 0, ()) = pickA (srcOf b) l x := fun x hx => hm x (supL_src x hx)
 have hfl := funL_len b (supL b k.toNat) k.toNat
 refine Ret.call (impl_sensitivity hN h8' hmk hok hfl (by omega) () ()) ?_
 refine Ret.call (impl_denominator hN h8' hmk hok (p : Int) () ()) ?_
 obtain ⟨h1, h2, h3, h4, h5, h6, h7⟩ := spec_sum hM hb hB hr hA hkn h8' (show p < (supL b k.toNat).length by omega) ()
 have hd' := dnP_bound hok p _ (Nat.le_refl _)
 have hd8 := pow8 h8'
 refine Ret.call (impl_reduced hM (n := sensN b l k.toNat p) (by omega) (by omega) ()) ?_
 dsimp only
 unfold capF
 generalize redF (sensN b l k.toNat p) (dnP (pickA (srcOf b) l) (supL b k.toNat) p (supL b k.toNat).length) = r
 refine Ret.ifd ?_ ?_ <;> intro h
 ·rw [if_pos h]; exact Ret.ret rfl
 ·rw [if_neg h]; exact Ret.ret rfl
end
end Go.Proofs.YtdbmhfpphobmpaaGreatDoor
namespace Go.Proofs.YtdbmhfpphobmpaaGreatDoor
set_option linter.unusedSimpArgs false
set_option linter.unusedVariables false
set_option linter.unusedSectionVars false
set_option maxHeartbeats 1000000
def divU (t d : Int) : Int := if 0 < t.tmod d then IntKind.i64.wrap (IntKind.i64.wrap (t.tdiv d) + 1) else IntKind.i64.wrap (t.tdiv d)
theorem spec_div1 {N : Nat} {t d : Int} (ht : 0 ≤ t) (hd : 1 ≤ d) (u : Unit) : F_spec_l01Div N (t, d, 1, u) = some (divU t d, ()) := by
 have h := Int.tmod_nonneg d ht
 unfold F_spec_l01Div divU
 have e : decide (d = 0) = false := by simp; omega
 have e2 : decide (t.tmod d < 0) = false := by simp; omega
 by_cases h0 : 0 < t.tmod d <;> simp [e, e2, h0]
theorem impl_div1 {N : Nat} {t d : Int} (ht : 0 ≤ t) (hd : 1 ≤ d) (u : Unit) : F_impl_divide N (t, d, 1, u) = some (divU t d, ()) := by
 have h := Int.tmod_nonneg d ht
 unfold F_impl_divide divU
 have e : decide (d = 0) = false := by simp; omega
 have e2 : decide (t.tmod d < 0) = false := by simp; omega
 by_cases h0 : 0 < t.tmod d <;> simp [e, e2, h0]
theorem mulB {a c m n : Int} (ha : 0 ≤ a ∧ a ≤ m) (hc : 0 ≤ c ∧ c ≤ n) : 0 ≤ a * c ∧ a * c ≤ m * n :=
 ⟨Int.mul_nonneg ha.1 hc.1, Int.mul_le_mul ha.2 hc.2 hc.1 (Int.le_trans ha.1 ha.2)⟩
noncomputable def densT (b : DBlock) (l : List AT) (k q : Nat) : Int := denA (pickA (srcOf b) l) (supL b k) q * sensN b l k q * (pickA (srcOf b) l ((supL b k)[q]?.getD 0)).2.1
noncomputable def densS (b : DBlock) (l : List AT) (k : Nat) : Nat → Int
 | 0 => 0
 | q + 1 => densS b l k q + densT b l k q
noncomputable def densAns (b : DBlock) (l : List AT) (k : Int) : Int × Int × Unit :=
 if codeA b l [k] ≠ 0 then (0, codeA b l [k], ()) else if 8 < (supL b k.toNat).length then (0, 3, ()) else
  (divU (densS b l k.toNat (supL b k.toNat).length) (dnP (pickA (srcOf b) l) (supL b k.toNat) (-1) (supL b k.toNat).length), 0, ())
section
variable {N : Nat} (hM : 1000000000000 ≤ N) {b : DBlock} (hb : SmallB b)
include hM hb
theorem dens_bound (hB : BlockP b) {rank : Nat → Nat} (hr : RankP b rank) {l : List AT} (hA : AssignP b l) {k : Nat} (hk : k < b.2.1.2.1.length) (h8 : (supL b k).length ≤ 8) {q : Nat} (hq : q < (supL b k).length) :
 0 ≤ densT b l k q ∧ densT b l k q ≤ 25600000000000 := by
 obtain ⟨h1, h2, h3, h4, h5, h6, h7⟩ := spec_sum hM hb hB hr hA hk h8 hq ()
 have hok := okA_of hA (sup := supL b k) supL_src _ (List.getElem_mem hq)
 unfold densT
 rw [get0 hq]
 have := mulB ⟨h2, h3⟩ hok.2.2
 omega
theorem densS_bound (hB : BlockP b) {rank : Nat → Nat} (hr : RankP b rank) {l : List AT} (hA : AssignP b l) {k : Nat} (hk : k < b.2.1.2.1.length) (h8 : (supL b k).length ≤ 8) : ∀ q, q ≤ (supL b k).length → 0 ≤ densS b l k q ∧ densS b l k q ≤ (q : Int) * 25600000000000
 | 0, _ => by simp [densS]
 | q + 1, h => by
  have h1 := densS_bound hB hr hA hk h8 q (by omega)
  have h2 := dens_bound hM hb hB hr hA hk h8 (show q < (supL b k).length by omega)
  unfold densS
  omega
theorem spec_l29Density {l : List AT} (hB : BlockP b) {rank : Nat → Nat} (hr : RankP b rank) (hA : AssignP b l) {k : Nat} (hk : k < b.2.1.2.1.length) (h8 : (supL b k).length ≤ 8) (u : Unit) :
 F_spec_l29Density N (b, l, (k : Int), u) = some (divU (densS b l k (supL b k).length) (dnP (pickA (srcOf b) l) (supL b k) (-1) (supL b k).length), ()) := by
 have hN : 4000000 ≤ N := by omega
 refine Ret.eq ?_
 unfold F_spec_l29Density
 refine Ret.call (spec_l28Support hN hb hB hr hk u) ?_
 refine Ret.call (spec_l28Function hN hb hB hr (supL_sup b k) h8 hk (fun s hs => supL_mem.2 ⟨s, (reach_rank hB.1 hr.down hs.2 hk).1, hs, rfl⟩) ()) ?_
 dsimp only
 have hfl := funL_len b (supL b k) k
 have hok := okA_of hA (sup := supL b k) supL_src
 refine Ret.upM 0 (supL b k).length (fun p (n : Int) (_ : Unit) => n = densS b l k p) (by omega) (by omega) (by omega) rfl ?_ ?_
 ·rintro p n u1 next _ hp rfl hn
  dsimp only
  refine Ret.must (by omega) ?_
  refine Ret.call (spec_l28Bit hN (by omega) u1) ?_
  refine Ret.call (spec_l29Change hN hfl h8 hp ()) ?_
  obtain ⟨h1, h2, h3, h4, h5, h6, h7⟩ := spec_sum hM hb hB hr hA hk h8 hp ()
  refine Ret.call h1 ?_
  rw [Int.toNat_natCast]
  refine Ret.guardI hp (Ret.get hp ?_)
  refine Ret.call (spec_l29Of hN hb hB hA.2.1 (supL_src _ (List.getElem_mem hp)) ()) ?_
  dsimp only
  have hb1 := densS_bound hM hb hB hr hA hk h8 p (by omega)
  have hb2 := dens_bound hM hb hB hr hA hk h8 hp
  have e : denA (pickA (srcOf b) l) (supL b k) p * sensN b l k p * (pickA (srcOf b) l (supL b k)[p]).2.1 = densT b l k p := by unfold densT; rw [get0 hp]
  rw [e, wrapI (n := densT b l k p) (by omega) (by omega), wrapI (by omega) (by omega)]
  exact hn _ _ rfl
 ·rintro n u1 next rfl
  dsimp only
  refine Ret.mustN (by omega) ?_
  refine Ret.call (spec_l29Product hN hb hB hA.2.1 h8 supL_src hok ()) ?_
  have hd := dnP_bound hok (-1) _ (Nat.le_refl _)
  have hb1 := densS_bound hM hb hB hr hA hk h8 _ (Nat.le_refl _)
  refine Ret.call (spec_div1 hb1.1 hd.1 ()) ?_
  exact Ret.ret rfl
theorem impl_density {l : List AT} (hB : BlockP b) {rank : Nat → Nat} (hr : RankP b rank) (hA : AssignP b l) {gates : List Int} {ord : List Int × Unit} {m : List (Int × AT)} {k : Nat} (hk : k < b.2.1.2.1.length)
 (hf : ∀ u : Unit, F_impl_logic_function N (some (b, gates, ord), (k : Int), u) = some (if 8 < (supL b k).length then ([], [], false, ()) else (funL b (supL b k) k, supL b k, true, ()))) (hm : MapA m b l) (u v : Unit) :
 F_impl_chances_density N (some (some (b, gates, ord), m, v), (k : Int), u) = some (if 8 < (supL b k).length then (0, false, ()) else (divU (densS b l k (supL b k).length) (dnP (pickA (srcOf b) l) (supL b k) (-1) (supL b k).length), true, ())) := by
 have hN : 4000000 ≤ N := by omega
 refine Ret.eq ?_
 unfold F_impl_chances_density
 refine Ret.call rfl ?_
 refine Ret.call (hf u) ?_
 by_cases h8 : 8 < (supL b k).length
 ·rw [if_pos h8, if_pos h8]; exact Ret.ret rfl
 rw [if_neg h8, if_neg h8]
 dsimp only
 simp only [Bool.not_true, cond_false]
 have h8' : (supL b k).length ≤ 8 := by omega
 have hok := okA_of hA (sup := supL b k) supL_src
 have hmk : ∀ x ∈ supL b k, mget m x ((0, 0, ()), 0, ()) = pickA (srcOf b) l x := fun x hx => hm x (supL_src x hx)
 have hfl := funL_len b (supL b k) k
 refine Ret.upM 0 (supL b k).length (fun p (n : Int) (_ : Unit) => n = densS b l k p) (by omega) (by omega) (by omega) rfl ?_ ?_
 ·rintro p n u1 next _ hp rfl hn
  dsimp only
  refine Ret.must (by omega) (Ret.atN hp ?_)
  refine Ret.call rfl ?_
  refine Ret.call (impl_sensitivity hN h8' hmk hok hfl hp u1 v) ?_
  dsimp only
  rw [hmk _ (List.getElem_mem hp)]
  obtain ⟨h1, h2, h3, h4, h5, h6, h7⟩ := spec_sum hM hb hB hr hA hk h8' hp ()
  have hb1 := densS_bound hM hb hB hr hA hk h8' p (by omega)
  have hb2 := dens_bound hM hb hB hr hA hk h8' hp
  have e0 : sumF (sensT (funL b (supL b k) k) p (fun i => wtP (pickA (srcOf b) l) (supL b k) i p (supL b k).length)) (2 ^ (supL b k).length) * (pickA (srcOf b) l (supL b k)[p]).1.2.1 = denA (pickA (srcOf b) l) (supL b k) p * sensN b l k p := by
   unfold denA sensN; rw [get0 hp, Int.mul_comm]
  have e : denA (pickA (srcOf b) l) (supL b k) p * sensN b l k p * (pickA (srcOf b) l (supL b k)[p]).2.1 = densT b l k p := by unfold densT; rw [get0 hp]
  rw [e0, wrapI (n := denA (pickA (srcOf b) l) (supL b k) p * sensN b l k p) (by omega) (by omega), e, wrapI (n := densT b l k p) (by omega) (by omega), wrapI (by omega) (by omega)]
  exact hn _ _ rfl
 ·rintro n u1 next rfl
  dsimp only
  refine Ret.mustN (by omega) ?_
  refine Ret.call (impl_denominator hN h8' hmk hok (-1) () v) ?_
  have hd := dnP_bound hok (-1) _ (Nat.le_refl _)
  have hb1 := densS_bound hM hb hB hr hA hk h8' _ (Nat.le_refl _)
  refine Ret.call (impl_div1 hb1.1 hd.1 ()) ?_
  exact Ret.ret rfl
theorem spec_DensityOf {l : List AT} (hl : l.length < 4000000) (k : Int) (u : Unit) : F_spec_DensityOf N (b, l, k, u) = some (densAns b l k) := by
 have hN : 4000000 ≤ N := by omega
 refine Ret.eq ?_
 unfold F_spec_DensityOf densAns
 refine Ret.call (spec_l29Code hN hb hl k u) ?_
 dsimp only
 refine Ret.ifnd ?_ ?_ <;> intro hc
 ·rw [if_pos hc]; exact Ret.ret rfl
 rw [if_neg (not_not_intro hc)]
 obtain ⟨hc1, hA⟩ := codeA_zero.1 hc
 obtain ⟨hB, hR, hk⟩ := codeN_zero.1 hc1
 obtain ⟨hke, hkn⟩ := inNets_nat (hk k (by simp))
 obtain ⟨rank, hr⟩ := ranked_bd hN hb hB hR
 have hsup := spec_l28Support hN hb hB hr hkn u
 rw [← hke] at hsup
 refine Ret.call hsup ?_
 dsimp only
 refine Ret.ifd ?_ ?_ <;> intro h8
 ·rw [if_pos (by omega)]; exact Ret.ret rfl
 rw [if_neg (by omega)]
 have hd := spec_l29Density hM hb hB hr hA hkn (by omega) u
 rw [← hke] at hd
 exact Ret.call hd (Ret.ret rfl)
theorem impl_DensityOf {l : List AT} (hl : l.length < 4000000) (k : Int) (u : Unit) : F_impl_DensityOf N (b, l, k, u) = some (densAns b l k) := by
 have hN : 4000000 ≤ N := by omega
 refine Ret.eq ?_
 unfold F_impl_DensityOf densAns
 dsimp only
 refine Ret.bind (impl_chancesOf hN hb hl (s := [k]) (by simp) ()) ?_
 rintro ⟨o, c, u1⟩ ⟨hc, h0⟩
 dsimp only at hc h0 ⊢
 subst hc
 refine Ret.ifnd ?_ ?_ <;> intro hc
 ·rw [if_pos hc]; exact Ret.ret rfl
 rw [if_neg (not_not_intro hc)]
 obtain ⟨hA, hk, gates, ord, m, rfl, hg, ht, hm⟩ := h0 hc
 obtain ⟨⟨hB, hR⟩, hll, _⟩ := id hA
 obtain ⟨hke, hkn⟩ := inNets_nat (hk k (by simp))
 have hr := ht.rankP hB.1 (block_small hB).2
 have hd := impl_density hM hb hB hr hA hkn (fun u => impl_function hN hB hr hg ht hkn u) hm u ()
 rw [← hke] at hd
 refine Ret.call hd ?_
 by_cases h8 : 8 < (supL b k.toNat).length
 ·rw [if_pos h8, if_pos h8]; exact Ret.ret rfl
 ·rw [if_neg h8, if_neg h8]; exact Ret.ret rfl
end
end Go.Proofs.YtdbmhfpphobmpaaGreatDoor
