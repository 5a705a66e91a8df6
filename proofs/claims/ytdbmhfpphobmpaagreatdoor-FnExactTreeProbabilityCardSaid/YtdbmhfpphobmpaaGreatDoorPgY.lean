/- Fractions, sources and assignments: both sides. No program in sight. Probabilities: weights, sums, fractions. No program in sight. Probabilities: the program's chances. No program in sight. Probabilities: sums over pairs, sensitivities. No program in sight. Densities: DensityOf on both sides. No program in sight. Tree-like nets: both sides. No program in sight. Probabilities of tree-like nets: both sides. No program in sight. Intervals of chances: both sides. No program in sight. -/
import Derived.Test.YtdbmhfpphobmpaaGreatDoorPgV
import Derived.Test.YtdbmhfpphobmpaaGreatDoorPgX
namespace Go.Proofs.YtdbmhfpphobmpaaGreatDoor
set_option linter.unusedSimpArgs false
set_option linter.unusedVariables false
set_option linter.unusedSectionVars false
set_option maxHeartbeats 1000000
def FracP (f : Int × Int × Unit) : Prop := BtwP 1 1000000 f.2.1 ∧ BtwP 0 f.2.1 f.1 ∧ Nat.gcd f.1.toNat f.2.1.toNat = 1
def ActP (a : (Int × Int × Unit) × Int × Unit) : Prop := FracP a.1 ∧ a.1.2.1 ≤ 10 ∧ BtwP 0 1000 a.2.1
def AssignP (b : DBlock) (l : List ((Int × Int × Unit) × Int × Unit)) : Prop := (BlockP b ∧ Ranked b) ∧ l.length = (srcOf b).length ∧ ∀ a ∈ l, ActP a
section
variable {N : Nat} (hN : 4000000 ≤ N)
include hN
theorem gcd_loop (m n : Nat) (hn : n ≤ 1000000) (u : Unit) : Ret (fixN N (fun (next2 : (Int × (Int × Unit)) → Option (Int × Unit)) (s1 : (Int × (Int × Unit))) =>
 (bif (!decide (s1.2.1 = (0 : Int))) then (bif decide (s1.2.1 = 0) then none else next2 (s1.2.1, (s1.1.tmod s1.2.1), ())) else some (s1.1, ()))) ((m : Int), (n : Int), u)) (fun r => r.1 = (Nat.gcd m n : Int)) := by
 refine Ret.fix (I := fun s => ∃ a c : Nat, s.1 = (a : Int) ∧ s.2.1 = (c : Int) ∧ Nat.gcd a c = Nat.gcd m n) (μ := fun s => s.2.1.toNat) ?_ N _ ⟨m, n, rfl, rfl, rfl⟩ (by dsimp only; omega)
 rintro ⟨x, y, v⟩ next ⟨a, c, h1, h2, h3⟩ hnext
 dsimp only at h1 h2 ⊢
 subst h1 h2
 refine Ret.ifnd ?_ ?_ <;> intro h0
 ·refine Ret.guardN h0 ?_
  have e : ((a : Int).tmod (c : Int)) = ((a % c : Nat) : Int) := rfl
  rw [e]
  have hlt := Nat.mod_lt a (show c > 0 by omega)
  refine hnext _ ⟨c, a % c, rfl, rfl, ?_⟩ (by dsimp only; omega)
  rw [← h3, Nat.gcd_comm a c, Nat.gcd_rec c a, Nat.gcd_comm]
 ·obtain rfl : c = 0 := by omega
  rw [Nat.gcd_zero_right] at h3
  exact Ret.ret (by dsimp only; rw [h3])
theorem spec_IsFraction (f : Int × Int × Unit) (u : Unit) : F_spec_IsFraction N (f, u) = some (dec (FracP f), ()) := by
 obtain ⟨n, d, v⟩ := f
 refine Ret.tells ?_
 unfold F_spec_IsFraction
 dsimp only
 refine Ret.call (spec_l01In N _ _ _ _) (Ret.ifc ?_ ?_) <;> intro h1
 ·refine Ret.call (spec_l01In N _ _ _ _) (Ret.ifc ?_ ?_) <;> intro h2
  ·have h1' := h1; have h2' := h2
   unfold BtwP at h1' h2'
   have hg := gcd_loop hN d.toNat n.toNat (by omega) ()
   rw [Int.toNat_of_nonneg (by omega), Int.toNat_of_nonneg (by omega)] at hg
   refine Ret.bind hg ?_
   rintro ⟨g, w⟩ rfl
   refine Ret.ret (tells_decide.2 ⟨fun h => ⟨h1, h2, ?_⟩, fun h => ?_⟩)
   ·rw [Nat.gcd_comm]; dsimp only at h ⊢; omega
   ·have := h.2.2
    rw [Nat.gcd_comm] at this
    dsimp only at this ⊢; omega
  ·exact Ret.ret (tells_false.2 fun h => h2 h.2.1)
 ·exact Ret.ret (tells_false.2 fun h => h1 h.1)
theorem impl_IsFraction (f : Int × Int × Unit) (u : Unit) : F_impl_IsFraction N (f, u) = some (dec (FracP f), ()) := by
 obtain ⟨n, d, v⟩ := f
 refine Ret.tells ?_
 unfold F_impl_IsFraction
 dsimp only
 refine Ret.call (impl_within N _ _ _ _) (Ret.ifc ?_ ?_) <;> intro h1
 ·refine Ret.call (impl_within N _ _ _ _) (Ret.ifc ?_ ?_) <;> intro h2
  ·have h1' := h1; have h2' := h2
   unfold BtwP at h1' h2'
   have hg := gcd_loop hN n.toNat d.toNat (by omega) v
   rw [Int.toNat_of_nonneg (by omega), Int.toNat_of_nonneg (by omega)] at hg
   refine Ret.bind hg ?_
   rintro ⟨g, w⟩ rfl
   refine Ret.ret (tells_decide.2 ⟨fun h => ⟨h1, h2, ?_⟩, fun h => ?_⟩)
   ·dsimp only at h ⊢; omega
   ·have := h.2.2
    dsimp only at this ⊢; omega
  ·exact Ret.ret (tells_false.2 fun h => h2 h.2.1)
 ·exact Ret.ret (tells_false.2 fun h => h1 h.1)
variable {b : DBlock} (hb : SmallB b)
include hb
theorem spec_IsAssignment {l : List ((Int × Int × Unit) × Int × Unit)} (hl : l.length < 4000000) (u : Unit) : F_spec_IsAssignment N (b, l, u) = some (dec (AssignP b l), ()) := by
 refine Ret.tells ?_
 unfold F_spec_IsAssignment
 dsimp only
 by_cases hBR : BlockP b ∧ Ranked b
 ·obtain ⟨hB, hR⟩ := hBR
  refine Ret.call (a := ((0 : Int), ())) ?_ ?_
  ·refine Ret.eq ?_
   unfold F_spec_l28Code
   refine Ret.call (spec_IsBlock hN hb) ?_
   dsimp only
   rw [dec_of hB]
   refine Ret.call (spec_IsLogical hN hb ()) ?_
   dsimp only
   rw [dec_of ⟨hB, hR⟩]
   exact Ret.ret rfl
  dsimp only
  refine Ret.mustNN rfl ?_
  refine Ret.call (spec_l28Sources hN hb hB ()) ?_
  dsimp only
  refine Ret.ifnd ?_ ?_ <;> intro hlen
  ·exact Ret.ret (tells_false.2 fun h => hlen (by rw [h.2.1]))
  refine Ret.up l.length (fun i _ => ∀ j (h : j < l.length), j < i → ActP l[j]) (by omega) (by omega) (fun j _ h => absurd h (by omega)) ?_ ?_
  ·intro i s next hi hI hn
   dsimp only
   refine Ret.must (by omega) ?_
   refine Ret.atN hi ?_
   refine Ret.call (spec_IsFraction hN _ _) ?_
   have hno : ¬ ActP l[i] → Ret (some (false, ())) (Tells (AssignP b l)) := fun h => Ret.ret (tells_false.2 fun hA => h (hA.2.2 _ (List.getElem_mem hi)))
   dsimp only
   refine Ret.ifnc ?_ ?_ <;> intro h1
   ·exact hno fun h => h1 h.1
   refine Ret.atN hi ?_
   refine Ret.ifd ?_ ?_ <;> intro h2
   ·exact hno fun h => by have := h.2.1; omega
   refine Ret.atN hi ?_
   refine Ret.call (spec_l01In N _ _ _ _) ?_
   dsimp only
   refine Ret.ifnc ?_ ?_ <;> intro h3
   ·exact hno fun h => h3 h.2.2
   refine hn () fun j hj hji => ?_
   by_cases e : j < i
   ·exact hI j hj e
   ·obtain rfl : j = i := by omega
    exact ⟨h1, by omega, h3⟩
  ·intro s next hI
   dsimp only
   refine Ret.mustN (by omega) (Ret.ret (tells_true.2 ⟨⟨hB, hR⟩, by omega, fun a ha => ?_⟩))
   obtain ⟨j, hj, rfl⟩ := List.getElem_of_mem ha
   exact hI j hj hj
 ·have hc : ∃ c, c ≠ 0 ∧ F_spec_l28Code N (b, ()) = some (c, ()) := by
   unfold F_spec_l28Code
   by_cases hB : BlockP b
   ·refine ⟨7, by omega, Ret.eq ?_⟩
    refine Ret.call (spec_IsBlock hN hb) ?_
    dsimp only
    rw [dec_of hB]
    refine Ret.call (spec_IsLogical hN hb ()) ?_
    dsimp only
    rw [dec_not hBR]
    exact Ret.ret rfl
   ·refine ⟨1, by omega, Ret.eq ?_⟩
    refine Ret.call (spec_IsBlock hN hb) ?_
    dsimp only
    rw [dec_not hB]
    exact Ret.ret rfl
  obtain ⟨c, h1, h2⟩ := hc
  refine Ret.call h2 ?_
  dsimp only
  refine Ret.ifnd ?_ ?_ <;> intro h
  ·exact Ret.ret (tells_false.2 fun h => hBR h.1)
  ·exact absurd h h1
theorem impl_isAssignment (hB : BlockP b) (hR : Ranked b) {gates : List Int} {ord : List Int × Unit} (hg : gates.length = b.2.1.2.1.length ∧ ∀ k (h : k < gates.length), gates[k] = gateOf b k) {l : List ((Int × Int × Unit) × Int × Unit)} (hl : l.length < 4000000) (u : Unit) : F_impl_logic_isAssignment N (some (b, gates, ord), l, u) = some (dec (AssignP b l), ()) := by
 refine Ret.tells ?_
 have hall : F_slices_ContainsFunc_impl_Activity_impl_Activity_c_impl_logic_isAssignment_1 N (l, (), ()) = some (dec (∃ a ∈ l, ¬ ActP a), ()) := by
  unfold F_slices_ContainsFunc_impl_Activity_impl_Activity_c_impl_logic_isAssignment_1 F_slices_IndexFunc_impl_Activity_impl_Activity_c_impl_logic_isAssignment_1
  refine containsFunc_eq (indexFunc_eq (fun e => F_impl_logic_isAssignment_1 N (e, ())) (fun a => ¬ ActP a) (fun a _ => ?_) hl hN)
  refine Ret.tells ?_
  unfold F_impl_logic_isAssignment_1
  dsimp only
  refine Ret.call (impl_IsFraction hN _ _) ?_
  dsimp only
  refine Ret.ifnc ?_ ?_ <;> intro h1
  ·exact Ret.ret (tells_true.2 fun h => h1 h.1)
  refine Ret.ifd ?_ ?_ <;> intro h2
  ·exact Ret.ret (tells_true.2 fun h => by have := h.2.1; omega)
  refine Ret.call (impl_within N _ _ _ _) ?_
  refine Ret.ret (tells_ndec.2 ⟨fun h3 h => h3 h.2.2, fun h h3 => h ⟨h1, by omega, h3⟩⟩)
 unfold F_impl_logic_isAssignment
 dsimp only
 refine Ret.call (impl_logic_sources hN hb hB hg ()) ?_
 dsimp only
 refine Ret.ifd ?_ ?_ <;> intro hlen
 ·refine Ret.call hall ?_
  refine Ret.ret (tells_ndec.2 ⟨fun h => ⟨⟨hB, hR⟩, by omega, fun a ha => Classical.byContradiction fun hn => h ⟨a, ha, hn⟩⟩, fun h ⟨a, ha, hn⟩ => hn (h.2.2 a ha)⟩)
 ·exact Ret.ret (tells_false.2 fun h => hlen (by rw [h.2.1]))
end
end Go.Proofs.YtdbmhfpphobmpaaGreatDoor
namespace Go.Proofs.YtdbmhfpphobmpaaGreatDoor
set_option linter.unusedSimpArgs false
set_option linter.unusedVariables false
set_option linter.unusedSectionVars false
set_option maxHeartbeats 1000000
abbrev AT := (Int × Int × Unit) × Int × Unit
def pickA (sup : List Int) (l : List AT) (x : Int) : AT := match sup.findIdx? (fun y => decide (y = x)) with
 | some p => l[p]?.getD ((0, 0, ()), 0, ())
 | none => ((0, 0, ()), 0, ())
theorem pickA_at {sup : List Int} {l : List AT} (hnd : sup.Nodup) {p : Nat} (hp : p < sup.length) (hv : p < l.length) {x : Int} (hk : sup[p] = x) : pickA sup l x = l[p] := by
 unfold pickA
 have : sup.findIdx? (fun y => decide (y = x)) = some p := by
  rw [List.findIdx?_eq_some_iff_getElem]
  refine ⟨hp, by simpa using hk, fun j hj => ?_⟩
  simp only [decide_eq_true_eq]
  intro h
  exact List.pairwise_iff_getElem.1 hnd j p (by omega) hp hj (h.trans hk.symm)
 rw [this]
 simp [hv]
def fac (a : AT) (bit : Bool) : Int := if bit then a.1.1 else a.1.2.1 - a.1.1
def wtP (A : Int → AT) (sup : List Int) (i : Nat) (skip : Int) : Nat → Int
 | 0 => 1
 | p + 1 => if (p : Int) = skip then wtP A sup i skip p else wtP A sup i skip p * fac (A (sup[p]?.getD 0)) (decide (i / 2 ^ p % 2 = 1))
def dnP (A : Int → AT) (sup : List Int) (skip : Int) : Nat → Int
 | 0 => 1
 | p + 1 => if (p : Int) = skip then dnP A sup skip p else dnP A sup skip p * (A (sup[p]?.getD 0)).1.2.1
def OkA (A : Int → AT) (sup : List Int) : Prop := ∀ x ∈ sup, (0 ≤ (A x).1.1 ∧ (A x).1.1 ≤ (A x).1.2.1) ∧ (1 ≤ (A x).1.2.1 ∧ (A x).1.2.1 ≤ 10) ∧ 0 ≤ (A x).2.1 ∧ (A x).2.1 ≤ 1000
theorem get0 {sup : List Int} {p : Nat} (h : p < sup.length) : sup[p]?.getD 0 = sup[p] := by rw [List.getElem?_eq_getElem h]; rfl
def sumW (f : List Int) (w : Nat → Int) : Nat → Int
 | 0 => 0
 | i + 1 => sumW f w i + f[i]?.getD 0 * w i
def Bits01 (f : List Int) : Prop := ∀ v ∈ f, v = 0 ∨ v = 1
theorem get01 {f : List Int} (h : Bits01 f) (i : Nat) : f[i]?.getD 0 = 0 ∨ f[i]?.getD 0 = 1 := by
 cases hi : f[i]? with
 | none => exact .inl rfl
 | some v => exact h v (List.mem_of_getElem? hi)
theorem sumW_bound {f : List Int} (h : Bits01 f) {w : Nat → Int} {m : Int} (hm : 0 ≤ m) (hw : ∀ i, 0 ≤ w i ∧ w i ≤ m) : ∀ n, 0 ≤ sumW f w n ∧ sumW f w n ≤ (n : Int) * m
 | 0 => by simp [sumW]
 | n + 1 => by
  have h1 := sumW_bound h hm hw n
  have h2 := hw n
  have e : ((n + 1 : Nat) : Int) * m = (n : Int) * m + m := by rw [Int.natCast_add, Int.add_mul]; simp
  rw [e]
  unfold sumW
  rcases get01 h n with h3 | h3 <;> rw [h3] <;> omega
def redF (n d : Int) : Int × Int × Unit := (n.tdiv (Nat.gcd n.toNat d.toNat : Int), d.tdiv (Nat.gcd n.toNat d.toNat : Int), ())
section
variable {N : Nat} (hM : 1000000000000 ≤ N)
include hM
theorem gcd_loop' (m n : Nat) (hn : n ≤ 100000000000) (u : Unit) : Ret (fixN N (fun (next2 : (Int × (Int × Unit)) → Option (Int × Unit)) (s1 : (Int × (Int × Unit))) =>
 (bif (!decide (s1.2.1 = (0 : Int))) then (bif decide (s1.2.1 = 0) then none else next2 (s1.2.1, (s1.1.tmod s1.2.1), ())) else some (s1.1, ()))) ((m : Int), (n : Int), u)) (fun r => r.1 = (Nat.gcd m n : Int)) := by
 refine Ret.fix (I := fun s => ∃ a c : Nat, s.1 = (a : Int) ∧ s.2.1 = (c : Int) ∧ Nat.gcd a c = Nat.gcd m n) (μ := fun s => s.2.1.toNat) ?_ N _ ⟨m, n, rfl, rfl, rfl⟩ (by dsimp only; omega)
 rintro ⟨x, y, v⟩ next ⟨a, c, h1, h2, h3⟩ hnext
 dsimp only at h1 h2 ⊢
 subst h1 h2
 refine Ret.ifnd ?_ ?_ <;> intro h0
 ·refine Ret.guardN h0 ?_
  have e : ((a : Int).tmod (c : Int)) = ((a % c : Nat) : Int) := rfl
  rw [e]
  have hlt := Nat.mod_lt a (show c > 0 by omega)
  refine hnext _ ⟨c, a % c, rfl, rfl, ?_⟩ (by dsimp only; omega)
  rw [← h3, Nat.gcd_comm a c, Nat.gcd_rec c a, Nat.gcd_comm]
 ·obtain rfl : c = 0 := by omega
  rw [Nat.gcd_zero_right] at h3
  exact Ret.ret (by dsimp only; rw [h3])
theorem red_parts {n d : Int} (hn : 0 ≤ n ∧ n ≤ 100000000000) (hd : 1 ≤ d ∧ d ≤ 100000000000) : 1 ≤ (Nat.gcd n.toNat d.toNat : Int) ∧ IntKind.i64.wrap (n.tdiv (Nat.gcd n.toNat d.toNat : Int)) = n.tdiv (Nat.gcd n.toNat d.toNat : Int) ∧ IntKind.i64.wrap (d.tdiv (Nat.gcd n.toNat d.toNat : Int)) = d.tdiv (Nat.gcd n.toNat d.toNat : Int) := by
 obtain ⟨a, rfl⟩ : ∃ a : Nat, n = a := ⟨n.toNat, by omega⟩
 obtain ⟨c, rfl⟩ : ∃ c : Nat, d = c := ⟨d.toNat, by omega⟩
 simp only [Int.toNat_natCast]
 have hg : 0 < Nat.gcd a c := Nat.gcd_pos_of_pos_right _ (by omega)
 generalize Nat.gcd a c = g at *
 have h1 : a / g ≤ a := Nat.div_le_self _ _
 have h2 : c / g ≤ c := Nat.div_le_self _ _
 refine ⟨by omega, ?_, ?_⟩
 ·show IntKind.i64.wrap ((a / g : Nat) : Int) = ((a / g : Nat) : Int)
  generalize a / g = q at *
  exact wrapI (by omega) (by omega)
 ·show IntKind.i64.wrap ((c / g : Nat) : Int) = ((c / g : Nat) : Int)
  generalize c / g = q at *
  exact wrapI (by omega) (by omega)
theorem impl_reduced {n d : Int} (hn : 0 ≤ n ∧ n ≤ 100000000000) (hd : 1 ≤ d ∧ d ≤ 100000000000) (u : Unit) : F_impl_reduced N (n, d, u) = some (redF n d, ()) := by
 obtain ⟨h1, h2, h3⟩ := red_parts hM hn hd
 have e1 : n = ((n.toNat : Nat) : Int) := by omega
 have e2 : d = ((d.toNat : Nat) : Int) := by omega
 refine Ret.eq ?_
 unfold F_impl_reduced F_impl_gcd
 dsimp only
 have hg := gcd_loop' hM n.toNat d.toNat (by omega) u
 rw [← e1, ← e2] at hg
 refine Ret.bind hg ?_
 rintro ⟨g, v⟩ he
 dsimp only at he ⊢
 subst he
 refine Ret.guardN (by omega) (Ret.guardN (by omega) (Ret.ret ?_))
 rw [h2, h3]; rfl
theorem spec_reduce {n d : Int} (hn : 0 ≤ n ∧ n ≤ 100000000000) (hd : 1 ≤ d ∧ d ≤ 100000000000) (u : Unit) : F_spec_l29Reduce N (n, d, u) = some (if 1000000 < (redF n d).2.1 then ((0, 0, ()), false, ()) else (redF n d, true, ())) := by
 obtain ⟨h1, h2, h3⟩ := red_parts hM hn hd
 have e1 : n = ((n.toNat : Nat) : Int) := by omega
 have e2 : d = ((d.toNat : Nat) : Int) := by omega
 refine Ret.eq ?_
 unfold F_spec_l29Reduce F_spec_l29Gcd
 dsimp only
 have hg := gcd_loop' hM d.toNat n.toNat (by omega) ()
 rw [← e1, ← e2, Nat.gcd_comm] at hg
 refine Ret.bind hg ?_
 rintro ⟨g, v⟩ he
 dsimp only at he ⊢
 subst he
 refine Ret.guardN (by omega) (Ret.guardN (by omega) ?_)
 rw [h2, h3]
 refine Ret.ifd ?_ ?_ <;> intro h
 ·rw [if_pos (show 1000000 < (redF n d).2.1 from h)]; exact Ret.ret rfl
 ·rw [if_neg (show ¬ 1000000 < (redF n d).2.1 from h)]; exact Ret.ret rfl
end
section
variable {N : Nat} (hN : 4000000 ≤ N) {b : DBlock} (hb : SmallB b) (hB : BlockP b)
include hN hb hB
theorem spec_l29Of {l : List AT} (hl : l.length = (srcOf b).length) {x : Int} (hx : x ∈ srcOf b) (u : Unit) : F_spec_l29Of N (b, l, x, u) = some (pickA (srcOf b) l x, ()) := by
 have hs := srcOf_len' hB
 obtain ⟨p, hp, he⟩ := List.getElem_of_mem hx
 have hf : fidx (fun y => y = x) (srcOf b) = (p : Int) := fidx_at hp he fun j hj hji h => List.pairwise_iff_getElem.1 (srcOf_nodup b) j p hj hp hji (h.trans he.symm)
 refine Ret.eq ?_
 unfold F_spec_l29Of
 dsimp only
 refine Ret.call (spec_l28Sources hN hb hB ()) ?_
 have hlen : (srcOf b).length < 4000000 := by omega
 refine Ret.call (has_at hN hlen x u) ?_
 rw [hf]
 refine Ret.atN (by omega) (Ret.ret ?_)
 rw [pickA_at (srcOf_nodup b) hp (by omega) he]
end
end Go.Proofs.YtdbmhfpphobmpaaGreatDoor
namespace Go.Proofs.YtdbmhfpphobmpaaGreatDoor
set_option linter.unusedSimpArgs false
set_option linter.unusedVariables false
set_option linter.unusedSectionVars false
set_option maxHeartbeats 1000000
noncomputable def codeA (b : DBlock) (l : List AT) (ks : List Int) : Int :=
 if codeN b ks ≠ 0 then codeN b ks else @ite _ (AssignP b l) (Classical.propDecidable _) 0 5
theorem codeA_zero {b : DBlock} {l : List AT} {ks : List Int} : codeA b l ks = 0 ↔ codeN b ks = 0 ∧ AssignP b l := by
 unfold codeA
 by_cases h : codeN b ks = 0
 ·rw [if_neg (not_not_intro h)]
  by_cases h2 : AssignP b l
  ·rw [if_pos h2]; exact ⟨fun _ => ⟨h, h2⟩, fun _ => rfl⟩
  ·rw [if_neg h2]; exact ⟨fun h => by omega, fun h => absurd h.2 h2⟩
 ·rw [if_pos h]; exact ⟨fun h' => absurd h' h, fun h' => absurd h'.1 h⟩
def MapA (m : List (Int × AT)) (b : DBlock) (l : List AT) : Prop := ∀ x ∈ srcOf b, mget m x ((0, 0, ()), 0, ()) = pickA (srcOf b) l x
theorem okA_of {b : DBlock} {l : List AT} (h : AssignP b l) {sup : List Int} (hsup : ∀ x ∈ sup, x ∈ srcOf b) : OkA (pickA (srcOf b) l) sup := by
 intro x hx
 obtain ⟨p, hp, he⟩ := List.getElem_of_mem (hsup x hx)
 rw [pickA_at (srcOf_nodup b) hp (by rw [h.2.1]; exact hp) he]
 have h1 := h.2.2 _ (List.getElem_mem (show p < l.length by rw [h.2.1]; exact hp))
 unfold ActP FracP BtwP at h1
 omega
section
variable {N : Nat} (hN : 4000000 ≤ N) {b : DBlock} (hb : SmallB b)
include hN hb
theorem spec_l29Code {l : List AT} (hl : l.length < 4000000) (k : Int) (u : Unit) : F_spec_l29Code N (b, l, k, u) = some (codeA b l [k], ()) := by
 refine Ret.eq ?_
 unfold F_spec_l29Code codeA
 dsimp only
 refine Ret.call (spec_netCode hN hb k u) ?_
 dsimp only
 refine Ret.ifnd ?_ ?_ <;> intro hc
 ·rw [if_pos hc]; exact Ret.ret rfl
 rw [if_neg (not_not_intro hc)]
 refine Ret.call (spec_IsAssignment hN hb hl ()) ?_
 dsimp only
 refine Ret.ifnc ?_ ?_ <;> intro h
 ·rw [if_neg h]; exact Ret.ret rfl
 ·rw [if_pos h]; exact Ret.ret rfl
theorem impl_chancesOf {l : List AT} (hl : l.length < 4000000) {s : List Int} (hs : s.length < 4000000) (u : Unit) :
 Ret (F_impl_chancesOf N (b, l, s, u)) (fun r => r.2.1 = codeA b l s ∧ (codeA b l s = 0 → AssignP b l ∧ (∀ k ∈ s, InNets b k) ∧ ∃ gates ord m, r.1 = some (some (b, gates, ord), m, ()) ∧ (gates.length = b.2.1.2.1.length ∧ ∀ k (h : k < gates.length), gates[k] = gateOf b k) ∧ Topo b ord.1 ∧ MapA m b l)) := by
 unfold F_impl_chancesOf
 dsimp only
 refine Ret.bind (impl_logicOf' hN hb hs u) ?_
 rintro ⟨o, c, u1⟩ ⟨hc, h0⟩
 dsimp only at hc h0 ⊢
 subst hc
 refine Ret.ifnd ?_ ?_ <;> intro hc
 ·have e : codeA b l s = codeN b s := by unfold codeA; rw [if_pos hc]
  exact Ret.ret ⟨e.symm, fun h => absurd (e.symm.trans h) hc⟩
 obtain ⟨hB, hR, hk, gates, ord, rfl, hg, ht⟩ := h0 hc
 refine Ret.call (impl_isAssignment hN hb hB hR hg hl ()) ?_
 dsimp only
 refine Ret.ifnc ?_ ?_ <;> intro hA
 ·have e : codeA b l s = 5 := by unfold codeA; rw [if_neg (not_not_intro hc), if_neg hA]
  exact Ret.ret ⟨e.symm, fun h => by omega⟩
 have e : codeA b l s = 0 := codeA_zero.2 ⟨hc, hA⟩
 refine Ret.call (impl_logic_sources hN hb hB hg ()) ?_
 dsimp only
 have h30 := srcOf_len' hB
 have hll := hA.2.1
 refine Ret.up (srcOf b).length (fun j t => ∀ q (h : q < (srcOf b).length), q < j → mget t.1 (srcOf b)[q] ((0, 0, ()), 0, ()) = l[q]'(by omega)) (by omega) (by omega) (fun q _ h => absurd h (Nat.not_lt_zero q)) ?_ ?_
 ·rintro j ⟨m, u2⟩ next hj g hn
  dsimp only at g ⊢
  rw [Int.toNat_natCast]
  refine Ret.must (by omega) (Ret.guardI hj (Ret.get hj (Ret.atN (by omega) (hn _ fun q hq hqi => ?_))))
  dsimp only
  rw [mget_mset]
  by_cases e : q = j
  ·subst e; rw [if_pos rfl]
  ·rw [if_neg fun h => ?_]
   ·exact g q hq (by omega)
   ·rcases Nat.lt_or_gt_of_ne e with hlt | hgt
    ·exact List.pairwise_iff_getElem.1 (srcOf_nodup b) q j hq hj hlt h
    ·omega
 ·rintro ⟨m, u2⟩ next g
  dsimp only at g ⊢
  refine Ret.mustN (by omega) (Ret.ret ⟨e.symm, fun _ => ⟨hA, hk, gates, ord, m, rfl, hg, ht, fun x hx => ?_⟩⟩)
  obtain ⟨q, hq, hqe⟩ := List.getElem_of_mem hx
  rw [pickA_at (srcOf_nodup b) hq (by omega) hqe, ← hqe]
  exact g q hq hq
end
section
variable {N : Nat} (hM : 1000000000000 ≤ N) {b : DBlock} (hb : SmallB b)
include hM hb
end
end Go.Proofs.YtdbmhfpphobmpaaGreatDoor
namespace Go.Proofs.YtdbmhfpphobmpaaGreatDoor
set_option linter.unusedSimpArgs false
set_option linter.unusedVariables false
set_option linter.unusedSectionVars false
set_option maxHeartbeats 1000000
def sumF (g : Nat → Int) : Nat → Int
 | 0 => 0
 | n + 1 => sumF g n + g n
theorem sumF_congr {g h : Nat → Int} : ∀ n, (∀ i, i < n → g i = h i) → sumF g n = sumF h n
 | 0, _ => rfl
 | n + 1, e => by unfold sumF; rw [sumF_congr n fun i hi => e i (by omega), e n (by omega)]
theorem sumF_split (g : Nat → Int) (m : Nat) : ∀ n, sumF g (m + n) = sumF g m + sumF (fun j => g (m + j)) n
 | 0 => by simp [sumF]
 | n + 1 => by
  rw [show m + (n + 1) = (m + n) + 1 by omega]
  simp only [sumF]
  rw [sumF_split g m n]
  omega
theorem sumF_mul (d : Int) (g : Nat → Int) : ∀ n, sumF (fun i => d * g i) n = d * sumF g n
 | 0 => by simp [sumF]
 | n + 1 => by simp only [sumF]; rw [sumF_mul d g n, Int.mul_add]
theorem bit_other {i p q : Nat} (h : i / 2 ^ p % 2 = 0) (hne : q ≠ p) : (i + 2 ^ p) / 2 ^ q % 2 = i / 2 ^ q % 2 := by
 rcases Nat.lt_or_gt_of_ne hne with hlt | hgt
 ·obtain ⟨r, rfl⟩ : ∃ r, p = q + (r + 1) := ⟨p - q - 1, by omega⟩
  rw [Nat.pow_add 2 q, Nat.add_mul_div_left _ _ (Nat.two_pow_pos q), Nat.pow_succ]
  omega
 ·obtain ⟨r, rfl⟩ : ∃ r, q = p + (r + 1) := ⟨q - p - 1, by omega⟩
  rw [Nat.pow_add 2 p, Nat.pow_succ, Nat.mul_comm (2 ^ r) 2, ← Nat.div_div_eq_div_mul, ← Nat.div_div_eq_div_mul, ← Nat.div_div_eq_div_mul, ← Nat.div_div_eq_div_mul, Nat.add_div_right _ (Nat.two_pow_pos p)]
  congr 2
  omega
def denA (A : Int → AT) (sup : List Int) (p : Nat) : Int := (A (sup[p]?.getD 0)).1.2.1
theorem wt_pair (A : Int → AT) (sup : List Int) {i p : Nat} (h : i / 2 ^ p % 2 = 0) : ∀ q, (q ≤ p → wtP A sup i (-1) q = wtP A sup i p q ∧ wtP A sup (i + 2 ^ p) (-1) q = wtP A sup i p q) ∧
 (p < q → wtP A sup i (-1) q + wtP A sup (i + 2 ^ p) (-1) q = denA A sup p * wtP A sup i p q)
 | 0 => ⟨fun _ => ⟨rfl, rfl⟩, fun h => absurd h (Nat.not_lt_zero _)⟩
 | q + 1 => by
  obtain ⟨h1, h2⟩ := wt_pair A sup h q
  have hne : ¬ ((q : Int) = -1) := by omega
  refine ⟨fun hq => ?_, fun hq => ?_⟩
  ·obtain ⟨e1, e2⟩ := h1 (by omega)
   unfold wtP
   rw [if_neg hne, if_neg (show ¬ ((q : Int) = (p : Int)) by omega), if_neg hne, bit_other h (by omega), e1, e2]
   exact ⟨rfl, rfl⟩
  ·by_cases e : q = p
   ·subst e
    obtain ⟨e1, e2⟩ := h1 (Nat.le_refl _)
    unfold wtP
    rw [if_neg hne, if_pos rfl, if_neg hne, half_add h, h, e1, e2]
    unfold fac denA
    simp only [decide_true, decide_false, if_true, show ¬ (0 = 1) by decide]
    generalize wtP A sup i (q : Int) q = W
    generalize (A (sup[q]?.getD 0)).1.2.1 = D
    generalize (A (sup[q]?.getD 0)).1.1 = n
    have e3 : W * (D - n) = W * D - W * n := Int.mul_sub _ _ _
    have e4 : W * D = D * W := Int.mul_comm _ _
    simp only [Bool.false_eq_true, if_false]
    omega
   ·have e3 := h2 (by omega)
    unfold wtP
    rw [if_neg hne, if_neg (show ¬ ((q : Int) = (p : Int)) by omega), if_neg hne, bit_other h (by omega), ← Int.add_mul, e3, Int.mul_assoc]
section
variable {N : Nat} (hN : 4000000 ≤ N)
include hN
end
section
variable {N : Nat} (hM : 1000000000000 ≤ N) {b : DBlock} (hb : SmallB b)
include hM hb
end
end Go.Proofs.YtdbmhfpphobmpaaGreatDoor
namespace Go.Proofs.YtdbmhfpphobmpaaGreatDoor
set_option linter.unusedSimpArgs false
set_option linter.unusedVariables false
set_option linter.unusedSectionVars false
set_option maxHeartbeats 1000000
def divU (t d : Int) : Int := if 0 < t.tmod d then IntKind.i64.wrap (IntKind.i64.wrap (t.tdiv d) + 1) else IntKind.i64.wrap (t.tdiv d)
def divL (t d : Int) : Int := IntKind.i64.wrap (t.tdiv d)
theorem spec_div1 {N : Nat} {t d : Int} (ht : 0 ≤ t) (hd : 1 ≤ d) (u : Unit) : F_spec_l01Div N (t, d, 1, u) = some (divU t d, ()) := by
 have h := Int.tmod_nonneg d ht
 unfold F_spec_l01Div divU
 have e : decide (d = 0) = false := by simp; omega
 have e2 : decide (t.tmod d < 0) = false := by simp; omega
 by_cases h0 : 0 < t.tmod d <;> simp [e, e2, h0]
theorem impl_div1 {N : Nat} {t d : Int} (ht : 0 ≤ t) (hd : 1 ≤ d) (u : Unit) : F_impl_divide N (t, d, 1, u) = some (divU t d, ()) := by
 have h := Int.tmod_nonneg d ht
 unfold F_impl_divide divU
 have e : decide (d = 0) = false := by simp; omega
 have e2 : decide (t.tmod d < 0) = false := by simp; omega
 by_cases h0 : 0 < t.tmod d <;> simp [e, e2, h0]
theorem spec_div0 {N : Nat} {t d : Int} (ht : 0 ≤ t) (hd : 1 ≤ d) (u : Unit) : F_spec_l01Div N (t, d, 0, u) = some (divL t d, ()) := by
 have h := Int.tmod_nonneg d ht
 unfold F_spec_l01Div divL
 have e : decide (d = 0) = false := by simp; omega
 have e2 : decide (t.tmod d < 0) = false := by simp; omega
 by_cases h0 : 0 < t.tmod d <;> simp [e, e2, h0]
theorem impl_div0 {N : Nat} {t d : Int} (ht : 0 ≤ t) (hd : 1 ≤ d) (u : Unit) : F_impl_divide N (t, d, 0, u) = some (divL t d, ()) := by
 have h := Int.tmod_nonneg d ht
 unfold F_impl_divide divL
 have e : decide (d = 0) = false := by simp; omega
 have e2 : decide (t.tmod d < 0) = false := by simp; omega
 by_cases h0 : 0 < t.tmod d <;> simp [e, e2, h0]
section
variable {N : Nat} (hM : 1000000000000 ≤ N) {b : DBlock} (hb : SmallB b)
include hM hb
end
end Go.Proofs.YtdbmhfpphobmpaaGreatDoor
namespace Go.Proofs.YtdbmhfpphobmpaaGreatDoor
set_option linter.unusedSimpArgs false
set_option linter.unusedVariables false
set_option linter.unusedSectionVars false
set_option maxHeartbeats 1000000
def ApartAt (b : DBlock) (l : List Int) (q : Nat) (h : q < l.length) : Prop := ∀ s ∈ supL b l[q].toNat, s ∉ (l.take q).flatMap fun i => supL b i.toNat
inductive TreeP (b : DBlock) : Nat → Prop
 | source {k : Nat} : gateOf b k < 0 → TreeP b k
 | gate {k : Nat} : 0 ≤ gateOf b k → (∀ q (h : q < (insOf b k).length), ApartAt b (insOf b k) q h) → (∀ i ∈ insOf b k, TreeP b i.toNat) → TreeP b k
theorem TreeP.iff {b : DBlock} {k : Nat} (h0 : 0 ≤ gateOf b k) : TreeP b k ↔ (∀ q (h : q < (insOf b k).length), ApartAt b (insOf b k) q h) ∧ ∀ i ∈ insOf b k, TreeP b i.toNat :=
 ⟨fun h => by
  cases h with
  | source h => omega
  | gate h1 h2 h3 => exact ⟨h2, h3⟩, fun h => .gate h0 h.1 h.2⟩
theorem has_eq {N : Nat} (hN : 4000000 ≤ N) {xs : List Int} (hl : xs.length < 4000000) (v : Int) (u : Unit) : F_spec_l28Has N (xs, v, u) = some (fidx (fun x => x = v) xs, ()) := by
 unfold F_spec_l28Has
 dsimp only
 have := indexFunc_eq (fun e => some (dec (e = v), ())) (fun x => x = v) (fun _ _ => rfl) hl hN
 rw [← this]
 simp only [obind_just, decide_dec]
section
variable {N : Nat} (hN : 4000000 ≤ N) {b : DBlock} (hb : SmallB b) (hB : BlockP b) {rank : Nat → Nat} (hr : RankP b rank)
include hN hb hB hr
theorem spec_l29Tree : ∀ (M k : Nat) (u : Unit), rank k < M → k < b.2.1.2.1.length → Ret (F_spec_l29Tree N M (b, (k : Int), u)) (Tells (TreeP b k))
 | 0, k, _, h, _ => absurd h (Nat.not_lt_zero _)
 | M + 1, k, u, hM, hk => by
  have hD := hB.1
  have hsm := block_small hB
  unfold F_spec_l29Tree
  dsimp only
  refine Ret.call (spec_l28Gate hN hb hB hk u) ?_
  dsimp only
  refine Ret.ifd ?_ ?_ <;> intro hg
  ·exact Ret.ret (by simp only [Tells, true_iff]; exact .source hg)
  have h0 : 0 ≤ gateOf b k := by omega
  rcases gateOf_cases hD hk with ⟨h1, _⟩ | ⟨j0, hj0, hP⟩
  ·omega
  refine Ret.call (by rw [hj0]; exact spec_l28Inputs hB hk hP ()) ?_
  dsimp only
  have hil := ins_len hB hk h0
  refine Ret.up (insOf b k).length (fun i s => s.1 = ((insOf b k).take i).flatMap (fun i => supL b i.toNat) ∧ ∀ q (h : q < (insOf b k).length), q < i → ApartAt b (insOf b k) q h) (by omega) (by omega) ⟨rfl, fun q _ h => absurd h (Nat.not_lt_zero q)⟩ ?_ ?_
  ·rintro i ⟨l, u1⟩ next hi ⟨hl, hI⟩ hn
   dsimp only at hl hI ⊢
   subst hl
   have hmem := List.getElem_mem hi
   obtain ⟨hi0, hi1⟩ := insOf_in hD hk hmem
   have e : (insOf b k)[i] = (((insOf b k)[i].toNat : Nat) : Int) := (Int.toNat_of_nonneg hi0).symm
   refine Ret.must (by omega) (Ret.atN hi ?_)
   have hsup := spec_l28Support hN hb hB hr hi1 ()
   rw [← e] at hsup
   refine Ret.call hsup ?_
   dsimp only
   have h1 := sups_len hB ((insOf b k).take i)
   have h2 := supL_len b (insOf b k)[i].toNat
   have hll : (((insOf b k).take i).flatMap fun i => supL b i.toNat).length ≤ 120 := by
    simp only [List.length_take] at h1
    have : min i (insOf b k).length * 30 ≤ 4 * 30 := Nat.mul_le_mul_right _ (by omega)
    omega
   refine Ret.up (supL b (insOf b k)[i].toNat).length (fun m _ => ∀ q (h : q < (supL b (insOf b k)[i].toNat).length), q < m → (supL b (insOf b k)[i].toNat)[q] ∉ ((insOf b k).take i).flatMap fun i => supL b i.toNat) (by omega) (by omega) (fun q _ h => absurd h (Nat.not_lt_zero q)) ?_ ?_
   ·rintro m u2 next2 hm hJ hn2
    dsimp only
    rw [Int.toNat_natCast]
    refine Ret.must (by omega) (Ret.guardI hm (Ret.get hm ?_))
    refine Ret.call (has_eq hN (by omega) _ ()) ?_
    dsimp only
    refine Ret.ifd ?_ ?_ <;> intro hf
    ·rw [fidx_nonneg] at hf
     obtain ⟨x, hx, rfl⟩ := hf
     refine Ret.ret ?_
     simp only [Tells, Bool.false_eq_true, false_iff]
     intro ht
     exact ((TreeP.iff h0).1 ht).1 i hi _ (List.getElem_mem hm) hx
    ·refine hn2 () fun q hq hqm => ?_
     by_cases hqe : q = m
     ·subst hqe
      intro hx
      exact hf (fidx_nonneg.2 ⟨_, hx, rfl⟩)
     ·exact hJ q hq (by omega)
   ·rintro u2 next2 hJ
    dsimp only
    refine Ret.mustN (by omega) ?_
    refine Ret.guard ?_ (hn _ ⟨(flat_succ hi _).symm, fun q hq hqi => ?_⟩)
    ·rw [List.length_append]; unfold lim; omega
    ·by_cases hqe : q = i
     ·subst hqe
      intro s hs
      obtain ⟨m, hm, rfl⟩ := List.getElem_of_mem hs
      exact hJ m hm hm
     ·exact hI q hq (by omega)
  ·rintro ⟨l, u1⟩ next ⟨hl, hI⟩
   dsimp only at hl hI ⊢
   refine Ret.mustN (by omega) ?_
   refine Ret.up (insOf b k).length (fun i _ => ∀ q (h : q < (insOf b k).length), q < i → TreeP b (insOf b k)[q].toNat) (by omega) (by omega) (fun q _ h => absurd h (Nat.not_lt_zero q)) ?_ ?_
   ·rintro i u2 next2 hi hJ hn2
    dsimp only
    have hmem := List.getElem_mem hi
    obtain ⟨hi0, hi1⟩ := insOf_in hD hk hmem
    have e : (insOf b k)[i] = (((insOf b k)[i].toNat : Nat) : Int) := (Int.toNat_of_nonneg hi0).symm
    refine Ret.must (by omega) (Ret.atN hi ?_)
    have hrk := hr.down k hk h0 _ hmem
    have hc := spec_l29Tree M (insOf b k)[i].toNat () (by omega) hi1
    rw [← e] at hc
    refine Ret.call hc.tells ?_
    dsimp only
    refine Ret.ifnc ?_ ?_ <;> intro ht
    ·refine Ret.ret ?_
     simp only [Tells, Bool.false_eq_true, false_iff]
     exact fun h => ht (((TreeP.iff h0).1 h).2 _ hmem)
    ·refine hn2 () fun q hq hqi => ?_
     by_cases hqe : q = i
     ·subst hqe; exact ht
     ·exact hJ q hq (by omega)
   ·rintro u2 next2 hJ
    dsimp only
    refine Ret.mustN (by omega) (Ret.ret ?_)
    simp only [Tells, true_iff]
    exact (TreeP.iff h0).2 ⟨fun q hq => hI q hq hq, fun i hi => by
     obtain ⟨q, hq, rfl⟩ := List.getElem_of_mem hi
     exact hJ q hq hq⟩
omit hb in
theorem impl_isTreeLike {gates : List Int} {ord : List Int × Unit} (hg : gates.length = b.2.1.2.1.length ∧ ∀ k (h : k < gates.length), gates[k] = gateOf b k) {S : List (List Int)} (hS : S.length = b.2.1.2.1.length ∧ ∀ k, k < b.2.1.2.1.length → S[k]? = some (supL b k)) :
 ∀ (M k : Nat) (u : Unit), rank k < M → k < b.2.1.2.1.length → Ret (F_impl_logic_isTreeLike N M (some (b, gates, ord), (k : Int), S, u)) (Tells (TreeP b k))
 | 0, k, _, h, _ => absurd h (Nat.not_lt_zero _)
 | M + 1, k, u, hM, hk => by
  have hD := hB.1
  have hsm := block_small hB
  unfold F_impl_logic_isTreeLike
  dsimp only
  refine Ret.call rfl ?_
  dsimp only
  rw [atI_nat (show k < gates.length by omega)]
  refine Ret.call rfl ?_
  rw [hg.2 k (by omega)]
  refine Ret.ifd ?_ ?_ <;> intro hgk
  ·exact Ret.ret (by simp only [Tells, true_iff]; exact .source hgk)
  have h0 : 0 ≤ gateOf b k := by omega
  refine Ret.call (impl_inputs hN hB hg hk h0 ()) ?_
  dsimp only
  have hil := ins_len hB hk h0
  refine Ret.up (insOf b k).length (fun i s => s.2.1 = ((insOf b k).take i).flatMap (fun i => supL b i.toNat) ∧ ∀ q (h : q < (insOf b k).length), q < i → ApartAt b (insOf b k) q h ∧ TreeP b (insOf b k)[q].toNat) (by omega) (by omega) ⟨rfl, fun q _ h => absurd h (Nat.not_lt_zero q)⟩ ?_ ?_
  ·rintro i ⟨u0, l, u1⟩ next hi ⟨hl, hI⟩ hn
   dsimp only at hl hI ⊢
   subst hl
   have hmem := List.getElem_mem hi
   obtain ⟨hi0, hi1⟩ := insOf_in hD hk hmem
   have e : (insOf b k)[i] = (((insOf b k)[i].toNat : Nat) : Int) := (Int.toNat_of_nonneg hi0).symm
   refine Ret.must (by omega) (Ret.atN hi ?_)
   have hsi := hS.2 _ hi1
   have hsat : atI S (insOf b k)[i] = some (supL b (insOf b k)[i].toNat) := by
    rw [atI_int hi0 (by omega)]
    rw [List.getElem?_eq_getElem (by omega)] at hsi
    exact hsi
   refine Ret.call hsat ?_
   have h1 := sups_len hB ((insOf b k).take i)
   have h2 := supL_len b (insOf b k)[i].toNat
   have hll : (((insOf b k).take i).flatMap fun i => supL b i.toNat).length ≤ 120 := by
    simp only [List.length_take] at h1
    have : min i (insOf b k).length * 30 ≤ 4 * 30 := Nat.mul_le_mul_right _ (by omega)
    omega
   have hrk := hr.down k hk h0 _ hmem
   have hc := impl_isTreeLike (ord := ord) hg hS M (insOf b k)[i].toNat u (by omega) hi1
   rw [← e] at hc
   have hc := hc.tells
   refine Ret.up (supL b (insOf b k)[i].toNat).length (fun m _ => ∀ q (h : q < (supL b (insOf b k)[i].toNat).length), q < m → (supL b (insOf b k)[i].toNat)[q] ∉ ((insOf b k).take i).flatMap fun i => supL b i.toNat) (by omega) (by omega) (fun q _ h => absurd h (Nat.not_lt_zero q)) ?_ ?_
   ·rintro m u2 next2 hm hJ hn2
    dsimp only
    refine Ret.must (by omega) (Ret.atN hm ?_)
    have hcon : F_slices_Contains_int64_int64 N (((insOf b k).take i).flatMap (fun i => supL b i.toNat), (supL b (insOf b k)[i].toNat)[m], ()) = some (dec (∃ x ∈ ((insOf b k).take i).flatMap (fun i => supL b i.toNat), (supL b (insOf b k)[i].toNat)[m] = x), ()) := by
     unfold F_slices_Contains_int64_int64 F_slices_Index_int64_int64
     exact containsFunc_eq (index_eq _ (show (((insOf b k).take i).flatMap fun i => supL b i.toNat).length < 4000000 by omega) hN)
    refine Ret.call hcon ?_
    dsimp only
    refine Ret.ifc ?_ ?_ <;> intro hf
    ·refine Ret.must (by omega) (Ret.ret ?_)
     obtain ⟨x, hx, rfl⟩ := hf
     simp only [Tells, Bool.false_eq_true, false_iff]
     intro ht
     exact ((TreeP.iff h0).1 ht).1 i hi _ (List.getElem_mem hm) hx
    ·refine hn2 () fun q hq hqm => ?_
     by_cases hqe : q = m
     ·subst hqe
      exact fun hx => hf ⟨_, hx, rfl⟩
     ·exact hJ q hq (by omega)
   ·rintro u2 next2 hJ
    dsimp only
    refine Ret.mustN (by omega) (Ret.mustN (by omega) ?_)
    refine Ret.call hc ?_
    dsimp only
    refine Ret.ifnc ?_ ?_ <;> intro ht
    ·refine Ret.ret ?_
     simp only [Tells, Bool.false_eq_true, false_iff]
     exact fun h => ht (((TreeP.iff h0).1 h).2 _ hmem)
    ·refine Ret.call hsat ?_
     refine Ret.guard ?_ (hn _ ⟨(flat_succ hi _).symm, fun q hq hqi => ?_⟩)
     ·rw [List.length_append]; unfold lim; omega
     ·by_cases hqe : q = i
      ·subst hqe
       refine ⟨fun s hs => ?_, ht⟩
       obtain ⟨m, hm, rfl⟩ := List.getElem_of_mem hs
       exact hJ m hm hm
      ·exact hI q hq (by omega)
  ·rintro ⟨u0, l, u1⟩ next ⟨hl, hI⟩
   dsimp only at hl hI ⊢
   refine Ret.mustN (by omega) (Ret.ret ?_)
   simp only [Tells, true_iff]
   exact (TreeP.iff h0).2 ⟨fun q hq => (hI q hq hq).1, fun i hi => by
    obtain ⟨q, hq, rfl⟩ := List.getElem_of_mem hi
    exact (hI q hq hq).2⟩
end
end Go.Proofs.YtdbmhfpphobmpaaGreatDoor
namespace Go.Proofs.YtdbmhfpphobmpaaGreatDoor
set_option linter.unusedSimpArgs false
set_option linter.unusedVariables false
set_option linter.unusedSectionVars false
set_option maxHeartbeats 1000000
abbrev FT := Int × Int × Unit
def FracB (f : FT) : Prop := (0 ≤ f.1 ∧ f.1 ≤ f.2.1) ∧ 1 ≤ f.2.1 ∧ f.2.1 ≤ 1000000
def OkB (A : Int → AT) (sup : List Int) : Prop := ∀ x ∈ sup, FracB (A x).1
theorem mulP {a c m n : Int} (ha : 0 ≤ a ∧ a ≤ m) (hc : 0 ≤ c ∧ c ≤ n) : 0 ≤ a * c ∧ a * c ≤ m * n :=
 ⟨Int.mul_nonneg ha.1 hc.1, Int.mul_le_mul ha.2 hc.2 hc.1 (Int.le_trans ha.1 ha.2)⟩
theorem dnP_succ (A : Int → AT) (sup : List Int) {p : Nat} (h : p < sup.length) : dnP A sup (-1) (p + 1) = dnP A sup (-1) p * (A sup[p]).1.2.1 := by
 conv => lhs; unfold dnP
 rw [if_neg (by omega), get0 h]
theorem wtP_succ (A : Int → AT) (sup : List Int) (i : Nat) {p : Nat} (h : p < sup.length) : wtP A sup i (-1) (p + 1) = wtP A sup i (-1) p * fac (A sup[p]) (decide (i / 2 ^ p % 2 = 1)) := by
 conv => lhs; unfold wtP
 rw [if_neg (by omega), get0 h]
theorem facB {a : AT} (h : FracB a.1) (b : Bool) : 0 ≤ fac a b ∧ fac a b ≤ a.1.2.1 := by
 unfold FracB at h
 unfold fac
 cases b <;> simp <;> omega
theorem dn_pos {A : Int → AT} {sup : List Int} (h : OkB A sup) : ∀ p, p ≤ sup.length → 1 ≤ dnP A sup (-1) p
 | 0, _ => by simp [dnP]
 | p + 1, hp => by
  have h1 := dn_pos h p (by omega)
  have h2 := h _ (List.getElem_mem (show p < sup.length by omega))
  rw [dnP_succ A sup (p := p) (by omega)]
  exact Int.le_trans (show (1 : Int) ≤ 1 * 1 by omega) (Int.mul_le_mul h1 h2.2.1 (by omega) (by omega))
theorem dn_mono {A : Int → AT} {sup : List Int} (h : OkB A sup) {p : Nat} : ∀ m, p + m ≤ sup.length → dnP A sup (-1) p ≤ dnP A sup (-1) (p + m)
 | 0, _ => Int.le_refl _
 | m + 1, hp => by
  have h1 := dn_mono (p := p) h m (by omega)
  have h2 := h _ (List.getElem_mem (show p + m < sup.length by omega))
  have h3 := dn_pos h (p + m) (by omega)
  rw [show p + (m + 1) = (p + m) + 1 by omega, dnP_succ A sup (p := p + m) (by omega)]
  have h4 : dnP A sup (-1) (p + m) * 1 ≤ dnP A sup (-1) (p + m) * (A sup[p + m]).1.2.1 := Int.mul_le_mul_of_nonneg_left h2.2.1 (by omega)
  omega
theorem wt_bd {A : Int → AT} {sup : List Int} (h : OkB A sup) (i : Nat) : ∀ p, p ≤ sup.length → 0 ≤ wtP A sup i (-1) p ∧ wtP A sup i (-1) p ≤ dnP A sup (-1) p
 | 0, _ => by simp [wtP, dnP]
 | p + 1, hp => by
  rw [dnP_succ A sup (p := p) (by omega), wtP_succ A sup i (p := p) (by omega)]
  exact mulP (wt_bd h i p (by omega)) (facB (h _ (List.getElem_mem (show p < sup.length by omega))) _)
theorem sum_wt (A : Int → AT) (sup : List Int) : ∀ n, n ≤ sup.length → sumF (fun i => wtP A sup i (-1) n) (2 ^ n) = dnP A sup (-1) n
 | 0, _ => by simp [sumF, wtP, dnP]
 | n + 1, h => by
  have ih := sum_wt A sup n (by omega)
  have e : 2 ^ (n + 1) = 2 ^ n + 2 ^ n := by rw [Nat.pow_succ, Nat.mul_two]
  rw [e, sumF_split, dnP_succ A sup (by omega), ← ih]
  have lo : ∀ i, i < 2 ^ n → i / 2 ^ n % 2 = 0 := fun i hi => by rw [Nat.div_eq_of_lt hi]
  rw [sumF_congr (g := fun i => wtP A sup i (-1) (n + 1)) (h := fun i => ((A sup[n]).1.2.1 - (A sup[n]).1.1) * wtP A sup i (-1) n) (2 ^ n) fun i hi => by
   show wtP A sup i (-1) (n + 1) = _
   rw [wtP_succ A sup i (by omega), lo i hi]
   unfold fac
   simp only [show decide (0 = 1) = false from rfl, Bool.false_eq_true, if_false]
   rw [Int.mul_comm]]
  rw [sumF_congr (g := fun j => (fun i => wtP A sup i (-1) (n + 1)) (2 ^ n + j)) (h := fun i => (A sup[n]).1.1 * wtP A sup i (-1) n) (2 ^ n) fun i hi => by
   show wtP A sup (2 ^ n + i) (-1) (n + 1) = _
   rw [Nat.add_comm (2 ^ n) i, wtP_succ A sup (i + 2 ^ n) (by omega), half_add (lo i hi)]
   obtain ⟨e1, e2⟩ := (wt_pair A sup (lo i hi) n).1 (Nat.le_refl _)
   rw [e2, ← e1]
   unfold fac
   simp only [decide_true, if_true]
   rw [Int.mul_comm]]
  rw [sumF_mul, sumF_mul, ← Int.add_mul, Int.mul_comm]
  congr 1
  omega
theorem sumW_le {f : List Int} (hf : Bits01 f) {w : Nat → Int} (hw : ∀ i, 0 ≤ w i) : ∀ n, 0 ≤ sumW f w n ∧ sumW f w n ≤ sumF w n
 | 0 => by simp [sumW, sumF]
 | n + 1 => by
  have h1 := sumW_le hf hw n
  have h2 := hw n
  unfold sumW sumF
  rcases get01 hf n with h3 | h3 <;> rw [h3] <;> omega
theorem redF_ok {n d : Int} (hn : 0 ≤ n ∧ n ≤ d) (hd : 1 ≤ d) : (0 ≤ (redF n d).1 ∧ (redF n d).1 ≤ (redF n d).2.1) ∧ 1 ≤ (redF n d).2.1 ∧ (redF n d).2.1 ≤ d := by
 obtain ⟨a, rfl⟩ : ∃ a : Nat, n = a := ⟨n.toNat, by omega⟩
 obtain ⟨c, rfl⟩ : ∃ c : Nat, d = c := ⟨d.toNat, by omega⟩
 unfold redF
 simp only [Int.toNat_natCast]
 have hg : 0 < Nat.gcd a c := Nat.gcd_pos_of_pos_right _ (by omega)
 have hl : Nat.gcd a c ≤ c := Nat.gcd_le_right _ (by omega)
 generalize Nat.gcd a c = g at *
 have h1 : a / g ≤ c / g := Nat.div_le_div_right (by omega)
 have h2 : c / g ≤ c := Nat.div_le_self _ _
 have h3 : 0 < c / g := Nat.div_pos hl hg
 have e1 : (a : Int).tdiv (g : Int) = ((a / g : Nat) : Int) := rfl
 have e2 : (c : Int).tdiv (g : Int) = ((c / g : Nat) : Int) := rfl
 rw [e1, e2]
 generalize a / g = x at *
 generalize c / g = y at *
 omega
noncomputable def combS (truth : List Int) (A : Int → AT) (sup : List Int) : Int := sumW truth (fun i => wtP A sup i (-1) sup.length) (2 ^ sup.length)
noncomputable def comb (truth : List Int) (A : Int → AT) (sup : List Int) : Option FT := if 1000000 < dnP A sup (-1) sup.length then none else some (redF (combS truth A sup) (dnP A sup (-1) sup.length))
def outO : Option FT → FT × Bool × Unit
 | none => ((0, 0, ()), false, ())
 | some f => (f, true, ())
theorem combS_bd {truth : List Int} {A : Int → AT} {sup : List Int} (ht : Bits01 truth) (h : OkB A sup) : 0 ≤ combS truth A sup ∧ combS truth A sup ≤ dnP A sup (-1) sup.length := by
 have := sumW_le ht (w := fun i => wtP A sup i (-1) sup.length) (fun i => (wt_bd h i _ (Nat.le_refl _)).1) (2 ^ sup.length)
 rw [sum_wt A sup _ (Nat.le_refl _)] at this
 exact this
theorem comb_ok {truth : List Int} {A : Int → AT} {sup : List Int} (ht : Bits01 truth) (h : OkB A sup) {f : FT} (hf : comb truth A sup = some f) : FracB f := by
 unfold comb at hf
 split at hf
 ·cases hf
 ·cases hf
  have := redF_ok (combS_bd ht h) (dn_pos h _ (Nat.le_refl _))
  unfold FracB
  omega
theorem pow2_4 {n : Nat} (h : n ≤ 4) : 2 ^ n ≤ 16 := by
 have := Nat.pow_le_pow_right (show 0 < 2 by omega) h
 simpa using this
section
variable {N : Nat} (hM : 1000000000000 ≤ N)
include hM
theorem spec_l29Combined {truth : List Int} {A : Int → AT} {sup : List Int} (h4 : sup.length ≤ 4) (htl : truth.length = 2 ^ sup.length) (ht : Bits01 truth) (hA : OkB A sup) (u : Unit) :
 F_spec_l29Combined N (truth, sup.map (fun x => (A x).1), u) = some (outO (comb truth A sup)) := by
 have h16 := pow2_4 h4
 obtain ⟨ps, hps⟩ : ∃ ps : List FT, ps = sup.map (fun x => (A x).1) := ⟨_, rfl⟩
 have hpl : ps.length = sup.length := by rw [hps]; simp
 have hpe : ∀ q (h : q < ps.length), ps[q] = (A (sup[q]'(by omega))).1 := fun q h => by simp only [hps, List.getElem_map]
 rw [← hps]
 refine Ret.eq ?_
 unfold F_spec_l29Combined
 dsimp only
 refine Ret.upM 0 ps.length (fun p (d : Int) (_ : Unit) => d = dnP A sup (-1) p ∧ d ≤ 1000000) (by omega) (by omega) (by omega) ⟨rfl, by omega⟩ ?_ ?_
 ·rintro p d u1 next _ hp ⟨rfl, hd⟩ hn
  dsimp only
  refine Ret.must (by omega) (Ret.atN hp ?_)
  rw [hpe p hp]
  have ha := hA _ (List.getElem_mem (show p < sup.length by omega))
  have hd1 := dn_pos hA p (by omega)
  have hb := mulP (a := dnP A sup (-1) p) ⟨by omega, hd⟩ ⟨by have := ha.2.1; omega, ha.2.2⟩
  rw [← dnP_succ A sup (by omega)] at hb ⊢
  rw [wrapI (by omega) (by omega)]
  refine Ret.ifd ?_ ?_ <;> intro h
  ·have hm := dn_mono hA (p := p + 1) (sup.length - (p + 1)) (by omega)
   rw [show p + 1 + (sup.length - (p + 1)) = sup.length by omega] at hm
   unfold comb
   rw [if_pos (by omega)]
   exact Ret.ret rfl
  ·exact hn _ _ ⟨rfl, by omega⟩
 ·rintro d u1 next ⟨hde, hd⟩
  dsimp only
  refine Ret.mustN (by omega) ?_
  rw [hpl] at hde
  subst hde
  have hcs := combS_bd ht hA
  have hd1 := dn_pos hA _ (Nat.le_refl _)
  have hsw : ∀ n, n ≤ 16 → 0 ≤ sumW truth (fun i => wtP A sup i (-1) sup.length) n ∧ sumW truth (fun i => wtP A sup i (-1) sup.length) n ≤ 16000000 := fun n hn => by
   have := sumW_bound ht (m := 1000000) (by omega) (fun i => ⟨(wt_bd hA i _ (Nat.le_refl _)).1, Int.le_trans (wt_bd hA i _ (Nat.le_refl _)).2 hd⟩) n
   omega
  refine Ret.upM 0 truth.length (fun i (n : Int) (_ : Unit) => n = sumW truth (fun i => wtP A sup i (-1) sup.length) i) (by omega) (by omega) (by omega) rfl ?_ ?_
  ·rintro i n u2 next2 _ hi rfl hn2
   dsimp only
   refine Ret.must (by omega) (Ret.atN hi ?_)
   have hti := ht _ (List.getElem_mem hi)
   rw [hpl]
   refine Ret.call (spec_l28Bits (show 4000000 ≤ N by omega) (by omega) (by omega) ()) ?_
   dsimp only
   refine Ret.upM 0 sup.length (fun p (n : Int) (_ : Unit) => n = truth[i] * wtP A sup i (-1) p) (by omega) (by omega) (by omega) (by simp [wtP]) ?_ ?_
   ·rintro p n u3 next3 _ hp rfl hn3
    dsimp only
    rw [Int.toNat_natCast]
    have hbl := bitsOf_len sup.length i
    refine Ret.must (by omega) (Ret.guardI (by omega) (Ret.get (by omega) ?_))
    rw [bitsOf_get]
    have ha := hA _ (List.getElem_mem hp)
    have hw := wt_bd hA i p (by omega)
    have hm := dn_mono hA (p := p) (sup.length - p) (by omega)
    rw [show p + (sup.length - p) = sup.length by omega] at hm
    have hfa := facB ha
    unfold FracB at ha
    have h0 : 0 ≤ truth[i] * wtP A sup i (-1) p ∧ truth[i] * wtP A sup i (-1) p ≤ 1000000 := by
     rcases hti with h | h <;> rw [h] <;> omega
    have hr : ∀ bit, 0 ≤ truth[i] * wtP A sup i (-1) p * fac (A sup[p]) bit ∧ truth[i] * wtP A sup i (-1) p * fac (A sup[p]) bit ≤ 1000000 * 1000000 := fun bit => mulP h0 ⟨(hfa bit).1, by have := (hfa bit).2; omega⟩
    have key : ∀ bit : Bool, decide (i / 2 ^ p % 2 = 1) = bit → IntKind.i64.wrap (truth[i] * wtP A sup i (-1) p * fac (A sup[p]) bit) = truth[i] * wtP A sup i (-1) (p + 1) := fun bit hbit => by
     have := hr bit
     rw [wrapI (by omega) (by omega), wtP_succ A sup i hp, hbit, Int.mul_assoc]
    refine Ret.ifd ?_ ?_ <;> intro hbit
    ·refine Ret.atN (by omega) ?_
     rw [hpe p (by omega)]
     exact hn3 _ _ (key true (by simp; omega))
    ·refine Ret.atN (by omega) (Ret.atN (by omega) ?_)
     rw [hpe p (by omega), wrapI (n := (A sup[p]).1.2.1 - (A sup[p]).1.1) (by omega) (by omega)]
     exact hn3 _ _ (key false (by simp; omega))
   ·rintro n u3 next3 rfl
    dsimp only
    refine Ret.mustN (by omega) ?_
    have h1 := hsw i (by omega)
    have h2 := hsw (i + 1) (by omega)
    have e : sumW truth (fun i => wtP A sup i (-1) sup.length) (i + 1) = sumW truth (fun i => wtP A sup i (-1) sup.length) i + truth[i] * wtP A sup i (-1) sup.length := by
     conv => lhs; unfold sumW
     rw [get0 hi]
    rw [← e, wrapI (by omega) (by omega)]
    exact hn2 _ _ rfl
  ·rintro n u2 next2 rfl
   dsimp only
   refine Ret.mustN (by omega) ?_
   rw [htl]
   have hro := redF_ok hcs hd1
   refine Ret.call (spec_reduce hM (n := combS truth A sup) (by omega) (by omega) ()) ?_
   unfold comb
   rw [if_neg (by omega), if_neg (by omega)]
   exact Ret.ret rfl
end
open Classical in
noncomputable def riseN (b : DBlock) (l : List AT) : Nat → Nat → Option FT
 | 0, _ => none
 | m + 1, k => if gateOf b k < 0 then some (pickA (srcOf b) l (k : Int)).1 else
  if ∀ i ∈ insOf b k, riseN b l m i.toNat ≠ none then comb (truthOf b k) (fun x => ((riseN b l m x.toNat).getD (0, 0, ()), 0, ())) (insOf b k) else none
noncomputable def riseA (b : DBlock) (l : List AT) (m : Nat) (x : Int) : AT := ((riseN b l m x.toNat).getD (0, 0, ()), 0, ())
theorem truth01 {b : DBlock} (hB : BlockP b) {rank : Nat → Nat} (hr : RankP b rank) {k : Nat} (hk : k < b.2.1.2.1.length) (hg : 0 ≤ gateOf b k) : (truthOf b k).length = 2 ^ (insOf b k).length ∧ Bits01 (truthOf b k) := by
 obtain ⟨h1, h2⟩ := truth_ok hB hk hg
 exact ⟨h1, fun v hv => by have := h2 v hv; omega⟩
section
variable {N : Nat} (hM : 1000000000000 ≤ N) {b : DBlock} (hb : SmallB b) (hB : BlockP b) {rank : Nat → Nat} (hr : RankP b rank) {l : List AT} (hA : AssignP b l)
include hB hr hA
theorem src_mem {k : Nat} (hk : k < b.2.1.2.1.length) (hg : gateOf b k < 0) : (k : Int) ∈ srcOf b := srcOf_mem.2 ⟨k, rfl, hk, hg⟩
theorem rise_ok : ∀ (m k : Nat) (f : FT), k < b.2.1.2.1.length → riseN b l m k = some f → FracB f
 | 0, _, _, _, h => by cases h
 | m + 1, k, f, hk, h => by
  unfold riseN at h
  split at h
  ·rename_i hg
   cases h
   have hs := src_mem hB hr hA hk hg
   have := okA_of hA (sup := [(k : Int)]) (fun x hx => by simp only [List.mem_singleton] at hx; subst hx; exact hs) (k : Int) (by simp)
   unfold FracB
   omega
  ·rename_i hg
   split at h
   ·rename_i hall
    obtain ⟨_, ht⟩ := truth01 hB hr hk (by omega)
    refine comb_ok ht (fun x hx => ?_) h
    obtain ⟨h0, h1⟩ := insOf_in hB.1 hk hx
    cases hv : riseN b l m x.toNat with
    | none => exact absurd hv (hall x hx)
    | some g =>
     have := rise_ok m x.toNat g h1 hv
     simpa [hv] using this
   ·cases h
theorem riseA_ok {m k : Nat} (hk : k < b.2.1.2.1.length) (hall : ∀ i ∈ insOf b k, riseN b l m i.toNat ≠ none) : OkB (riseA b l m) (insOf b k) := by
 intro x hx
 obtain ⟨h0, h1⟩ := insOf_in hB.1 hk hx
 cases hv : riseN b l m x.toNat with
 | none => exact absurd hv (hall x hx)
 | some g =>
  have := rise_ok hB hr hA m x.toNat g h1 hv
  unfold riseA
  simpa [hv] using this
include hM hb
theorem spec_l29Rise : ∀ (M k : Nat) (u : Unit), rank k < M → k < b.2.1.2.1.length → F_spec_l29Rise N M (b, l, (k : Int), u) = some (outO (riseN b l M k))
 | 0, k, _, h, _ => absurd h (Nat.not_lt_zero _)
 | M + 1, k, u, hM', hk => by
  have hN : 4000000 ≤ N := by omega
  have hD := hB.1
  refine Ret.eq ?_
  unfold F_spec_l29Rise
  dsimp only
  refine Ret.call (spec_l28Gate hN hb hB hk u) ?_
  dsimp only
  refine Ret.ifd ?_ ?_ <;> intro hg
  ·refine Ret.call (spec_l29Of hN hb hB hA.2.1 (src_mem hB hr hA hk hg) u) ?_
   unfold riseN
   rw [if_pos hg]
   exact Ret.ret rfl
  have h0 : 0 ≤ gateOf b k := by omega
  rcases gateOf_cases hD hk with ⟨h1, _⟩ | ⟨j0, hj0, hP⟩
  ·omega
  refine Ret.call (by rw [hj0]; exact spec_l28Inputs hB hk hP ()) ?_
  dsimp only
  have hil := ins_len hB hk h0
  have hgate : ∀ c : Prop, ((∀ i ∈ insOf b k, riseN b l M i.toNat ≠ none) ↔ c) → (c → riseN b l (M + 1) k = comb (truthOf b k) (riseA b l M) (insOf b k)) ∧ (¬ c → riseN b l (M + 1) k = none) := by
   intro c hc
   constructor
   ·intro h
    conv => lhs; unfold riseN
    rw [if_neg hg, if_pos (hc.2 h)]; rfl
   ·intro h
    conv => lhs; unfold riseN
    rw [if_neg hg, if_neg (fun h' => h (hc.1 h'))]
  refine Ret.up (insOf b k).length (fun i (s : List FT × Unit) => s.1 = ((insOf b k).take i).map (fun x => (riseA b l M x).1) ∧ ∀ x ∈ (insOf b k).take i, riseN b l M x.toNat ≠ none) (by omega) (by omega) ⟨rfl, fun x hx => by simp at hx⟩ ?_ ?_
  ·rintro i ⟨ps, u1⟩ next hi ⟨hps, hI⟩ hn
   dsimp only at hps hI ⊢
   have hmem := List.getElem_mem hi
   obtain ⟨hi0, hi1⟩ := insOf_in hD hk hmem
   have e : (insOf b k)[i] = (((insOf b k)[i].toNat : Nat) : Int) := (Int.toNat_of_nonneg hi0).symm
   refine Ret.must (by omega) (Ret.atN hi ?_)
   have hrk := hr.down k hk h0 _ hmem
   have hc := spec_l29Rise M (insOf b k)[i].toNat () (by omega) hi1
   rw [← e] at hc
   refine Ret.call hc ?_
   cases hv : riseN b l M (insOf b k)[i].toNat with
   | none =>
    rw [((hgate _ Iff.rfl).2 fun h => h _ hmem hv)]
    exact Ret.ret rfl
   | some f =>
    have hpl : (ps ++ [f]).length ≤ lim := by
     rw [hps]; simp only [List.length_append, List.length_map, List.length_take, List.length_singleton]; unfold lim; omega
    refine Ret.guard hpl (hn _ ⟨?_, fun x hx => ?_⟩)
    ·dsimp only
     rw [hps, List.take_succ_eq_append_getElem hi, List.map_append]
     simp [riseA, hv, outO]
    ·rw [List.take_succ_eq_append_getElem hi, List.mem_append, List.mem_singleton] at hx
     rcases hx with hx | rfl
     ·exact hI x hx
     ·rw [hv]; simp
  ·rintro ⟨ps, u1⟩ next ⟨hps, hI⟩
   dsimp only at hps hI ⊢
   refine Ret.mustN (by omega) ?_
   rw [List.take_length] at hps hI
   rw [hj0]
   have hjl := hP.1
   refine Ret.atN hjl (Ret.atZ (inst_ok hD hjl).1.1 (inst_ok hD hjl).1.2 ?_)
   rw [truth_cell hD hj0 hP, hps]
   obtain ⟨htl, ht⟩ := truth01 hB hr hk h0
   refine Ret.call (spec_l29Combined hM (A := riseA b l M) hil.2 htl ht (riseA_ok hB hr hA hk hI) u1) ?_
   rw [(hgate _ Iff.rfl).1 hI]
   exact Ret.ret rfl
omit hb in
theorem impl_treeProbability {gates : List Int} {ord : List Int × Unit} (hg : gates.length = b.2.1.2.1.length ∧ ∀ k (h : k < gates.length), gates[k] = gateOf b k) {m : List (Int × AT)} (hm : MapA m b l) (v : Unit) :
 ∀ (M k : Nat) (u : Unit), rank k < M → k < b.2.1.2.1.length → F_impl_chances_treeProbability N M (some (some (b, gates, ord), m, v), (k : Int), u) = some (outO (riseN b l M k))
 | 0, k, _, h, _ => absurd h (Nat.not_lt_zero _)
 | M + 1, k, u, hM', hk => by
  have hN : 4000000 ≤ N := by omega
  have hD := hB.1
  refine Ret.eq ?_
  unfold F_impl_chances_treeProbability
  dsimp only
  refine Ret.call rfl (Ret.call rfl ?_)
  dsimp only
  refine Ret.atN (by omega) ?_
  rw [hg.2 k (by omega)]
  refine Ret.ifd ?_ ?_ <;> intro hgk
  ·refine Ret.call rfl ?_
   dsimp only
   rw [hm _ (src_mem hB hr hA hk hgk)]
   unfold riseN
   rw [if_pos hgk]
   exact Ret.ret rfl
  have h0 : 0 ≤ gateOf b k := by omega
  rcases gateOf_cases hD hk with ⟨h1, _⟩ | ⟨j0, hj0, hP⟩
  ·omega
  refine Ret.call rfl ?_
  refine Ret.call (impl_inputs hN hB hg hk h0 u) ?_
  dsimp only
  have hil := ins_len hB hk h0
  have hgate : ((∀ i ∈ insOf b k, riseN b l M i.toNat ≠ none) → riseN b l (M + 1) k = comb (truthOf b k) (riseA b l M) (insOf b k)) ∧ (¬ (∀ i ∈ insOf b k, riseN b l M i.toNat ≠ none) → riseN b l (M + 1) k = none) := by
   constructor
   ·intro h
    conv => lhs; unfold riseN
    rw [if_neg hgk, if_pos h]; rfl
   ·intro h
    conv => lhs; unfold riseN
    rw [if_neg hgk, if_neg h]
  refine Ret.upM 0 (insOf b k).length (fun i (d : Int) (s : List FT × Unit) => (d = dnP (riseA b l M) (insOf b k) (-1) i ∧ 1 ≤ d ∧ d ≤ 1000000) ∧ s.1 = ((insOf b k).take i).map (fun x => (riseA b l M x).1) ∧ ∀ x ∈ (insOf b k).take i, riseN b l M x.toNat ≠ none) (by omega) (by omega) (by omega) ⟨⟨rfl, by omega, by omega⟩, rfl, fun x hx => by simp at hx⟩ ?_ ?_
  ·rintro i d ⟨ps, u1⟩ next _ hi ⟨⟨hde, hd1, hd2⟩, hps, hI⟩ hn
   dsimp only at hps hI ⊢
   have hmem := List.getElem_mem hi
   obtain ⟨hi0, hi1⟩ := insOf_in hD hk hmem
   have e : (insOf b k)[i] = (((insOf b k)[i].toNat : Nat) : Int) := (Int.toNat_of_nonneg hi0).symm
   refine Ret.must (by omega) (Ret.atN hi ?_)
   have hrk := hr.down k hk h0 _ hmem
   have hc := impl_treeProbability (ord := ord) hg hm v M (insOf b k)[i].toNat () (by omega) hi1
   rw [← e] at hc
   refine Ret.call hc ?_
   cases hv : riseN b l M (insOf b k)[i].toNat with
   | none =>
    rw [(hgate.2 fun h => h _ hmem hv)]
    exact Ret.ret rfl
   | some f =>
    have hf := rise_ok hB hr hA M _ f hi1 hv
    have hAe : (riseA b l M (insOf b k)[i]).1 = f := by simp [riseA, hv]
    have hdn : d * f.2.1 = dnP (riseA b l M) (insOf b k) (-1) (i + 1) := by rw [dnP_succ _ _ hi, ← hde, hAe]
    have hb2 := mulP (a := d) ⟨by omega, hd2⟩ ⟨by have := hf.2.1; omega, hf.2.2⟩
    have hb1 : 1 * 1 ≤ d * f.2.1 := Int.mul_le_mul hd1 hf.2.1 (by omega) (by omega)
    have hwr : IntKind.i64.wrap (d * f.2.1) = d * f.2.1 := wrapI (n := d * f.2.1) (by omega) (by omega)
    simp only [outO, Bool.not_true, cond_false]
    refine Ret.ifd ?_ ?_ <;> intro hlim <;> rw [hwr] at hlim
    ·by_cases hall : ∀ i ∈ insOf b k, riseN b l M i.toNat ≠ none
     ·have hok := riseA_ok hB hr hA hk hall
      have hmo := dn_mono hok (p := i + 1) ((insOf b k).length - (i + 1)) (by omega)
      rw [show i + 1 + ((insOf b k).length - (i + 1)) = (insOf b k).length by omega] at hmo
      rw [hgate.1 hall]
      unfold comb
      rw [if_pos (by omega)]
      exact Ret.ret rfl
     ·rw [hgate.2 hall]
      exact Ret.ret rfl
    ·have hpl : (ps ++ [f]).length ≤ lim := by
      rw [hps]; simp only [List.length_append, List.length_map, List.length_take, List.length_singleton]; unfold lim; omega
     refine Ret.guard hpl (hn _ _ ⟨⟨hwr.trans hdn, by rw [hwr]; omega, by rw [hwr]; omega⟩, ?_, fun x hx => ?_⟩)
     ·dsimp only
      rw [hps, List.take_succ_eq_append_getElem hi, List.map_append]
      simp [riseA, hv]
     ·rw [List.take_succ_eq_append_getElem hi, List.mem_append, List.mem_singleton] at hx
      rcases hx with hx | rfl
      ·exact hI x hx
      ·rw [hv]; simp
  ·rintro d ⟨ps, u1⟩ next ⟨⟨hde, hd1, hd2⟩, hps, hI⟩
   dsimp only at hps hI ⊢
   refine Ret.mustN (by omega) ?_
   rw [List.take_length] at hps hI
   refine Ret.call rfl (Ret.call rfl (Ret.call rfl (Ret.call rfl ?_)))
   dsimp only
   refine Ret.atN (by omega) ?_
   rw [hg.2 k (by omega), hj0]
   refine Ret.call (impl_cellOf hD hP.1 ()) ?_
   dsimp only
   rw [truth_cell hD hj0 hP]
   obtain ⟨htl, ht⟩ := truth01 hB hr hk h0
   have hok := riseA_ok hB hr hA hk hI
   rw [hgate.1 hI]
   generalize hAd : riseA b l M = A at *
   generalize hsd : insOf b k = sup at *
   generalize truthOf b k = truth at *
   have h16 := pow2_4 hil.2
   have hpl : ps.length = sup.length := by rw [hps]; simp
   have hpe : ∀ q (h : q < ps.length), ps[q] = (A (sup[q]'(by omega))).1 := fun q h => by simp only [hps, List.getElem_map]
   subst hde
   have hcs := combS_bd ht hok
   have hsw : ∀ n, n ≤ 16 → 0 ≤ sumW truth (fun i => wtP A sup i (-1) sup.length) n ∧ sumW truth (fun i => wtP A sup i (-1) sup.length) n ≤ 16000000 := fun n hn => by
    have := sumW_bound ht (m := 1000000) (by omega) (fun i => ⟨(wt_bd hok i _ (Nat.le_refl _)).1, Int.le_trans (wt_bd hok i _ (Nat.le_refl _)).2 hd2⟩) n
    omega
   refine Ret.upM 0 truth.length (fun i (n : Int) (_ : Unit) => n = sumW truth (fun i => wtP A sup i (-1) sup.length) i) (by omega) (by omega) (by omega) rfl ?_ ?_
   ·rintro i n u2 next2 _ hi rfl hn2
    dsimp only
    refine Ret.must (by omega) (Ret.atN hi ?_)
    have hti := ht _ (List.getElem_mem hi)
    refine Ret.upM 0 sup.length (fun p (n : Int) (_ : Unit) => n = truth[i] * wtP A sup i (-1) p) (by omega) (by omega) (by omega) (by simp [wtP]) ?_ ?_
    ·rintro p n u3 next3 _ hp rfl hn3
     dsimp only
     rw [Int.toNat_natCast]
     refine Ret.must (by omega) (Ret.guardI (by omega) (Ret.get (by omega) (Ret.guard (by omega) ?_)))
     have hab := and_bit (i := i) (p := p) (by omega) (by omega)
     rw [Int.toNat_natCast] at hab
     rw [hab, hpe p (by omega)]
     have ha := hok _ (List.getElem_mem hp)
     have hw := wt_bd hok i p (by omega)
     have hmo := dn_mono hok (p := p) (sup.length - p) (by omega)
     rw [show p + (sup.length - p) = sup.length by omega] at hmo
     have hfa := facB ha
     unfold FracB at ha
     have h0' : 0 ≤ truth[i] * wtP A sup i (-1) p ∧ truth[i] * wtP A sup i (-1) p ≤ 1000000 := by
      rcases hti with h | h <;> rw [h] <;> omega
     have hr' : ∀ bit, 0 ≤ truth[i] * wtP A sup i (-1) p * fac (A sup[p]) bit ∧ truth[i] * wtP A sup i (-1) p * fac (A sup[p]) bit ≤ 1000000 * 1000000 := fun bit => mulP h0' ⟨(hfa bit).1, by have := (hfa bit).2; omega⟩
     have key : ∀ bit : Bool, decide (i / 2 ^ p % 2 = 1) = bit → IntKind.i64.wrap (truth[i] * wtP A sup i (-1) p * fac (A sup[p]) bit) = truth[i] * wtP A sup i (-1) (p + 1) := fun bit hbit => by
      have := hr' bit
      rw [wrapI (by omega) (by omega), wtP_succ A sup i hp, hbit, Int.mul_assoc]
     refine Ret.ifd ?_ ?_ <;> intro hbit
     ·exact hn3 _ _ (key true (by simp; omega))
     ·rw [wrapI (n := (A sup[p]).1.2.1 - (A sup[p]).1.1) (by omega) (by omega)]
      exact hn3 _ _ (key false (by simp; omega))
    ·rintro n u3 next3 rfl
     dsimp only
     refine Ret.mustN (by omega) ?_
     have h1 := hsw i (by omega)
     have h2 := hsw (i + 1) (by omega)
     have e : sumW truth (fun i => wtP A sup i (-1) sup.length) (i + 1) = sumW truth (fun i => wtP A sup i (-1) sup.length) i + truth[i] * wtP A sup i (-1) sup.length := by
      conv => lhs; unfold sumW
      rw [get0 hi]
     rw [← e, wrapI (by omega) (by omega)]
     exact hn2 _ _ rfl
   ·rintro n u2 next2 rfl
    dsimp only
    refine Ret.mustN (by omega) ?_
    rw [htl]
    refine Ret.call (impl_reduced hM (n := combS truth A sup) (by omega) (by omega) ()) ?_
    unfold comb
    rw [if_neg (by omega)]
    exact Ret.ret rfl
end
noncomputable def treeAns (b : DBlock) (l : List AT) (N : Nat) (k : Int) : FT × Int × Unit :=
 if codeA b l [k] ≠ 0 then ((0, 0, ()), codeA b l [k], ()) else @ite _ (TreeP b k.toNat) (Classical.propDecidable _) (match riseN b l N k.toNat with
  | none => ((0, 0, ()), 3, ())
  | some f => (f, 0, ())) ((0, 0, ()), 4, ())
section
variable {N : Nat} (hM : 1000000000000 ≤ N) {b : DBlock} (hb : SmallB b)
include hM hb
theorem spec_TreeProbability {l : List AT} (hl : l.length < 4000000) (k : Int) (u : Unit) : F_spec_TreeProbability N (b, l, k, u) = some (treeAns b l N k) := by
 have hN : 4000000 ≤ N := by omega
 refine Ret.eq ?_
 unfold F_spec_TreeProbability treeAns
 refine Ret.call (spec_l29Code hN hb hl k u) ?_
 dsimp only
 refine Ret.ifnd ?_ ?_ <;> intro hc
 ·rw [if_pos hc]; exact Ret.ret rfl
 rw [if_neg (not_not_intro hc)]
 obtain ⟨hc1, hA⟩ := codeA_zero.1 hc
 obtain ⟨hB, hR, hk⟩ := codeN_zero.1 hc1
 obtain ⟨hke, hkn⟩ := inNets_nat (hk k (by simp))
 obtain ⟨rank, hr⟩ := ranked_bd hN hb hB hR
 have hlow := hr.low k.toNat
 have ht := (spec_l29Tree hN hb hB hr N k.toNat u (by omega) hkn).tells
 rw [← hke] at ht
 refine Ret.call ht ?_
 dsimp only
 refine Ret.ifnc ?_ ?_ <;> intro hT
 ·rw [if_neg hT]; exact Ret.ret rfl
 rw [if_pos hT]
 have hs := spec_l29Rise hM hb hB hr hA N k.toNat u (by omega) hkn
 rw [← hke] at hs
 refine Ret.call hs ?_
 cases riseN b l N k.toNat with
 | none => exact Ret.ret rfl
 | some f => exact Ret.ret rfl
theorem impl_TreeProbability {l : List AT} (hl : l.length < 4000000) (k : Int) (u : Unit) : F_impl_TreeProbability N (b, l, k, u) = some (treeAns b l N k) := by
 have hN : 4000000 ≤ N := by omega
 refine Ret.eq ?_
 unfold F_impl_TreeProbability treeAns
 dsimp only
 refine Ret.bind (impl_chancesOf hN hb hl (s := [k]) (by simp) ()) ?_
 rintro ⟨o, c, u1⟩ ⟨hc, h0⟩
 dsimp only at hc h0 ⊢
 subst hc
 refine Ret.ifnd ?_ ?_ <;> intro hc
 ·rw [if_pos hc]; exact Ret.ret rfl
 rw [if_neg (not_not_intro hc)]
 obtain ⟨hA, hk, gates, ord, m, rfl, hg, ht, hm⟩ := h0 hc
 obtain ⟨⟨hB, hR⟩, hll, _⟩ := id hA
 obtain ⟨hke, hkn⟩ := inNets_nat (hk k (by simp))
 have hr := ht.rankP hB.1 (block_small hB).2
 have hlow := hr.low k.toNat
 refine Ret.call rfl (Ret.call rfl ?_)
 refine Ret.bind (impl_supports hN hB hg ht ()) ?_
 rintro ⟨S, u2⟩ hS
 dsimp only at hS ⊢
 have hT := (impl_isTreeLike hN hB hr (ord := ord) hg hS N k.toNat u2 (by omega) hkn).tells
 rw [← hke] at hT
 refine Ret.call hT ?_
 dsimp only
 refine Ret.ifnc ?_ ?_ <;> intro hT
 ·rw [if_neg hT]; exact Ret.ret rfl
 rw [if_pos hT]
 have hs := impl_treeProbability hM hB hr hA (ord := ord) hg hm () N k.toNat u (by omega) hkn
 rw [← hke] at hs
 refine Ret.call hs ?_
 cases riseN b l N k.toNat with
 | none => exact Ret.ret rfl
 | some f => exact Ret.ret rfl
end
end Go.Proofs.YtdbmhfpphobmpaaGreatDoor
namespace Go.Proofs.YtdbmhfpphobmpaaGreatDoor
set_option linter.unusedSimpArgs false
set_option linter.unusedVariables false
set_option linter.unusedSectionVars false
set_option maxHeartbeats 1000000
abbrev ST := Int × Int × Unit
theorem wrap_mod (n : Int) : ∃ k : Int, IntKind.i64.wrap n = n + k * 18446744073709551616 ∧ -9223372036854775808 ≤ IntKind.i64.wrap n ∧ IntKind.i64.wrap n ≤ 9223372036854775807 := by
 simp only [IntKind.wrap, IntKind.bits, IntKind.signed, Bool.true_and, decide_eq_true_eq, Nat.reduceSub, Int.reducePow]
 split
 ·rename_i h; have h := of_decide_eq_true h
  exact ⟨-(n / 18446744073709551616) - 1, by omega, by omega, by omega⟩
 ·rename_i h; have h : ¬ (n % 18446744073709551616 ≥ 9223372036854775808) := fun hp => h (decide_eq_true hp)
  exact ⟨-(n / 18446744073709551616), by omega, by omega, by omega⟩
theorem wrap_eq {m n k : Int} (h : m = n + k * 18446744073709551616) : IntKind.i64.wrap m = IntKind.i64.wrap n := by
 obtain ⟨a, h1, h2, h3⟩ := wrap_mod m
 obtain ⟨c, h4, h5, h6⟩ := wrap_mod n
 omega
def xE (ps : List ST) (row p : Nat) : Int := if row / 2 ^ p % 2 = 0 then IntKind.i64.wrap (1000 - (ps[p]?.getD (0, 0, ())).2.1) else (ps[p]?.getD (0, 0, ())).1
def xL (ps : List ST) (row p : Nat) : Int := if row / 2 ^ p % 2 = 0 then IntKind.i64.wrap (1000 - (ps[p]?.getD (0, 0, ())).1) else (ps[p]?.getD (0, 0, ())).2.1
def loR (ps : List ST) (row : Nat) : Nat → Int
 | 0 => 1000
 | p + 1 => IntKind.i64.wrap (loR ps row p + IntKind.i64.wrap (xE ps row p - 1000))
def lsR (ps : List ST) (row n : Nat) : Nat → Int
 | 0 => IntKind.i64.wrap (-1000 * IntKind.i64.wrap ((n : Int) - 1))
 | p + 1 => IntKind.i64.wrap (lsR ps row n p + xE ps row p)
def hiR (ps : List ST) (row : Nat) : Nat → Int
 | 0 => 1000
 | p + 1 => if xL ps row p < hiR ps row p then xL ps row p else hiR ps row p
theorem ls_lo (ps : List ST) (row : Nat) {n : Nat} (hn : n ≤ 1000) : ∀ p, lsR ps row n p = IntKind.i64.wrap (loR ps row p - 1000 * (n : Int) + 1000 * (p : Int))
 | 0 => by
  unfold lsR loR
  rw [wrapI (n := (n : Int) - 1) (by omega) (by omega)]
  exact wrap_eq (k := 0) (by omega)
 | p + 1 => by
  have ih := ls_lo ps row hn p
  unfold lsR loR
  rw [ih]
  obtain ⟨a, h1, _⟩ := wrap_mod (loR ps row p - 1000 * (n : Int) + 1000 * (p : Int))
  obtain ⟨c, h2, _⟩ := wrap_mod (xE ps row p - 1000)
  obtain ⟨d, h3, _⟩ := wrap_mod (loR ps row p + IntKind.i64.wrap (xE ps row p - 1000))
  refine wrap_eq (k := a - c - d) ?_
  omega
theorem ls_end (ps : List ST) (row : Nat) {n : Nat} (hn : n ≤ 1000) : lsR ps row n n = loR ps row n := by
 rw [ls_lo ps row hn n]
 have h : -9223372036854775808 ≤ loR ps row n ∧ loR ps row n ≤ 9223372036854775807 := by
  cases n with
  | zero => unfold loR; omega
  | succ p =>
   unfold loR
   obtain ⟨d, _, h4, h5⟩ := wrap_mod (loR ps row p + IntKind.i64.wrap (xE ps row p - 1000))
   omega
 rw [show loR ps row n - 1000 * (n : Int) + 1000 * (n : Int) = loR ps row n by omega]
 exact wrapI h.1 h.2
def rowL (ps : List ST) (row : Nat) : Int := if loR ps row ps.length < 0 then 0 else loR ps row ps.length
def sLo (truth : List Int) (ps : List ST) (v : Int) : Nat → Int
 | 0 => 0
 | i + 1 => if truth[i]?.getD 0 = v then IntKind.i64.wrap (sLo truth ps v i + rowL ps i) else sLo truth ps v i
def sHi (truth : List Int) (ps : List ST) (v : Int) : Nat → Int
 | 0 => 0
 | i + 1 => if truth[i]?.getD 0 = v then IntKind.i64.wrap (sHi truth ps v i + hiR ps i ps.length) else sHi truth ps v i
def max3 (a c : Int) : Int := if (if a < c then c else a) < 0 then 0 else if a < c then c else a
def min3 (a c : Int) : Int := if 1000 < (if c < a then c else a) then 1000 else if c < a then c else a
def bndS (truth : List Int) (ps : List ST) : ST :=
 (max3 (sLo truth ps 1 truth.length) (IntKind.i64.wrap (1000 - sHi truth ps 0 truth.length)), min3 (sHi truth ps 1 truth.length) (IntKind.i64.wrap (1000 - sLo truth ps 0 truth.length)), ())
theorem getS {ps : List ST} {p : Nat} (h : p < ps.length) : ps[p]?.getD (0, 0, ()) = ps[p] := by rw [List.getElem?_eq_getElem h]; rfl
section
variable {N : Nat} (hN : 4000000 ≤ N)
include hN
theorem impl_combination {ps : List ST} (h4 : ps.length ≤ 4) {row : Nat} (hrow : row < 256) (u : Unit) : F_impl_combination N (ps, (row : Int), u) = some ((rowL ps row, hiR ps row ps.length, ()), ()) := by
 refine Ret.eq ?_
 unfold F_impl_combination
 dsimp only
 refine Ret.up2 ps.length (fun p lo hi _ => lo = loR ps row p ∧ hi = hiR ps row p) (by omega) (by omega) ⟨rfl, rfl⟩ ?_ ?_
 ·rintro p lo hi u1 next hp ⟨rfl, rfl⟩ hn
  dsimp only
  refine Ret.must (by omega) (Ret.atN hp (Ret.guard (by omega) ?_))
  rw [and_bit hrow (by omega)]
  refine Ret.ifd ?_ ?_ <;> intro hbit
  ·have hb : row / 2 ^ p % 2 = 0 := by omega
   refine hn _ _ _ ⟨?_, ?_⟩
   ·conv => rhs; unfold loR xE
    rw [if_pos hb, getS hp]
   ·conv => rhs; unfold hiR xL
    rw [if_pos hb, getS hp]
    by_cases h : IntKind.i64.wrap (1000 - ps[p].1) < hiR ps row p <;> simp [h]
  ·have hb : ¬ row / 2 ^ p % 2 = 0 := by omega
   refine hn _ _ _ ⟨?_, ?_⟩
   ·conv => rhs; unfold loR xE
    rw [if_neg hb, getS hp]
   ·conv => rhs; unfold hiR xL
    rw [if_neg hb, getS hp]
    by_cases h : ps[p].2.1 < hiR ps row p <;> simp [h]
 ·rintro lo hi u1 next ⟨rfl, rfl⟩
  dsimp only
  refine Ret.mustN (by omega) (Ret.ret ?_)
  unfold rowL
  by_cases h : loR ps row ps.length < 0 <;> simp [h]
theorem spec_l29Bounds {truth : List Int} {ps : List ST} (h4 : ps.length ≤ 4) (h16 : truth.length ≤ 16) (ht : Bits01 truth) (u : Unit) : F_spec_l29Bounds N (truth, ps, u) = some (bndS truth ps, ()) := by
 refine Ret.eq ?_
 unfold F_spec_l29Bounds
 dsimp only
 refine Ret.up truth.length (fun i s => s.1 = [sLo truth ps 0 i, sLo truth ps 1 i] ∧ s.2.1 = [sHi truth ps 0 i, sHi truth ps 1 i]) (by omega) (by omega) ⟨rfl, rfl⟩ ?_ ?_
 ·rintro i ⟨low, high, u1⟩ next hi ⟨h1, h2⟩ hn
  dsimp only at h1 h2 ⊢
  refine Ret.must (by omega) ?_
  refine Ret.call (spec_l28Bits hN (by omega) (by omega) ()) ?_
  dsimp only
  refine Ret.up2 ps.length (fun p lo hi _ => lo = lsR ps i ps.length p ∧ hi = hiR ps i p) (by omega) (by omega) ⟨rfl, rfl⟩ ?_ ?_
  ·rintro p lo hi' u2 next2 hp ⟨rfl, rfl⟩ hn2
   dsimp only
   have hbl := bitsOf_len ps.length i
   rw [Int.toNat_natCast]
   refine Ret.must (by omega) (Ret.atN hp (Ret.guardI (by omega) (Ret.get (by omega) ?_)))
   rw [bitsOf_get]
   refine Ret.ifd ?_ ?_ <;> intro hbit
   ·have hb : i / 2 ^ p % 2 = 0 := by omega
    refine Ret.atN hp (Ret.atN hp (hn2 _ _ _ ⟨?_, ?_⟩))
    ·conv => rhs; unfold lsR xE
     rw [if_pos hb, getS hp]
    ·conv => rhs; unfold hiR xL
     rw [if_pos hb, getS hp]
     by_cases h : IntKind.i64.wrap (1000 - ps[p].1) < hiR ps i p <;> simp [h]
   ·have hb : ¬ i / 2 ^ p % 2 = 0 := by omega
    refine hn2 _ _ _ ⟨?_, ?_⟩
    ·conv => rhs; unfold lsR xE
     rw [if_neg hb, getS hp]
    ·conv => rhs; unfold hiR xL
     rw [if_neg hb, getS hp]
     by_cases h : ps[p].2.1 < hiR ps i p <;> simp [h]
  ·rintro lo hi' u2 next2 ⟨rfl, rfl⟩
   dsimp only
   refine Ret.mustN (by omega) (Ret.atN hi ?_)
   rw [ls_end ps i (by omega)]
   have hrl : (bif decide ((0 : Int) < loR ps i ps.length) then loR ps i ps.length else (0 : Int)) = rowL ps i := by
    unfold rowL
    by_cases h : (0 : Int) < loR ps i ps.length
    ·simp [h]; omega
    ·by_cases h' : loR ps i ps.length < 0
     ·simp [h, h']
     ·simp [h, h']; omega
   rw [hrl]
   have hgt : truth[i]?.getD 0 = truth[i] := get0 hi
   rcases ht _ (List.getElem_mem hi) with hv | hv
   ·have e0 : ∀ f : Nat → Int, True := fun _ => trivial
    rw [hv]
    subst h1 h2
    refine Ret.guardI (i := 0) (by simp) (Ret.get (i := 0) (by simp) (Ret.guardI (i := 0) (by simp) (Ret.get (i := 0) (by simp) (Ret.guardI (i := 0) (by simp) (Ret.get (i := 0) (by simp) (Ret.guardI (i := 0) (by simp) (Ret.get (i := 0) (by simp) (hn _ ⟨?_, ?_⟩))))))))
    ·simp [sLo, hgt, hv]
    ·simp [sHi, hgt, hv]
   ·rw [hv]
    subst h1 h2
    refine Ret.guardI (i := 1) (by simp) (Ret.get (i := 1) (by simp) (Ret.guardI (i := 1) (by simp) (Ret.get (i := 1) (by simp) (Ret.guardI (i := 1) (by simp) (Ret.get (i := 1) (by simp) (Ret.guardI (i := 1) (by simp) (Ret.get (i := 1) (by simp) (hn _ ⟨?_, ?_⟩))))))))
    ·simp [sLo, hgt, hv]
    ·simp [sHi, hgt, hv]
 ·rintro ⟨low, high, u1⟩ next ⟨h1, h2⟩
  dsimp only at h1 h2 ⊢
  refine Ret.mustN (by omega) ?_
  subst h1 h2
  refine Ret.guardI (i := 1) (by simp) (Ret.get (i := 1) (by simp) (Ret.guardI (i := 0) (by simp) (Ret.get (i := 0) (by simp) (Ret.guardI (i := 1) (by simp) (Ret.get (i := 1) (by simp) (Ret.guardI (i := 0) (by simp) (Ret.get (i := 0) (by simp) (Ret.ret ?_))))))))
  unfold bndS max3 min3
  simp only [List.getElem_cons_zero, List.getElem_cons_succ, Bool.cond_decide]
  generalize sLo truth ps 1 truth.length = a
  generalize IntKind.i64.wrap (1000 - sHi truth ps 0 truth.length) = c
  generalize sHi truth ps 1 truth.length = d
  generalize IntKind.i64.wrap (1000 - sLo truth ps 0 truth.length) = e
  refine Prod.ext (Prod.ext ?_ (Prod.ext ?_ rfl)) rfl
  ·dsimp only
   repeat' split
   all_goals omega
  ·dsimp only
   repeat' split
   all_goals omega
end
theorem at_some' {α ρ : Type} {R : ρ → Prop} {xs : List α} {i : Int} {x : α} {k : α → Option ρ} (h0 : 0 ≤ i) (h : xs[i.toNat]? = some x) (hk : Ret (k x) R) : Ret (obind (atI xs i) k) R := by
 obtain ⟨h1, h2⟩ := List.getElem?_eq_some_iff.1 h
 subst h2
 exact Ret.atZ h0 h1 hk
def srcI (a : AT) : ST := (divL (IntKind.i64.wrap (1000 * a.1.1)) a.1.2.1, divU (IntKind.i64.wrap (1000 * a.1.1)) a.1.2.1, ())
noncomputable def intN (b : DBlock) (l : List AT) : Nat → Nat → ST
 | 0, _ => (0, 0, ())
 | m + 1, k => if gateOf b k < 0 then srcI (pickA (srcOf b) l (k : Int)) else bndS (truthOf b k) ((insOf b k).map fun i => intN b l m i.toNat)
noncomputable def intv (b : DBlock) (l : List AT) (k : Nat) : ST := intN b l 31 k
def KnownI (b : DBlock) (l : List AT) (known : List ST) : Prop := known.length = b.2.1.2.1.length ∧ ∀ (j : Nat) (h : j < known.length), known[j].1 < 0 ∨ known[j] = intv b l j
section
variable {N : Nat} (hM : 1000000000000 ≤ N) {b : DBlock} (hb : SmallB b) (hB : BlockP b) {rank : Nat → Nat} (hr : RankP b rank) {l : List AT} (hA : AssignP b l)
include hB hr
theorem intN_same (l : List AT) : ∀ (m m' k : Nat), k < b.2.1.2.1.length → rank k < m → rank k < m' → intN b l m k = intN b l m' k
 | 0, _, _, _, h, _ => absurd h (Nat.not_lt_zero _)
 | _ + 1, 0, _, _, _, h => absurd h (Nat.not_lt_zero _)
 | m + 1, m' + 1, k, hk, h, h' => by
  unfold intN
  by_cases hg : gateOf b k < 0
  ·rw [if_pos hg, if_pos hg]
  ·rw [if_neg hg, if_neg hg]
   refine congrArg _ (List.map_congr_left fun i hi => ?_)
   have := hr.down k hk (by omega) i hi
   exact intN_same l m m' _ (insOf_in hB.1 hk hi).2 (by omega) (by omega)
theorem intv_gate (l : List AT) {k : Nat} (hk : k < b.2.1.2.1.length) (hg : 0 ≤ gateOf b k) : intv b l k = bndS (truthOf b k) ((insOf b k).map fun i => intv b l i.toNat) := by
 have h30 := hr.low k
 show intN b l (30 + 1) k = _
 rw [intN, if_neg (by omega)]
 refine congrArg _ (List.map_congr_left fun i hi => ?_)
 have := hr.down k hk hg i hi
 exact intN_same hB hr l _ _ _ (insOf_in hB.1 hk hi).2 (by omega) (by omega)
omit hB hr in
theorem intv_src (l : List AT) {k : Nat} (hg : gateOf b k < 0) : intv b l k = srcI (pickA (srcOf b) l (k : Int)) := by
 show intN b l (30 + 1) k = _
 rw [intN, if_pos hg]
include hA
theorem src_ok {k : Nat} (hk : k < b.2.1.2.1.length) (hg : gateOf b k < 0) : 0 ≤ IntKind.i64.wrap (1000 * (pickA (srcOf b) l (k : Int)).1.1) ∧ 1 ≤ (pickA (srcOf b) l (k : Int)).1.2.1 := by
 have hs := src_mem hB hr hA hk hg
 have := okA_of hA (sup := [(k : Int)]) (fun x hx => by simp only [List.mem_singleton] at hx; subst hx; exact hs) (k : Int) (by simp)
 rw [wrapI (by omega) (by omega)]
 omega
include hM hb
theorem spec_l29Interval : ∀ (M k : Nat) (known : List ST) (u : Unit), rank k < M → k < b.2.1.2.1.length → KnownI b l known →
 Ret (F_spec_l29Interval N M (b, l, (k : Int), known, u)) (fun r => r.1.1 = intv b l k ∧ KnownI b l r.2.1)
 | 0, k, _, _, h, _, _ => absurd h (Nat.not_lt_zero _)
 | M + 1, k, known, u, hM', hk, hK => by
  have hN : 4000000 ≤ N := by omega
  have hD := hB.1
  have hsm := block_small hB
  have hkl : k < known.length := by rw [hK.1]; exact hk
  unfold F_spec_l29Interval
  dsimp only
  rw [Int.toNat_natCast]
  refine Ret.guardI hkl (Ret.get hkl ?_)
  refine Ret.ifd ?_ ?_ <;> intro h0
  ·refine Ret.guardI hkl (Ret.get hkl (Ret.ret ⟨?_, hK⟩))
   rcases hK.2 k hkl with h | h
   ·omega
   ·exact h
  refine Ret.call (spec_l28Gate hN hb hB hk ()) ?_
  dsimp only
  refine Ret.ifd ?_ ?_ <;> intro hg
  ·refine Ret.call (spec_l29Of hN hb hB hA.2.1 (src_mem hB hr hA hk hg) ()) ?_
   dsimp only
   obtain ⟨o1, o2⟩ := src_ok hB hr hA hk hg
   refine Ret.call (spec_div0 o1 o2 ()) (Ret.call (spec_div1 o1 o2 ()) (Ret.ret ⟨?_, hK⟩))
   rw [intv_src l hg]; rfl
  have hg0 : 0 ≤ gateOf b k := by omega
  rcases gateOf_cases hD hk with ⟨h1, _⟩ | ⟨j0, hj0, hP⟩
  ·omega
  refine Ret.call (by rw [hj0]; exact spec_l28Inputs hB hk hP ()) ?_
  dsimp only
  have hil := ins_len hB hk hg0
  refine Ret.up (insOf b k).length (fun i (s : List ST × List ST × Unit) => KnownI b l s.1 ∧ s.2.1 = ((insOf b k).take i).map (fun x => intv b l x.toNat)) (by omega) (by omega) ⟨hK, by simp⟩ ?_ ?_
  ·rintro i ⟨kn, ps, u1⟩ next hi ⟨g1, g2⟩ hn
   dsimp only at g1 g2 ⊢
   have hmem := List.getElem_mem hi
   obtain ⟨hi0, hi1⟩ := insOf_in hD hk hmem
   have e : (insOf b k)[i] = (((insOf b k)[i].toNat : Nat) : Int) := (Int.toNat_of_nonneg hi0).symm
   refine Ret.must (by omega) (Ret.atN hi ?_)
   have hrk := hr.down k hk hg0 _ hmem
   have hc := spec_l29Interval M (insOf b k)[i].toNat kn () (by omega) hi1 g1
   rw [← e] at hc
   refine Ret.bind hc ?_
   rintro ⟨⟨v, u2⟩, kn', u3⟩ ⟨f1, f2⟩
   dsimp only at f1 f2 ⊢
   subst f1
   refine Ret.guard ?_ (hn _ ⟨f2, ?_⟩)
   ·rw [g2]; simp only [List.length_append, List.length_map, List.length_take, List.length_singleton]; unfold lim; omega
   ·dsimp only
    rw [g2, List.take_succ_eq_append_getElem hi, List.map_append]; rfl
  ·rintro ⟨kn, ps, u1⟩ next ⟨g1, g2⟩
   dsimp only at g1 g2 ⊢
   refine Ret.mustN (by omega) ?_
   have hjl := hP.1
   rw [hj0]
   refine Ret.atN hjl (Ret.atZ (inst_ok hD hjl).1.1 (inst_ok hD hjl).1.2 ?_)
   rw [truth_cell hD hj0 hP]
   rw [List.take_length] at g2
   obtain ⟨htl, ht⟩ := truth01 hB hr hk hg0
   have hpl : ps.length = (insOf b k).length := by rw [g2]; simp
   have h16 := pow2_4 hil.2
   refine Ret.call (spec_l29Bounds hN (by omega) (by omega) ht u1) ?_
   rw [g2, ← intv_gate hB hr l hk hg0]
   have hkn : k < kn.length := by rw [g1.1]; exact hk
   dsimp only
   refine Ret.guardI hkn (Ret.get hkn (Ret.guardI (by simpa using hkn) (Ret.get (by simpa using hkn) (Ret.ret ⟨by simp, by simp [g1.1], fun j hj => ?_⟩))))
   dsimp only
   rw [List.getElem_set]
   split
   ·rename_i e; subst e; exact .inr rfl
   ·exact g1.2 j (by simpa using hj)
omit hb in
theorem impl_interval {gates : List Int} {ord : List Int × Unit} (hg : gates.length = b.2.1.2.1.length ∧ ∀ k (h : k < gates.length), gates[k] = gateOf b k) {m : List (Int × AT)} (hm : MapA m b l) (v : Unit) {k : Nat} (hk : k < b.2.1.2.1.length) {known : List ST}
 (hkn : ∀ i ∈ insOf b k, 0 ≤ gateOf b k → known[i.toNat]? = some (intv b l i.toNat)) (u : Unit) : F_impl_chances_interval N (some (some (b, gates, ord), m, v), (k : Int), known, u) = some (intv b l k, ()) := by
 have hN : 4000000 ≤ N := by omega
 have hD := hB.1
 refine Ret.eq ?_
 unfold F_impl_chances_interval
 dsimp only
 refine Ret.call rfl (Ret.call rfl ?_)
 dsimp only
 refine Ret.atN (by omega) ?_
 rw [hg.2 k (by omega)]
 refine Ret.ifd ?_ ?_ <;> intro hgk
 ·refine Ret.call rfl ?_
  dsimp only
  rw [hm _ (src_mem hB hr hA hk hgk)]
  obtain ⟨o1, o2⟩ := src_ok hB hr hA hk hgk
  refine Ret.call (impl_div0 o1 o2 ()) (Ret.call (impl_div1 o1 o2 ()) (Ret.ret ?_))
  rw [intv_src l hgk]; rfl
 have h0 : 0 ≤ gateOf b k := by omega
 rcases gateOf_cases hD hk with ⟨h1, _⟩ | ⟨j0, hj0, hP⟩
 ·omega
 refine Ret.call rfl ?_
 refine Ret.call (impl_inputs hN hB hg hk h0 ()) ?_
 dsimp only
 have hil := ins_len hB hk h0
 refine Ret.up (insOf b k).length (fun i (s : List ST × Unit) => s.1 = ((insOf b k).take i).map (fun x => intv b l x.toNat)) (by omega) (by omega) (by simp) ?_ ?_
 ·rintro i ⟨ps, u1⟩ next hi hps hn
  dsimp only at hps ⊢
  have hmem := List.getElem_mem hi
  obtain ⟨hi0, hi1⟩ := insOf_in hD hk hmem
  refine Ret.must (by omega) (Ret.atN hi (at_some' hi0 (hkn _ hmem h0) ?_))
  refine Ret.guard ?_ (hn _ ?_)
  ·rw [hps]; simp only [List.length_append, List.length_map, List.length_take, List.length_singleton]; unfold lim; omega
  ·dsimp only
   rw [hps, List.take_succ_eq_append_getElem hi, List.map_append]; rfl
 ·rintro ⟨ps, u1⟩ next hps
  dsimp only at hps ⊢
  refine Ret.mustN (by omega) ?_
  rw [List.take_length] at hps
  refine Ret.call rfl (Ret.call rfl (Ret.call rfl (Ret.call rfl ?_)))
  dsimp only
  refine Ret.atN (by omega) ?_
  rw [hg.2 k (by omega), hj0]
  refine Ret.call (impl_cellOf hD hP.1 ()) ?_
  dsimp only
  rw [truth_cell hD hj0 hP]
  obtain ⟨htl, ht⟩ := truth01 hB hr hk h0
  rw [intv_gate hB hr l hk h0, ← hps]
  have hpl : ps.length = (insOf b k).length := by rw [hps]; simp
  have h16 := pow2_4 hil.2
  generalize truthOf b k = truth at *
  refine Ret.up truth.length (fun i (s : (Int × Int × Int × Int × Unit) × Unit) => s.1 = (sLo truth ps 0 i, sHi truth ps 0 i, sLo truth ps 1 i, sHi truth ps 1 i, ())) (by omega) (by omega) rfl ?_ ?_
  ·rintro i ⟨s, u2⟩ next2 hi hs hn2
   dsimp only at hs ⊢
   subst hs
   dsimp only
   refine Ret.must (by omega) (Ret.atN hi ?_)
   have hgt : truth[i]?.getD 0 = truth[i] := get0 hi
   rcases ht _ (List.getElem_mem hi) with hv | hv
   ·rw [hv]
    refine Ret.mustN (by simp) (Ret.must (by simp) ?_)
    refine Ret.call (impl_combination hN (by omega) (by omega) ()) ?_
    refine Ret.call (show F_impl_Span_plus N _ = some _ from rfl) ?_
    refine Ret.mustN (by simp) (Ret.must (by simp) (hn2 _ ?_))
    simp [sLo, sHi, hgt, hv]
   ·rw [hv]
    refine Ret.must (by simp) ?_
    refine Ret.call (impl_combination hN (by omega) (by omega) ()) ?_
    refine Ret.call (show F_impl_Span_plus N _ = some _ from rfl) ?_
    refine Ret.must (by simp) (hn2 _ ?_)
    simp [sLo, sHi, hgt, hv]
  ·rintro ⟨s, u2⟩ next2 hs
   dsimp only at hs ⊢
   subst hs
   dsimp only
   refine Ret.mustN (by omega) (Ret.ret ?_)
   unfold bndS max3 min3
   simp only [Bool.cond_decide]
end
noncomputable def intAns (b : DBlock) (l : List AT) (k : Int) : ST × Int × Unit := if codeA b l [k] ≠ 0 then ((0, 0, ()), codeA b l [k], ()) else (intv b l k.toNat, 0, ())
section
variable {N : Nat} (hM : 1000000000000 ≤ N) {b : DBlock} (hb : SmallB b)
include hM hb
theorem spec_IntervalOf {l : List AT} (hl : l.length < 4000000) (k : Int) (u : Unit) : F_spec_IntervalOf N (b, l, k, u) = some (intAns b l k) := by
 have hN : 4000000 ≤ N := by omega
 refine Ret.eq ?_
 unfold F_spec_IntervalOf intAns
 refine Ret.call (spec_l29Code hN hb hl k u) ?_
 dsimp only
 refine Ret.ifnd ?_ ?_ <;> intro hc
 ·rw [if_pos hc]; exact Ret.ret rfl
 rw [if_neg (not_not_intro hc)]
 obtain ⟨hc1, hA⟩ := codeA_zero.1 hc
 obtain ⟨hB, hR, hk⟩ := codeN_zero.1 hc1
 obtain ⟨hke, hkn⟩ := inNets_nat (hk k (by simp))
 obtain ⟨rank, hr⟩ := ranked_bd hN hb hB hR
 have hlow := hr.low k.toNat
 have hsm := block_small hB
 refine lim_guard (by omega) ?_
 rw [Int.toNat_natCast]
 refine Ret.up b.2.1.2.1.length (fun i (s : List ST × Unit) => s.1.length = b.2.1.2.1.length ∧ ∀ j (h : j < s.1.length), j < i → s.1[j].1 = -1) (by omega) (by omega) ⟨by simp, fun j _ h => absurd h (Nat.not_lt_zero j)⟩ ?_ ?_
 ·rintro i ⟨s, u1⟩ next hi ⟨g1, g2⟩ hn
  dsimp only at g1 g2 ⊢
  rw [Int.toNat_natCast]
  refine Ret.must (by omega) (Ret.guardI (by omega) (Ret.get (by omega) (hn _ ⟨by simp [g1], fun j hj hji => ?_⟩)))
  dsimp only
  rw [List.getElem_set]
  split
  ·rfl
  ·exact g2 j (by simpa using hj) (by omega)
 ·rintro ⟨s, u1⟩ next ⟨g1, g2⟩
  dsimp only at g1 g2 ⊢
  refine Ret.mustN (by omega) ?_
  have hs := spec_l29Interval hM hb hB hr hA N k.toNat s u1 (by omega) hkn ⟨g1, fun j hj => .inl (by rw [g2 j hj (by omega)]; omega)⟩
  rw [← hke] at hs
  refine Ret.bind hs ?_
  rintro ⟨⟨r, u2⟩, r2⟩ ⟨e1, _⟩
  dsimp only at e1 ⊢
  subst e1
  exact Ret.ret rfl
theorem impl_IntervalOf {l : List AT} (hl : l.length < 4000000) (k : Int) (u : Unit) : F_impl_IntervalOf N (b, l, k, u) = some (intAns b l k) := by
 have hN : 4000000 ≤ N := by omega
 refine Ret.eq ?_
 unfold F_impl_IntervalOf intAns
 dsimp only
 refine Ret.bind (impl_chancesOf hN hb hl (s := [k]) (by simp) ()) ?_
 rintro ⟨o, c, u1⟩ ⟨hc, h0⟩
 dsimp only at hc h0 ⊢
 subst hc
 refine Ret.ifnd ?_ ?_ <;> intro hc
 ·rw [if_pos hc]; exact Ret.ret rfl
 rw [if_neg (not_not_intro hc)]
 obtain ⟨hA, hk, gates, ord, m, rfl, hg, ht, hm⟩ := h0 hc
 obtain ⟨⟨hB, hR⟩, hll, _⟩ := id hA
 obtain ⟨hke, hkn⟩ := inNets_nat (hk k (by simp))
 have hsm := block_small hB
 have hr := ht.rankP hB.1 hsm.2
 have hol := ht.1
 refine Ret.call rfl (Ret.call rfl ?_)
 dsimp only
 rw [hg.1]
 refine lim_guard (by omega) (Ret.call rfl (Ret.call rfl ?_))
 dsimp only
 rw [Int.toNat_natCast]
 refine Ret.up ord.1.length (fun p (s : List ST × Unit) => s.1.length = b.2.1.2.1.length ∧ ∀ q, q < p → ∀ k : Nat, ord.1[q]? = some (k : Int) → s.1[k]? = some (intv b l k)) (by omega) (by omega) ⟨by simp, fun q h => absurd h (Nat.not_lt_zero q)⟩ ?_ ?_
 ·rintro p ⟨S, u2⟩ next hp ⟨hS, hI⟩ hn
  dsimp only at hS hI ⊢
  refine Ret.must (by omega) (Ret.atN hp ?_)
  obtain ⟨j, hj, he, hin⟩ := ht.2.2 p hp
  rw [he]
  refine Ret.call (impl_interval hM hB hr hA hg hm () hj (fun i hi hg0 => ?_) u2) ?_
  ·obtain ⟨hi0, hi1⟩ := insOf_in hB.1 hj hi
   obtain ⟨q, hq, hqe⟩ := hin hg0 _ hi
   exact hI q hq i.toNat (by rw [hqe, Int.toNat_of_nonneg hi0])
  ·dsimp only
   rw [Int.toNat_natCast]
   refine Ret.guardI (by omega) (Ret.get (by omega) (hn _ ⟨by simp [hS], fun q hq i hi => ?_⟩))
   dsimp only
   rw [List.getElem?_set]
   by_cases hji : j = i
   ·subst hji; rw [if_pos rfl, if_pos (by omega)]
   ·rw [if_neg hji]
    by_cases hqp : q = p
    ·subst hqp
     rw [List.getElem?_eq_getElem hp, he] at hi
     simp only [Option.some.injEq] at hi
     omega
    ·exact hI q (by omega) i hi
 ·rintro ⟨S, u2⟩ next ⟨hS, hI⟩
  dsimp only at hS hI ⊢
  refine Ret.mustN (by omega) ?_
  obtain ⟨q, hq, hqe⟩ := List.getElem_of_mem (ht.2.1 k.toNat hkn)
  have hk0 : 0 ≤ k := by omega
  have hget := hI q hq k.toNat (by rw [List.getElem?_eq_getElem hq, hqe])
  refine Ret.guardZ hk0 (by omega) (Ret.call hget (Ret.ret rfl))
end
end Go.Proofs.YtdbmhfpphobmpaaGreatDoor
