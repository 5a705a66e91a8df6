/- Designs: what is asked of them, and the program's functions. No program in sight. -/
import Derived.Test.YtbdokiecpmhjmaaGreatDoorPwCell3
namespace Go.Proofs.YtbdokiecpmhjmaaGreatDoor
set_option linter.unusedSimpArgs false
set_option linter.unusedVariables false
set_option linter.unusedSectionVars false
set_option linter.unusedVariables false
set_option linter.unusedSimpArgs false

abbrev SmallN (l : List ByteArray) : Prop := l.length < 4000000 ∧ ∀ s ∈ l, s.size < 4000000
abbrev SmallD (d : DDesign) : Prop := (d.1.length < 4000000 ∧ ∀ x ∈ d.1, x.1.size < 4000000 ∧ x.2.2.1.length < 4000000) ∧ SmallN d.2.1 ∧ (d.2.2.1.length < 4000000 ∧ ∀ p ∈ d.2.2.1, p.1.size < 4000000)

def InstP (l : List DCell) (n : Nat) (x : DInstance) : Prop := BtwP 0 ((l.length : Int) - 1) x.2.1 ∧ (∃ h : x.2.1.toNat < l.length, x.2.2.1.length = (l[x.2.1.toNat]'h).2.2.1.length) ∧ ∀ k ∈ x.2.2.1, BtwP 0 ((n : Int) - 1) k
def PortP (n : Nat) (p : DPort) : Prop := (p.2.1 = 1 ∨ p.2.1 = 2) ∧ BtwP 0 ((n : Int) - 1) p.2.2.1
def lastN (l : List Int) : Int := l[l.length - 1]?.getD (-1)
/-- How many drivers a net has. -/
def drv (d : DDesign) (k : Nat) : Nat := d.1.countP (fun x => decide (lastN x.2.2.1 = (k : Int))) + d.2.2.1.countP (fun p => decide (p.2.1 = 1 ∧ p.2.2.1 = (k : Int)))
def PartsP (l : List DCell) (d : DDesign) : Prop := (∀ x ∈ d.1, InstP l d.2.1.length x) ∧ (∀ p ∈ d.2.2.1, PortP d.2.1.length p)
def HasNames (d : DDesign) : Prop := (d.1.length ≤ 14 ∧ d.2.1.length ≤ 30 ∧ d.2.2.1.length ≤ 8) ∧ NamesP (d.1.map (·.1)) ∧ NamesP d.2.1 ∧ NamesP (d.2.2.1.map (·.1))
def DesignP (l : DLibrary) (d : DDesign) : Prop := LibP l ∧ HasNames d ∧ PartsP l.1 d ∧ ∀ k, k < d.2.1.length → drv d k = 1

theorem lastN_eq {l : List Int} (h : 0 < l.length) : lastN l = l[l.length - 1] := by
  unfold lastN
  rw [List.getElem?_eq_getElem (by omega)]; rfl
theorem inst_last {l : List DCell} (hl : ∀ c ∈ l, PinsP c.2.2.1) {n : Nat} {x : DInstance} (h : InstP l n x) : 2 ≤ x.2.2.1.length ∧ x.2.2.1.length ≤ 5 ∧ BtwP 0 ((n : Int) - 1) (lastN x.2.2.1) := by
  obtain ⟨_, ⟨h1, h2⟩, h3⟩ := h
  have := hl _ (List.getElem_mem h1)
  have h2' : 2 ≤ x.2.2.1.length := by rw [h2]; exact this.2.1
  refine ⟨h2', by rw [h2]; exact this.2.2.1, ?_⟩
  rw [lastN_eq (by omega)]
  exact h3 _ (List.getElem_mem _)

/-- Numbers that are counted. -/
def CountsL (n : Nat) (f : Nat → Nat) (s : List Int) : Prop := s.length = n ∧ ∀ k (h : k < s.length), s[k] = (f k : Int)
theorem CountsL.zero (n : Nat) {f : Nat → Nat} (h : ∀ k, k < n → f k = 0) : CountsL n f (List.replicate n (0 : Int)) := ⟨by simp, fun k hk => by simp at hk ⊢; rw [h k hk]; rfl⟩
theorem CountsL.congr {n : Nat} {f g : Nat → Nat} {s : List Int} (h : CountsL n f s) (e : ∀ k, k < n → f k = g k) : CountsL n g s := ⟨h.1, fun k hk => by rw [h.2 k hk, e k (by rw [← h.1]; exact hk)]⟩
theorem CountsL.incr {n : Nat} {f : Nat → Nat} {s : List Int} (h : CountsL n f s) {i : Int} (h0 : 0 ≤ i) (h1 : i < n) (hb : ∀ k, f k < 4000000) (hi : i.toNat < s.length) : CountsL n (fun k => f k + if (k : Int) = i then 1 else 0) (s.set i.toNat (IntKind.i64.wrap (s[i.toNat] + 1))) := by
  refine ⟨by simpa using h.1, fun k hk => ?_⟩
  have hk' : k < s.length := by simpa using hk
  have h2 := h.2 _ hi
  have := hb i.toNat
  rw [List.getElem_set]
  split
  · rename_i e
    rw [wrapI (by omega) (by omega), h2]
    dsimp only
    rw [if_pos (by omega), e]; simp
  · rename_i e
    rw [h.2 k hk']
    dsimp only
    rw [if_neg (by omega)]; simp
theorem Ret.incr {ρ : Type} {R : ρ → Prop} {n : Nat} {f : Nat → Nat} {s : List Int} (h : CountsL n f s) {i : Int} (h0 : 0 ≤ i) (h1 : i < n) (hb : ∀ k, f k < 4000000) (nx : List Int → Option ρ) (hk : ∀ s', CountsL n (fun k => f k + if (k : Int) = i then 1 else 0) s' → Ret (nx s') R) :
    Ret (bif inI i s.length then obind (s[i.toNat]?) fun e => bif inI i s.length then obind (s[i.toNat]?) fun e' => nx (s.set i.toNat (IntKind.i64.wrap (e + (1 : Int)))) else none else none) R := by
  have hn := h.1
  have hi : i.toNat < s.length := by omega
  refine Ret.guardZ h0 (by omega) (Ret.get hi (Ret.guardZ h0 (by omega) (Ret.get hi ?_)))
  exact hk _ (h.incr h0 h1 hb hi)
theorem countP_take_succ {α : Type} {xs : List α} {i : Nat} (hi : i < xs.length) (p : α → Bool) : (xs.take (i + 1)).countP p = (xs.take i).countP p + if p xs[i] = true then 1 else 0 := by
  rw [List.take_succ_eq_append_getElem hi, List.countP_append]
  simp [List.countP_cons]
theorem countP_le' {α : Type} (xs : List α) (p : α → Bool) (h : xs.length < 4000000) : xs.countP p < 4000000 := Nat.lt_of_le_of_lt List.countP_le_length h
theorem countP_take_le {α : Type} (xs : List α) (i : Nat) (p : α → Bool) (h : xs.length < 4000000) : (xs.take i).countP p < 4000000 := Nat.lt_of_le_of_lt List.countP_le_length (by simp; omega)

section
variable {N : Nat} (hN : 4000000 ≤ N) {u : Unit}
include hN
theorem impl_hasNames {d : DDesign} (hd : SmallD d) : F_impl_Design_hasNames N (d, u) = some (dec (HasNames d), ()) := by
  refine Ret.tells ?_
  unfold F_impl_Design_hasNames
  have h1 := hd.1.1; have h2 := hd.2.1.1; have h3 := hd.2.2.1
  dsimp only
  refine Ret.up d.1.length (fun i s => s = ((d.1.take i).map (·.1), ())) (by omega) (by omega) rfl ?_ ?_
  · rintro i s next hi rfl hn
    dsimp only
    refine Ret.must ?_ ?_
    · omega
    refine Ret.atN hi (Ret.guard ?_ ?_)
    · unfold lim; simp; omega
    exact hn _ (by rw [List.take_succ_eq_append_getElem hi, List.map_append]; rfl)
  rintro s next rfl
  dsimp only
  refine Ret.mustN ?_ ?_
  · omega
  refine Ret.up d.2.2.1.length (fun i s => s = ((d.2.2.1.take i).map (·.1), ())) (by omega) (by omega) rfl ?_ ?_
  · rintro i s next hi rfl hn
    dsimp only
    refine Ret.must ?_ ?_
    · omega
    refine Ret.atN hi (Ret.guard ?_ ?_)
    · unfold lim; simp; omega
    exact hn _ (by rw [List.take_succ_eq_append_getElem hi, List.map_append]; rfl)
  rintro s next rfl
  dsimp only
  refine Ret.mustN ?_ ?_
  · omega
  rw [List.take_length, List.take_length]
  have n1 := impl_areNames hN (l := d.1.map (·.1)) (u := ()) (by simpa using h1) (fun s hs => by obtain ⟨p, hp, rfl⟩ := List.mem_map.1 hs; exact (hd.1.2 p hp).1)
  have n2 := impl_areNames hN (l := d.2.1) (u := ()) h2 hd.2.1.2
  have n3 := impl_areNames hN (l := d.2.2.1.map (·.1)) (u := ()) (by simpa using h3) (fun s hs => by obtain ⟨p, hp, rfl⟩ := List.mem_map.1 hs; exact hd.2.2.2 p hp)
  simp only [List.length_map]
  (repeat' (first | (dsimp only) | (with_reducible refine Ret.ret ?_) | (with_reducible refine Ret.guardI (by first | assumption | omega | (simp only [List.length_append, List.length_cons, List.length_nil, List.length_set, List.length_replicate, lim] at *; omega)) ?_) | (with_reducible refine Ret.guard (by first | assumption | omega | (simp only [List.length_append, List.length_cons, List.length_nil, List.length_set, List.length_replicate, lim] at *; omega)) ?_) | (with_reducible refine Ret.guard3 (by first | assumption | omega | (simp only [List.length_append, List.length_cons, List.length_nil, List.length_set, List.length_replicate, lim] at *; omega)) ?_) | (with_reducible refine Ret.guard3' (by first | assumption | omega | (simp only [List.length_append, List.length_cons, List.length_nil, List.length_set, List.length_replicate, lim] at *; omega)) ?_) | (with_reducible refine Ret.atN (by first | assumption | omega | (simp only [List.length_append, List.length_cons, List.length_nil, List.length_set, List.length_replicate, lim] at *; omega)) ?_) | (with_reducible refine Ret.get (by first | assumption | omega | (simp only [List.length_append, List.length_cons, List.length_nil, List.length_set, List.length_replicate, lim] at *; omega)) ?_) | (with_reducible refine Ret.byteN (by first | assumption | omega | (simp only [List.length_append, List.length_cons, List.length_nil, List.length_set, List.length_replicate, lim] at *; omega)) ?_) | (with_reducible refine Ret.call (n1) ?_) | (with_reducible refine Ret.call (n2) ?_) | (with_reducible refine Ret.call (n3) ?_) | ((with_reducible refine Ret.ifnd ?_ ?_) <;> intro _) | ((with_reducible refine Ret.ifd ?_ ?_) <;> intro _) | ((with_reducible refine Ret.ifnc ?_ ?_) <;> intro _) | ((with_reducible refine Ret.ifc ?_ ?_) <;> intro _) | ((with_reducible refine Ret.bif ?_ ?_) <;> intro _)))
  all_goals (simp only [tells_false, tells_dec, HasNames]; grind)
theorem impl_isNet {d : DDesign} (hd : d.2.1.length < 4000000) (k : Int) : F_impl_Design_isNet N (d, k, u) = some (dec (BtwP 0 ((d.2.1.length : Int) - 1) k), ()) := by
  unfold F_impl_Design_isNet F_impl_length_string
  simp only [obind_just, len_wrap1 hN hd, impl_within]
theorem impl_isInstance {l : DLibrary} (hl : l.1.length < 4000000) {d : DDesign} (hd : d.2.1.length < 4000000) {x : DInstance} (hx : x.2.2.1.length < 4000000) : F_impl_Design_isInstance N (d, l, x, u) = some (dec (InstP l.1 d.2.1.length x), ()) := by
  refine Ret.tells ?_
  unfold F_impl_Design_isInstance
  dsimp only
  refine Ret.call (show F_impl_length_impl_Cell N l = some ((l.1.length : Int), ()) from rfl) ?_
  dsimp only
  rw [len_wrap1 hN hl]
  refine Ret.call (impl_within _ _ _ _ _) (Ret.ifc ?_ ?_) <;> intro h1
  rotate_left
  · exact Ret.ret (tells_false.2 fun h => h1 h.1)
  have hlt : x.2.1.toNat < l.1.length := by have := h1.1; have := h1.2; omega
  refine Ret.atZ h1.1 hlt (Ret.ifd ?_ ?_) <;> intro h2
  rotate_left
  · exact Ret.ret (tells_false.2 fun h => h2 (by obtain ⟨_, h⟩ := h.2.1; rw [h]))
  have hcf : F_slices_ContainsFunc_int64_int64_c_impl_Design_isInstance_1 N (x.2.2.1, (some d, ()), ()) = some (dec (∃ k ∈ x.2.2.1, ¬ BtwP 0 ((d.2.1.length : Int) - 1) k), ()) := by
    unfold F_slices_ContainsFunc_int64_int64_c_impl_Design_isInstance_1 F_slices_IndexFunc_int64_int64_c_impl_Design_isInstance_1
    exact containsFunc_eq (indexFunc_eq (fun e => F_impl_Design_isInstance_1 N (e, some d, ())) (fun k => ¬ BtwP 0 ((d.2.1.length : Int) - 1) k) (fun k _ => by
      unfold F_impl_Design_isInstance_1
      simp only [obind_just, impl_isNet hN hd, dec_not_eq]) hx hN)
  refine Ret.call hcf (Ret.ret ?_)
  rw [tells_ndec]
  constructor
  · intro hn; exact ⟨h1, ⟨hlt, by omega⟩, fun k hk => Classical.byContradiction fun hp => hn ⟨k, hk, hp⟩⟩
  · rintro h ⟨k, hk, hp⟩; exact hp (h.2.2 k hk)
end
end Go.Proofs.YtbdokiecpmhjmaaGreatDoor
