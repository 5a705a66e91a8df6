/- Designs: what is asked of them, and the program's functions. No program in sight. Designs: both sides. No program in sight. Places, wires and blocks: both sides. No program in sight. Gates and the order of nets: the program's side. No program in sight. The program's order of nets. No program in sight. The reference's gates and levels. No program in sight. The reference's rounds of levels. No program in sight. IsLogical and the program's logic. No program in sight. The codes of a block and a net. No program in sight. Supports of nets. No program in sight. Supports: both sides. No program in sight. -/
import Derived.Test.YtdbmhfpphobmpaaGreatDoorPgW
import Derived.Lib.SlicesCompact
namespace Go.Proofs.YtdbmhfpphobmpaaGreatDoor
set_option linter.unusedSimpArgs false
set_option linter.unusedVariables false
set_option linter.unusedSectionVars false
abbrev SmallN (l : List ByteArray) : Prop := l.length < 4000000 ∧ ∀ s ∈ l, s.size < 4000000
abbrev SmallD (d : DDesign) : Prop := (d.1.length < 4000000 ∧ ∀ x ∈ d.1, x.1.size < 4000000 ∧ x.2.2.1.length < 4000000) ∧ SmallN d.2.1 ∧ (d.2.2.1.length < 4000000 ∧ ∀ p ∈ d.2.2.1, p.1.size < 4000000)
def InstP (l : List DCell) (n : Nat) (x : DInstance) : Prop := BtwP 0 ((l.length : Int) - 1) x.2.1 ∧ (∃ h : x.2.1.toNat < l.length, x.2.2.1.length = (l[x.2.1.toNat]'h).2.2.1.length) ∧ ∀ k ∈ x.2.2.1, BtwP 0 ((n : Int) - 1) k
def PortP (n : Nat) (p : DPort) : Prop := (p.2.1 = 1 ∨ p.2.1 = 2) ∧ BtwP 0 ((n : Int) - 1) p.2.2.1
def lastN (l : List Int) : Int := l[l.length - 1]?.getD (-1)
def drv (d : DDesign) (k : Nat) : Nat := d.1.countP (fun x => decide (lastN x.2.2.1 = (k : Int))) + d.2.2.1.countP (fun p => decide (p.2.1 = 1 ∧ p.2.2.1 = (k : Int)))
def PartsP (l : List DCell) (d : DDesign) : Prop := (∀ x ∈ d.1, InstP l d.2.1.length x) ∧ (∀ p ∈ d.2.2.1, PortP d.2.1.length p)
def HasNames (d : DDesign) : Prop := (d.1.length ≤ 14 ∧ d.2.1.length ≤ 30 ∧ d.2.2.1.length ≤ 8) ∧ NamesP (d.1.map (·.1)) ∧ NamesP d.2.1 ∧ NamesP (d.2.2.1.map (·.1))
def DesignP (l : DLibrary) (d : DDesign) : Prop := LibP l ∧ HasNames d ∧ PartsP l.1 d ∧ ∀ k, k < d.2.1.length → drv d k = 1
theorem lastN_eq {l : List Int} (h : 0 < l.length) : lastN l = l[l.length - 1] := by
 unfold lastN
 rw [List.getElem?_eq_getElem (by omega)]; rfl
theorem inst_last {l : List DCell} (hl : ∀ c ∈ l, PinsP c.2.2.1) {n : Nat} {x : DInstance} (h : InstP l n x) : 2 ≤ x.2.2.1.length ∧ x.2.2.1.length ≤ 5 ∧ BtwP 0 ((n : Int) - 1) (lastN x.2.2.1) := by
 obtain ⟨_, ⟨h1, h2⟩, h3⟩ := h
 have := hl _ (List.getElem_mem h1)
 have h2' : 2 ≤ x.2.2.1.length := by rw [h2]; exact this.2.1
 refine ⟨h2', by rw [h2]; exact this.2.2.1, ?_⟩
 rw [lastN_eq (by omega)]
 exact h3 _ (List.getElem_mem _)
def CountsL (n : Nat) (f : Nat → Nat) (s : List Int) : Prop := s.length = n ∧ ∀ k (h : k < s.length), s[k] = (f k : Int)
theorem CountsL.zero (n : Nat) {f : Nat → Nat} (h : ∀ k, k < n → f k = 0) : CountsL n f (List.replicate n (0 : Int)) := ⟨by simp, fun k hk => by simp at hk ⊢; rw [h k hk]; rfl⟩
theorem CountsL.congr {n : Nat} {f g : Nat → Nat} {s : List Int} (h : CountsL n f s) (e : ∀ k, k < n → f k = g k) : CountsL n g s := ⟨h.1, fun k hk => by rw [h.2 k hk, e k (by rw [← h.1]; exact hk)]⟩
theorem CountsL.incr {n : Nat} {f : Nat → Nat} {s : List Int} (h : CountsL n f s) {i : Int} (h0 : 0 ≤ i) (h1 : i < n) (hb : ∀ k, f k < 4000000) (hi : i.toNat < s.length) : CountsL n (fun k => f k + if (k : Int) = i then 1 else 0) (s.set i.toNat (IntKind.i64.wrap (s[i.toNat] + 1))) := by
 refine ⟨by simpa using h.1, fun k hk => ?_⟩
 have hk' : k < s.length := by simpa using hk
 have h2 := h.2 _ hi
 have := hb i.toNat
 rw [List.getElem_set]
 split
 ·rename_i e
  rw [wrapI (by omega) (by omega), h2]
  dsimp only
  rw [if_pos (by omega), e]; simp
 ·rename_i e
  rw [h.2 k hk']
  dsimp only
  rw [if_neg (by omega)]; simp
theorem Ret.incr {ρ : Type} {R : ρ → Prop} {n : Nat} {f : Nat → Nat} {s : List Int} (h : CountsL n f s) {i : Int} (h0 : 0 ≤ i) (h1 : i < n) (hb : ∀ k, f k < 4000000) (nx : List Int → Option ρ) (hk : ∀ s', CountsL n (fun k => f k + if (k : Int) = i then 1 else 0) s' → Ret (nx s') R) :
 Ret (bif inI i s.length then obind (s[i.toNat]?) fun e => bif inI i s.length then obind (s[i.toNat]?) fun e' => nx (s.set i.toNat (IntKind.i64.wrap (e + (1 : Int)))) else none else none) R := by
 have hn := h.1
 have hi : i.toNat < s.length := by omega
 refine Ret.guardZ h0 (by omega) (Ret.get hi (Ret.guardZ h0 (by omega) (Ret.get hi ?_)))
 exact hk _ (h.incr h0 h1 hb hi)
theorem countP_take_succ {α : Type} {xs : List α} {i : Nat} (hi : i < xs.length) (p : α → Bool) : (xs.take (i + 1)).countP p = (xs.take i).countP p + if p xs[i] = true then 1 else 0 := by
 rw [List.take_succ_eq_append_getElem hi, List.countP_append]
 simp [List.countP_cons]
theorem countP_take_le {α : Type} (xs : List α) (i : Nat) (p : α → Bool) (h : xs.length < 4000000) : (xs.take i).countP p < 4000000 := Nat.lt_of_le_of_lt List.countP_le_length (by simp; omega)
section
variable {N : Nat} (hN : 4000000 ≤ N) {u : Unit}
include hN
theorem impl_hasNames {d : DDesign} (hd : SmallD d) : F_impl_Design_hasNames N (d, u) = some (dec (HasNames d), ()) := by
 refine Ret.tells ?_
 unfold F_impl_Design_hasNames
 have h1 := hd.1.1; have h2 := hd.2.1.1; have h3 := hd.2.2.1
 dsimp only
 refine Ret.up d.1.length (fun i s => s = ((d.1.take i).map (·.1), ())) (by omega) (by omega) rfl ?_ ?_
 ·rintro i s next hi rfl hn
  dsimp only
  refine Ret.must ?_ ?_
  ·omega
  refine Ret.atN hi (Ret.guard ?_ ?_)
  ·unfold lim; simp; omega
  exact hn _ (by rw [List.take_succ_eq_append_getElem hi, List.map_append]; rfl)
 rintro s next rfl
 dsimp only
 refine Ret.mustN ?_ ?_
 ·omega
 refine Ret.up d.2.2.1.length (fun i s => s = ((d.2.2.1.take i).map (·.1), ())) (by omega) (by omega) rfl ?_ ?_
 ·rintro i s next hi rfl hn
  dsimp only
  refine Ret.must ?_ ?_
  ·omega
  refine Ret.atN hi (Ret.guard ?_ ?_)
  ·unfold lim; simp; omega
  exact hn _ (by rw [List.take_succ_eq_append_getElem hi, List.map_append]; rfl)
 rintro s next rfl
 dsimp only
 refine Ret.mustN ?_ ?_
 ·omega
 rw [List.take_length, List.take_length]
 have n1 := impl_areNames hN (l := d.1.map (·.1)) (u := ()) (by simpa using h1) (fun s hs => by obtain ⟨p, hp, rfl⟩ := List.mem_map.1 hs; exact (hd.1.2 p hp).1)
 have n2 := impl_areNames hN (l := d.2.1) (u := ()) h2 hd.2.1.2
 have n3 := impl_areNames hN (l := d.2.2.1.map (·.1)) (u := ()) (by simpa using h3) (fun s hs => by obtain ⟨p, hp, rfl⟩ := List.mem_map.1 hs; exact hd.2.2.2 p hp)
 simp only [List.length_map]
 (repeat' (first | (dsimp only) | (with_reducible refine Ret.ret ?_) | (with_reducible refine Ret.guardI (by first | assumption | omega | (simp only [List.length_append, List.length_cons, List.length_nil, List.length_set, List.length_replicate, lim] at *; omega)) ?_) | (with_reducible refine Ret.guard (by first | assumption | omega | (simp only [List.length_append, List.length_cons, List.length_nil, List.length_set, List.length_replicate, lim] at *; omega)) ?_) | (with_reducible refine Ret.guard3 (by first | assumption | omega | (simp only [List.length_append, List.length_cons, List.length_nil, List.length_set, List.length_replicate, lim] at *; omega)) ?_) | (with_reducible refine Ret.guard3' (by first | assumption | omega | (simp only [List.length_append, List.length_cons, List.length_nil, List.length_set, List.length_replicate, lim] at *; omega)) ?_) | (with_reducible refine Ret.atN (by first | assumption | omega | (simp only [List.length_append, List.length_cons, List.length_nil, List.length_set, List.length_replicate, lim] at *; omega)) ?_) | (with_reducible refine Ret.get (by first | assumption | omega | (simp only [List.length_append, List.length_cons, List.length_nil, List.length_set, List.length_replicate, lim] at *; omega)) ?_) | (with_reducible refine Ret.byteN (by first | assumption | omega | (simp only [List.length_append, List.length_cons, List.length_nil, List.length_set, List.length_replicate, lim] at *; omega)) ?_) | (with_reducible refine Ret.call (n1) ?_) | (with_reducible refine Ret.call (n2) ?_) | (with_reducible refine Ret.call (n3) ?_) | ((with_reducible refine Ret.ifnd ?_ ?_) <;> intro _) | ((with_reducible refine Ret.ifd ?_ ?_) <;> intro _) | ((with_reducible refine Ret.ifnc ?_ ?_) <;> intro _) | ((with_reducible refine Ret.ifc ?_ ?_) <;> intro _) | ((with_reducible refine Ret.bif ?_ ?_) <;> intro _)))
 all_goals (simp only [tells_false, tells_dec, HasNames]; grind)
theorem impl_isNet {d : DDesign} (hd : d.2.1.length < 4000000) (k : Int) : F_impl_Design_isNet N (d, k, u) = some (dec (BtwP 0 ((d.2.1.length : Int) - 1) k), ()) := by
 unfold F_impl_Design_isNet F_impl_length_string
 simp only [obind_just, len_wrap1 hN hd, impl_within]
theorem impl_isInstance {l : DLibrary} (hl : l.1.length < 4000000) {d : DDesign} (hd : d.2.1.length < 4000000) {x : DInstance} (hx : x.2.2.1.length < 4000000) : F_impl_Design_isInstance N (d, l, x, u) = some (dec (InstP l.1 d.2.1.length x), ()) := by
 refine Ret.tells ?_
 unfold F_impl_Design_isInstance
 dsimp only
 refine Ret.call (show F_impl_length_impl_Cell N l = some ((l.1.length : Int), ()) from rfl) ?_
 dsimp only
 rw [len_wrap1 hN hl]
 refine Ret.call (impl_within _ _ _ _ _) (Ret.ifc ?_ ?_) <;> intro h1
 rotate_left
 ·exact Ret.ret (tells_false.2 fun h => h1 h.1)
 have hlt : x.2.1.toNat < l.1.length := by have := h1.1; have := h1.2; omega
 refine Ret.atZ h1.1 hlt (Ret.ifd ?_ ?_) <;> intro h2
 rotate_left
 ·exact Ret.ret (tells_false.2 fun h => h2 (by obtain ⟨_, h⟩ := h.2.1; rw [h]))
 have hcf : F_slices_ContainsFunc_int64_int64_c_impl_Design_isInstance_1 N (x.2.2.1, (some d, ()), ()) = some (dec (∃ k ∈ x.2.2.1, ¬ BtwP 0 ((d.2.1.length : Int) - 1) k), ()) := by
  unfold F_slices_ContainsFunc_int64_int64_c_impl_Design_isInstance_1 F_slices_IndexFunc_int64_int64_c_impl_Design_isInstance_1
  exact containsFunc_eq (indexFunc_eq (fun e => F_impl_Design_isInstance_1 N (e, some d, ())) (fun k => ¬ BtwP 0 ((d.2.1.length : Int) - 1) k) (fun k _ => by
   unfold F_impl_Design_isInstance_1
   simp only [obind_just, impl_isNet hN hd, dec_not_eq]) hx hN)
 refine Ret.call hcf (Ret.ret ?_)
 rw [tells_ndec]
 constructor
 ·intro hn; exact ⟨h1, ⟨hlt, by omega⟩, fun k hk => Classical.byContradiction fun hp => hn ⟨k, hk, hp⟩⟩
 ·rintro h ⟨k, hk, hp⟩; exact hp (h.2.2 k hk)
end
end Go.Proofs.YtdbmhfpphobmpaaGreatDoor
namespace Go.Proofs.YtdbmhfpphobmpaaGreatDoor
set_option linter.unusedSimpArgs false
set_option linter.unusedVariables false
set_option linter.unusedSectionVars false
section
variable {N : Nat} (hN : 4000000 ≤ N) {u : Unit}
include hN
theorem impl_IsDesign_cf {s : List Int} (hs : s.length < 4000000) {n : Nat} {f : Nat → Nat} (h : CountsL n f s) (v w : Unit) : F_slices_ContainsFunc_int_int_c_impl_IsDesign_1 N (s, v, w) = some (dec (¬ ∀ k, k < n → f k = 1), ()) := by
 unfold F_slices_ContainsFunc_int_int_c_impl_IsDesign_1 F_slices_IndexFunc_int_int_c_impl_IsDesign_1
 refine (containsFunc_eq (indexFunc_eq (fun e => F_impl_IsDesign_1 N (e, ())) (fun k => ¬ k = 1) (fun k _ => by
  unfold F_impl_IsDesign_1
  simp only [decide_dec, dec_not_eq]) hs hN)).trans ?_
 rw [dec_congr]
 constructor
 ·rintro ⟨x, hx, hne⟩ hall
  obtain ⟨k, hk, rfl⟩ := List.getElem_of_mem hx
  rw [h.2 k hk, hall k (by rw [← h.1]; exact hk)] at hne
  exact hne rfl
 ·intro hn
  refine Classical.byContradiction fun hne => hn fun k hk => Classical.byContradiction fun hk1 => hne ⟨s[k]'(by rw [h.1]; exact hk), List.getElem_mem _, ?_⟩
  rw [h.2 k]; omega
omit hN in
theorem drv_bound {d : DDesign} (hd : SmallD d) (i j k : Nat) : (d.1.take i).countP (fun x => decide (lastN x.2.2.1 = (k : Int))) + (d.2.2.1.take j).countP (fun p => decide (p.2.1 = 1 ∧ p.2.2.1 = (k : Int))) ≤ d.1.length + d.2.2.1.length := by
 have h1 : (d.1.take i).countP (fun x => decide (lastN x.2.2.1 = (k : Int))) ≤ (d.1.take i).length := List.countP_le_length
 have h2 : (d.2.2.1.take j).countP (fun p => decide (p.2.1 = 1 ∧ p.2.2.1 = (k : Int))) ≤ (d.2.2.1.take j).length := List.countP_le_length
 rw [List.length_take] at h1 h2
 omega
omit hN in
theorem cntI_succ {d : DDesign} {i : Nat} (hi : i < d.1.length) (k : Nat) : (d.1.take i).countP (fun x => decide (lastN x.2.2.1 = (k : Int))) + (if (k : Int) = lastN d.1[i].2.2.1 then 1 else 0) = (d.1.take (i + 1)).countP (fun x => decide (lastN x.2.2.1 = (k : Int))) := by
 rw [countP_take_succ hi]
 by_cases h : (k : Int) = lastN d.1[i].2.2.1
 ·rw [if_pos h, if_pos (by simp [h])]
 ·rw [if_neg h, if_neg (by simp; exact fun e => h e.symm)]
omit hN in
theorem cntP_succ {d : DDesign} {i : Nat} (hi : i < d.2.2.1.length) (k : Nat) : (d.2.2.1.take (i + 1)).countP (fun p => decide (p.2.1 = 1 ∧ p.2.2.1 = (k : Int))) = (d.2.2.1.take i).countP (fun p => decide (p.2.1 = 1 ∧ p.2.2.1 = (k : Int))) + (if d.2.2.1[i].2.1 = 1 ∧ (k : Int) = d.2.2.1[i].2.2.1 then 1 else 0) := by
 rw [countP_take_succ hi]
 congr 1
 by_cases h : d.2.2.1[i].2.1 = 1 ∧ (k : Int) = d.2.2.1[i].2.2.1
 ·rw [if_pos h, if_pos (by simp [h.1, h.2])]
 ·rw [if_neg h, if_neg (by simp; exact fun e e' => h ⟨e, e'.symm⟩)]
theorem impl_IsDesign {l : DLibrary} (hl : SmallL l) {d : DDesign} (hd : SmallD d) : F_impl_IsDesign N (l, d, u) = some (dec (DesignP l d), ()) := by
 refine Ret.tells ?_
 unfold F_impl_IsDesign
 dsimp only
 refine Ret.call (impl_IsLibrary hN hl) (Ret.ifnc ?_ ?_) <;> intro hL
 ·exact Ret.ret (tells_false.2 fun h => hL h.1)
 refine Ret.call (impl_hasNames hN hd) (Ret.ifnc ?_ ?_) <;> intro hH
 ·exact Ret.ret (tells_false.2 fun h => hH h.2.1)
 have b1 := hH.1.1; have b2 := hH.1.2.1; have b3 := hH.1.2.2
 have hb : ∀ i j k : Nat, (d.1.take i).countP (fun x => decide (lastN x.2.2.1 = (k : Int))) + (d.2.2.1.take j).countP (fun p => decide (p.2.1 = 1 ∧ p.2.2.1 = (k : Int))) < 4000000 := fun i j k => by have := drv_bound hd i j k; omega
 refine Ret.guard3' ⟨by omega, by unfold lim; omega, rfl⟩ ?_
 have hpins : ∀ c ∈ l.1, PinsP c.2.2.1 := fun c hc => (hL.1 c hc).2.1
 refine Ret.up d.1.length (fun i s => CountsL d.2.1.length (fun k => (d.1.take i).countP (fun x => decide (lastN x.2.2.1 = (k : Int)))) s.1 ∧ ∀ j, j < i → ∀ h : j < d.1.length, InstP l.1 d.2.1.length d.1[j]) (by omega) (by omega) ⟨by simpa using CountsL.zero d.2.1.length (by simp), upto_zero⟩ ?_ ?_
 ·rintro i ⟨s, v⟩ next hi ⟨hC, hI⟩ hn
  dsimp only at hC ⊢
  refine Ret.must ?_ ?_
  ·omega
  refine Ret.atN hi (Ret.call (impl_isInstance hN hl.1 hd.2.1.1 (hd.1.2 _ (List.getElem_mem hi)).2) (Ret.ifnc ?_ ?_)) <;> intro hx
  ·exact Ret.ret (tells_false.2 fun h => hx (h.2.2.1.1 _ (List.getElem_mem hi)))
  obtain ⟨h2, h5, hlast⟩ := inst_last hpins hx
  have hw : IntKind.i64.wrap ((d.1[i].2.2.1.length : Int) - 1) = ((d.1[i].2.2.1.length - 1 : Nat) : Int) := by rw [wrapI] <;> omega
  rw [hw]
  rw [lastN_eq (by omega)] at hlast
  refine Ret.atN (by omega) ?_
  refine Ret.incr hC hlast.1 (by have := hlast.2; omega) (fun k => by have := hb i 0 k; simp at this; omega) (fun s' => next (IntKind.i64.wrap ((i : Int) + 1), s', ())) fun s' hs' => ?_
  refine hn (s', ()) ⟨hs'.congr fun k _ => ?_, upto_succ hI fun _ => hx⟩
  rw [← cntI_succ hi, lastN_eq (by omega)]
 rintro ⟨s, v⟩ next ⟨hC, hI⟩
 dsimp only at hC ⊢
 refine Ret.mustN ?_ ?_
 ·omega
 rw [List.take_length] at hC
 have hinst : ∀ x ∈ d.1, InstP l.1 d.2.1.length x := forall_mem_iff.2 fun j hj => hI j hj hj
 clear hI
 refine Ret.up d.2.2.1.length (fun i s => CountsL d.2.1.length (fun k => d.1.countP (fun x => decide (lastN x.2.2.1 = (k : Int))) + (d.2.2.1.take i).countP (fun p => decide (p.2.1 = 1 ∧ p.2.2.1 = (k : Int)))) s.1 ∧ ∀ j, j < i → ∀ h : j < d.2.2.1.length, PortP d.2.1.length d.2.2.1[j]) (by omega) (by omega) ⟨hC.congr (by simp), upto_zero⟩ ?_ ?_
 ·rintro i ⟨s, v⟩ next hi ⟨hC, hI⟩ hn
  dsimp only at hC ⊢
  have hb' : ∀ k : Nat, d.1.countP (fun x => decide (lastN x.2.2.1 = (k : Int))) + (d.2.2.1.take i).countP (fun p => decide (p.2.1 = 1 ∧ p.2.2.1 = (k : Int))) < 4000000 := fun k => by have := hb d.1.length i k; rw [List.take_length] at this; exact this
  have hbad : ¬ PortP d.2.1.length d.2.2.1[i] → ¬ DesignP l d := fun hg h => hg (h.2.2.1.2 _ (List.getElem_mem hi))
  refine Ret.must ?_ ?_
  ·omega
  refine Ret.atN hi ?_
  have hnet : F_impl_Design_isNet N (d, d.2.2.1[i].2.2) = some (dec (BtwP 0 ((d.2.1.length : Int) - 1) d.2.2.1[i].2.2.1), ()) := impl_isNet hN hd.2.1.1 _
  refine Ret.ifnd ?_ ?_ <;> intro e1
  ·refine Ret.ifnd ?_ ?_ <;> intro e2
   ·exact Ret.ret (tells_false.2 (hbad fun h => by have := h.1; omega))
   refine Ret.call hnet (Ret.ifnc ?_ ?_) <;> intro e3
   ·exact Ret.ret (tells_false.2 (hbad fun h => e3 h.2))
   refine Ret.mustN e1 (hn (s, ()) ⟨hC.congr fun k _ => ?_, upto_succ hI fun _ => ⟨.inr e2, e3⟩⟩)
   rw [cntP_succ hi, if_neg (fun h => e1 h.1)]; rfl
  ·refine Ret.call hnet (Ret.ifnc ?_ ?_) <;> intro e3
   ·exact Ret.ret (tells_false.2 (hbad fun h => e3 h.2))
   refine Ret.must e1 ?_
   refine Ret.incr hC e3.1 (by have := e3.2; omega) hb' (fun s' => next (IntKind.i64.wrap ((i : Int) + 1), s', ())) fun s' hs' => ?_
   refine hn (s', ()) ⟨hs'.congr fun k _ => ?_, upto_succ hI fun _ => ⟨.inl e1, e3⟩⟩
   rw [cntP_succ hi]
   simp only [e1, true_and]
   omega
 rintro ⟨s, v⟩ next ⟨hC, hI⟩
 dsimp only at hC ⊢
 refine Ret.mustN ?_ ?_
 ·omega
 rw [List.take_length] at hC
 refine Ret.call (impl_IsDesign_cf hN (by rw [hC.1]; omega) hC () ()) (Ret.ret ?_)
 rw [tells_ndec]
 constructor
 ·intro h; exact ⟨hL, hH, ⟨hinst, forall_mem_iff.2 fun j hj => hI j hj hj⟩, Classical.not_not.1 h⟩
 ·intro h h'; exact h' h.2.2.2
theorem spec_l05Names {l : List ByteArray} (hl : SmallN l) : F_spec_l05Names N (l, u) = some (dec (NamesP l), ()) := by
 refine Ret.tells ?_
 unfold F_spec_l05Names
 have hl' := hl.1
 dsimp only
 refine Ret.up l.length (fun i _ => ∀ j, j < i → ∀ h : j < l.length, NameP l[j] ∧ ∀ k (h' : k < j), l[k] ≠ l[j]) (by omega) (by omega) upto_zero ?_ ?_
 ·intro i u next hi hI hn
  dsimp only
  refine Ret.must ?_ ?_
  ·omega
  refine Ret.atN hi (Ret.call (spec_l03Name hN (hl.2 _ (List.getElem_mem hi))) (Ret.ifnc ?_ ?_)) <;> intro h5
  ·exact Ret.ret (tells_false.2 fun h => h5 (h.1 _ (List.getElem_mem hi)))
  refine Ret.up i (fun k _ => ∀ j (h : j < k) (h' : j < l.length), l[j] ≠ l[i]) (by omega) (by omega) (fun j h => by omega) ?_ ?_
  ·intro k v next' hk hJ hm
   dsimp only
   refine Ret.must ?_ ?_
   ·omega
   refine Ret.atN (show k < l.length by omega) (Ret.atN hi (Ret.ifd ?_ ?_)) <;> intro e1
   ·exact Ret.ret (tells_false.2 fun h => h.2 i hi k hk e1)
   ·refine hm () fun j hj hj' => ?_
    rcases Nat.lt_or_ge j k with hl | hl
    ·exact hJ j hl hj'
    ·obtain rfl : j = k := by omega
     exact e1
  ·intro v next' hJ
   dsimp only
   refine Ret.mustN ?_ (hn () (upto_succ hI fun _ => ⟨h5, fun k hk => hJ k hk (by omega)⟩))
   omega
 ·intro u next hI
  dsimp only
  refine Ret.mustN ?_ (Ret.ret (tells_true.2 ⟨forall_mem_iff.2 fun j hj => (hI j hj hj).1, fun k hk j hj => (hI k hk hk).2 j hj⟩))
  omega
theorem spec_l05Parts {l : DLibrary} (hl : SmallL l) {d : DDesign} (hd : SmallD d) : F_spec_l05Parts N (l, d, u) = some (dec (PartsP l.1 d), ()) := by
 refine Ret.tells ?_
 unfold F_spec_l05Parts
 have h1 := hd.1.1; have h2 := hd.2.1.1; have h3 := hd.2.2.1
 dsimp only
 rw [len_wrap1 hN hl.1, len_wrap1 hN h2]
 refine Ret.up d.1.length (fun i _ => ∀ j, j < i → ∀ h : j < d.1.length, InstP l.1 d.2.1.length d.1[j]) (by omega) (by omega) upto_zero ?_ ?_
 ·intro i u next hi hI hn
  have hbad : ¬ InstP l.1 d.2.1.length d.1[i] → ¬ PartsP l.1 d := fun hg h => hg (h.1 _ (List.getElem_mem hi))
  have hx := (hd.1.2 _ (List.getElem_mem hi)).2
  dsimp only
  refine Ret.must ?_ ?_
  ·omega
  refine Ret.atN hi (Ret.call (spec_l01In _ _ _ _ _) (Ret.ifnc ?_ ?_)) <;> intro e1
  ·exact Ret.ret (tells_false.2 (hbad fun h => e1 h.1))
  have hlt : d.1[i].2.1.toNat < l.1.length := by have := e1.1; have := e1.2; omega
  refine Ret.atZ e1.1 hlt (Ret.ifnd ?_ ?_) <;> intro e2
  ·exact Ret.ret (tells_false.2 (hbad fun h => e2 (by obtain ⟨_, h⟩ := h.2.1; rw [h])))
  refine Ret.up d.1[i].2.2.1.length (fun k _ => ∀ j, j < k → ∀ h : j < d.1[i].2.2.1.length, BtwP 0 ((d.2.1.length : Int) - 1) d.1[i].2.2.1[j]) (by omega) (by omega) upto_zero ?_ ?_
  ·intro k v next' hk hJ hm
   dsimp only
   refine Ret.must ?_ ?_
   ·omega
   refine Ret.atN hk (Ret.call (spec_l01In _ _ _ _ _) (Ret.ifnc ?_ ?_)) <;> intro e3
   ·exact Ret.ret (tells_false.2 (hbad fun h => e3 (h.2.2 _ (List.getElem_mem hk))))
   ·exact hm () (upto_succ hJ fun _ => e3)
  ·intro v next' hJ
   dsimp only
   refine Ret.mustN ?_ (hn () (upto_succ hI fun _ => ⟨e1, ⟨hlt, by omega⟩, forall_mem_iff.2 fun j hj => hJ j hj hj⟩))
   omega
 intro u next hI
 dsimp only
 refine Ret.mustN ?_ ?_
 ·omega
 have hinst : ∀ x ∈ d.1, InstP l.1 d.2.1.length x := forall_mem_iff.2 fun j hj => hI j hj hj
 clear hI
 refine Ret.up d.2.2.1.length (fun i _ => ∀ j, j < i → ∀ h : j < d.2.2.1.length, PortP d.2.1.length d.2.2.1[j]) (by omega) (by omega) upto_zero ?_ ?_
 ·intro i u next hi hI hn
  have hbad : ¬ PortP d.2.1.length d.2.2.1[i] → ¬ PartsP l.1 d := fun hg h => hg (h.2 _ (List.getElem_mem hi))
  dsimp only
  refine Ret.must ?_ ?_
  ·omega
  refine Ret.atN hi (Ret.call (spec_l01In _ _ _ _ _) (Ret.ifnc ?_ ?_)) <;> intro e1
  ·exact Ret.ret (tells_false.2 (hbad fun h => e1 (by have := h.1; unfold BtwP; omega)))
  refine Ret.atN hi (Ret.call (spec_l01In _ _ _ _ _) (Ret.ifnc ?_ ?_)) <;> intro e2
  ·exact Ret.ret (tells_false.2 (hbad fun h => e2 h.2))
  ·exact hn () (upto_succ hI fun _ => ⟨by unfold BtwP at e1; omega, e2⟩)
 ·intro u next hI
  dsimp only
  refine Ret.mustN ?_ (Ret.ret (tells_true.2 ⟨hinst, forall_mem_iff.2 fun j hj => hI j hj hj⟩))
  omega
theorem spec_IsDesign {l : DLibrary} (hl : SmallL l) {d : DDesign} (hd : SmallD d) : F_spec_IsDesign N (l, d, u) = some (dec (DesignP l d), ()) := by
 refine Ret.tells ?_
 unfold F_spec_IsDesign
 have h1 := hd.1.1; have h2 := hd.2.1.1; have h3 := hd.2.2.1
 dsimp only
 refine Ret.call (spec_IsLibrary hN hl) (Ret.ifnc ?_ ?_) <;> intro hL
 ·exact Ret.ret (tells_false.2 fun h => hL h.1)
 refine Ret.ifd ?_ ?_ <;> intro b1
 ·exact Ret.ret (tells_false.2 fun h => by have := h.2.1.1.1; omega)
 refine Ret.ifd ?_ ?_ <;> intro b2
 ·exact Ret.ret (tells_false.2 fun h => by have := h.2.1.1.2.1; omega)
 refine Ret.ifd ?_ ?_ <;> intro b3
 ·exact Ret.ret (tells_false.2 fun h => by have := h.2.1.1.2.2; omega)
 refine Ret.call (spec_l05Parts hN hl hd) (Ret.ifnc ?_ ?_) <;> intro hP
 ·exact Ret.ret (tells_false.2 fun h => hP h.2.2.1)
 refine Ret.up d.1.length (fun i s => s = ((d.1.take i).map (·.1), ())) (by omega) (by omega) rfl ?_ ?_
 ·rintro i s next hi rfl hn
  dsimp only
  refine Ret.must ?_ ?_
  ·omega
  refine Ret.atN hi (Ret.guard ?_ ?_)
  ·unfold lim; simp; omega
  exact hn _ (by rw [List.take_succ_eq_append_getElem hi, List.map_append]; rfl)
 rintro s next rfl
 dsimp only
 refine Ret.mustN ?_ ?_
 ·omega
 refine Ret.up d.2.2.1.length (fun i s => s = ((d.2.2.1.take i).map (·.1), ())) (by omega) (by omega) rfl ?_ ?_
 ·rintro i s next hi rfl hn
  dsimp only
  refine Ret.must ?_ ?_
  ·omega
  refine Ret.atN hi (Ret.guard ?_ ?_)
  ·unfold lim; simp; omega
  exact hn _ (by rw [List.take_succ_eq_append_getElem hi, List.map_append]; rfl)
 rintro s next rfl
 dsimp only
 refine Ret.mustN ?_ ?_
 ·omega
 rw [List.take_length, List.take_length]
 have n1 := spec_l05Names hN (l := d.1.map (·.1)) (u := ()) ⟨by simpa using h1, fun s hs => by obtain ⟨p, hp, rfl⟩ := List.mem_map.1 hs; exact (hd.1.2 p hp).1⟩
 have n2 := spec_l05Names hN (l := d.2.1) (u := ()) ⟨h2, hd.2.1.2⟩
 have n3 := spec_l05Names hN (l := d.2.2.1.map (·.1)) (u := ()) ⟨by simpa using h3, fun s hs => by obtain ⟨p, hp, rfl⟩ := List.mem_map.1 hs; exact hd.2.2.2 p hp⟩
 refine Ret.call n1 (Ret.ifnc ?_ ?_) <;> intro m1
 ·exact Ret.ret (tells_false.2 fun h => m1 h.2.1.2.1)
 refine Ret.call n3 (Ret.ifnc ?_ ?_) <;> intro m3
 ·exact Ret.ret (tells_false.2 fun h => m3 h.2.1.2.2.2)
 refine Ret.call n2 (Ret.ifnc ?_ ?_) <;> intro m2
 ·exact Ret.ret (tells_false.2 fun h => m2 h.2.1.2.2.1)
 have hH : HasNames d := ⟨⟨by omega, by omega, by omega⟩, m1, m2, m3⟩
 have hb : ∀ i j k : Nat, (d.1.take i).countP (fun x => decide (lastN x.2.2.1 = (k : Int))) + (d.2.2.1.take j).countP (fun p => decide (p.2.1 = 1 ∧ p.2.2.1 = (k : Int))) < 4000000 := fun i j k => by have := drv_bound hd i j k; omega
 refine Ret.guard3' ⟨by omega, by unfold lim; omega, rfl⟩ ?_
 have hpins : ∀ c ∈ l.1, PinsP c.2.2.1 := fun c hc => (hL.1 c hc).2.1
 refine Ret.up d.1.length (fun i s => CountsL d.2.1.length (fun k => (d.1.take i).countP (fun x => decide (lastN x.2.2.1 = (k : Int)))) s.1) (by omega) (by omega) (by simpa using CountsL.zero d.2.1.length (by simp)) ?_ ?_
 ·rintro i ⟨s, v⟩ next hi hC hn
  dsimp only at hC ⊢
  refine Ret.must ?_ ?_
  ·omega
  refine Ret.atN hi ?_
  obtain ⟨h2, h5, hlast⟩ := inst_last hpins (hP.1 _ (List.getElem_mem hi))
  have hw : IntKind.i64.wrap ((d.1[i].2.2.1.length : Int) - 1) = ((d.1[i].2.2.1.length - 1 : Nat) : Int) := by rw [wrapI] <;> omega
  rw [hw]
  rw [lastN_eq (by omega)] at hlast
  refine Ret.atN (by omega) ?_
  refine Ret.incr hC hlast.1 (by have := hlast.2; omega) (fun k => by have := hb i 0 k; simp at this; omega) (fun s' => next (IntKind.i64.wrap ((i : Int) + 1), s', ())) fun s' hs' => ?_
  refine hn (s', ()) (hs'.congr fun k _ => ?_)
  rw [← cntI_succ hi, lastN_eq (by omega)]
 rintro ⟨s, v⟩ next hC
 dsimp only at hC ⊢
 refine Ret.mustN ?_ ?_
 ·omega
 rw [List.take_length] at hC
 refine Ret.up d.2.2.1.length (fun i s => CountsL d.2.1.length (fun k => d.1.countP (fun x => decide (lastN x.2.2.1 = (k : Int))) + (d.2.2.1.take i).countP (fun p => decide (p.2.1 = 1 ∧ p.2.2.1 = (k : Int)))) s.1) (by omega) (by omega) (hC.congr (by simp)) ?_ ?_
 ·rintro i ⟨s, v⟩ next hi hC hn
  dsimp only at hC ⊢
  have hb' : ∀ k : Nat, d.1.countP (fun x => decide (lastN x.2.2.1 = (k : Int))) + (d.2.2.1.take i).countP (fun p => decide (p.2.1 = 1 ∧ p.2.2.1 = (k : Int))) < 4000000 := fun k => by have := hb d.1.length i k; rw [List.take_length] at this; exact this
  have e3 := (hP.2 _ (List.getElem_mem hi)).2
  refine Ret.must ?_ ?_
  ·omega
  refine Ret.atN hi ?_
  refine Ret.ifd ?_ ?_ <;> intro e1
  ·refine Ret.atN hi ?_
   refine Ret.incr hC e3.1 (by have := e3.2; omega) hb' (fun s' => next (IntKind.i64.wrap ((i : Int) + 1), s', ())) fun s' hs' => ?_
   refine hn (s', ()) (hs'.congr fun k _ => ?_)
   rw [cntP_succ hi]
   simp only [e1, true_and]
   omega
  ·refine hn (s, ()) (hC.congr fun k _ => ?_)
   rw [cntP_succ hi, if_neg (fun h => e1 h.1)]; rfl
 rintro ⟨s, v⟩ next hC
 dsimp only at hC ⊢
 refine Ret.mustN ?_ ?_
 ·omega
 rw [List.take_length] at hC
 have hsl := hC.1
 refine Ret.up s.length (fun i _ => ∀ j, j < i → ∀ h : j < s.length, s[j] = 1) (by omega) (by omega) upto_zero ?_ ?_
 ·intro i w next hi hI hn
  dsimp only
  refine Ret.must ?_ ?_
  ·omega
  refine Ret.guardI hi (Ret.get hi (Ret.ifnd ?_ ?_)) <;> intro e1
  ·refine Ret.ret (tells_false.2 fun h => e1 ?_)
   have := h.2.2.2 i (by omega)
   simp only [Int.toNat_natCast]
   rw [hC.2 i hi]
   dsimp only
   unfold drv at this
   omega
  ·exact hn () (upto_succ hI fun _ => by simpa using e1)
 ·intro w next hI
  dsimp only
  refine Ret.mustN ?_ (Ret.ret (tells_true.2 ⟨hL, hH, hP, fun k hk => ?_⟩))
  ·omega
  have h4 := hI k (by omega) (by omega)
  rw [hC.2 k (by omega)] at h4
  dsimp only at h4
  unfold drv
  omega
end
end Go.Proofs.YtdbmhfpphobmpaaGreatDoor
namespace Go.Proofs.YtdbmhfpphobmpaaGreatDoor
set_option linter.unusedSimpArgs false
set_option linter.unusedVariables false
set_option linter.unusedSectionVars false
abbrev Plc : Type := Int × Int × Int × Bool × Unit
def instPl (i : Nat) (nets : List Int) : List Plc := nets.mapIdx fun k net => ((i : Int), (k : Int), net, decide (k + 1 = nets.length), ())
def portPl (ps : List DPort) : List Plc := ps.mapIdx fun i p => ((-1 : Int), (i : Int), p.2.2.1, decide (p.2.1 = 1), ())
def instsPl (xs : List DInstance) : List Plc := (xs.mapIdx fun i x => instPl i x.2.2.1).flatten
def placesL (d : DDesign) : List Plc := instsPl d.1 ++ portPl d.2.2.1
def Few (d : DDesign) : Prop := d.1.length ≤ 14 ∧ (∀ x ∈ d.1, x.2.2.1.length ≤ 5) ∧ d.2.2.1.length ≤ 8
theorem few_of {l : DLibrary} {d : DDesign} (h : DesignP l d) : Few d := ⟨h.2.1.1.1, fun x hx => (inst_last (fun c hc => (h.1.1 c hc).2.1) (h.2.2.1.1 x hx)).2.1, h.2.1.1.2.2⟩
theorem mapIdx_take_succ {α β : Type} {xs : List α} {i : Nat} (hi : i < xs.length) (f : Nat → α → β) : (xs.take (i + 1)).mapIdx f = (xs.take i).mapIdx f ++ [f i xs[i]] := by
 rw [List.take_succ_eq_append_getElem hi, List.mapIdx_append]
 simp [Nat.min_eq_left (Nat.le_of_lt hi)]
theorem instsPl_succ {xs : List DInstance} {i : Nat} (hi : i < xs.length) : instsPl (xs.take (i + 1)) = instsPl (xs.take i) ++ instPl i xs[i].2.2.1 := by
 unfold instsPl
 rw [mapIdx_take_succ hi, List.flatten_append]; simp
theorem instsPl_len (xs : List DInstance) (h : ∀ x ∈ xs, x.2.2.1.length ≤ 5) : ∀ i, i ≤ xs.length → (instsPl (xs.take i)).length ≤ 5 * i
 | 0, _ => by simp [instsPl]
 | i + 1, hi => by
  have := instsPl_len xs h i (by omega)
  have h5 := h _ (List.getElem_mem (show i < xs.length by omega))
  rw [instsPl_succ (by omega)]
  simp [instPl]; omega
theorem placesL_len {d : DDesign} (h : Few d) : (placesL d).length ≤ 78 := by
 have h1 := instsPl_len d.1 h.2.1 d.1.length (Nat.le_refl _)
 rw [List.take_length] at h1
 have := h.1; have := h.2.2
 simp [placesL, portPl]; omega
def WireP (w : DWire) (sinks : Int) : Prop := (1 ≤ w.1.length ∧ w.1.length ≤ 8) ∧ w.2.1.length = w.1.length ∧ w.2.2.1.length = w.1.length ∧ (∀ i (h : i < w.1.length), (i = 0 → w.1[i] = -1 ∧ w.2.1[i]? = some 0) ∧ (0 < i → BtwP 0 ((i : Int) - 1) w.1[i])) ∧
 (∀ r ∈ w.2.1, BtwP 0 1000 r) ∧ (∀ c ∈ w.2.2.1, BtwP 0 500 c) ∧ (w.2.2.2.1.length : Int) = sinks ∧ ∀ k ∈ w.2.2.2.1, BtwP 0 ((w.1.length : Int) - 1) k
abbrev SmallW (w : DWire) : Prop := w.1.length < 4000000 ∧ w.2.1.length < 4000000 ∧ w.2.2.1.length < 4000000 ∧ w.2.2.2.1.length < 4000000
abbrev SmallB (b : DBlock) : Prop := SmallL b.1 ∧ SmallD b.2.1 ∧ (b.2.2.1.length < 4000000 ∧ ∀ w ∈ b.2.2.1, SmallW w)
def isSink (k : Int) (p : Plc) : Bool := decide (p.2.2.1 = k) && !p.2.2.2.1
def sinkCount (d : DDesign) (k : Int) : Nat := (placesL d).countP (isSink k)
def BlockP (b : DBlock) : Prop := DesignP b.1 b.2.1 ∧ b.2.2.1.length = b.2.1.2.1.length ∧ ∀ k (h : k < b.2.2.1.length), WireP b.2.2.1[k] (sinkCount b.2.1 (k : Int))
def sinksTo (l : List Plc) (k : Int) : List Int := (l.mapIdx fun i p => (isSink k p, (i : Int))).filterMap fun p => if p.1 = true then some p.2 else none
def sinksL (d : DDesign) (k : Int) : List Int := sinksTo (placesL d) k
theorem sinksTo_succ {l : List Plc} {i : Nat} (hi : i < l.length) (k : Int) : sinksTo (l.take (i + 1)) k = sinksTo (l.take i) k ++ (if isSink k l[i] = true then [(i : Int)] else []) := by
 unfold sinksTo
 rw [mapIdx_take_succ hi, List.filterMap_append]
 congr 1
 by_cases h : isSink k l[i] = true
 ·simp [h]
 ·simp [h]
theorem sinksTo_len (l : List Plc) (k : Int) : ∀ i, i ≤ l.length → (sinksTo (l.take i) k).length = (l.take i).countP (isSink k)
 | 0, _ => by simp [sinksTo]
 | i + 1, hi => by
  rw [sinksTo_succ (by omega), countP_take_succ (by omega), List.length_append, sinksTo_len l k i (by omega)]
  split <;> simp
theorem sinksL_len (d : DDesign) (k : Int) : (sinksL d k).length = sinkCount d k := by
 have := sinksTo_len (placesL d) k _ (Nat.le_refl _)
 rw [List.take_length] at this
 exact this
section
variable {N : Nat} (hN : 4000000 ≤ N) {u : Unit}
include hN
theorem impl_places {d : DDesign} (hd : Few d) : F_impl_Design_places N (d, u) = some (placesL d, ()) := by
 refine Ret.eq ?_
 unfold F_impl_Design_places
 have f1 := hd.1; have f3 := hd.2.2
 dsimp only
 refine Ret.up d.1.length (fun i s => s = (instsPl (d.1.take i), ())) (by omega) (by omega) rfl ?_ ?_
 ·rintro i s next hi rfl hn
  have f2 := hd.2.1 _ (List.getElem_mem hi)
  have hlen := instsPl_len d.1 hd.2.1 i (by omega)
  dsimp only
  refine Ret.must ?_ ?_
  ·omega
  refine Ret.atN hi ?_
  rw [len_wrap1 hN (show d.1[i].2.2.1.length < 4000000 by omega)]
  refine Ret.up d.1[i].2.2.1.length (fun k s => s = (instsPl (d.1.take i) ++ (d.1[i].2.2.1.take k).mapIdx (fun k net => ((i : Int), (k : Int), net, decide (k + 1 = d.1[i].2.2.1.length), ())), ())) (by omega) (by omega) (by simp) ?_ ?_
  ·rintro k s next' hk rfl hm
   dsimp only
   refine Ret.must ?_ ?_
   ·omega
   refine Ret.atN hk (Ret.guard ?_ ?_)
   ·unfold lim; simp; omega
   refine hm _ ?_
   rw [mapIdx_take_succ hk, List.append_assoc]
   have : (decide ((k : Int) = (d.1[i].2.2.1.length : Int) - 1)) = decide (k + 1 = d.1[i].2.2.1.length) := by
    rw [decide_eq_decide]; omega
   rw [this]
  ·rintro s next' rfl
   dsimp only
   refine Ret.mustN ?_ (hn _ ?_)
   ·omega
   rw [instsPl_succ hi, List.take_length]; rfl
 rintro s next rfl
 dsimp only
 refine Ret.mustN ?_ ?_
 ·omega
 rw [List.take_length]
 have hlen := instsPl_len d.1 hd.2.1 d.1.length (Nat.le_refl _)
 rw [List.take_length] at hlen
 refine Ret.up d.2.2.1.length (fun i s => s = (instsPl d.1 ++ portPl (d.2.2.1.take i), ())) (by omega) (by omega) (by simp [portPl]) ?_ ?_
 ·rintro i s next hi rfl hn
  dsimp only
  refine Ret.must ?_ ?_
  ·omega
  refine Ret.atN hi (Ret.guard ?_ ?_)
  ·unfold lim portPl; simp; omega
  refine hn _ ?_
  unfold portPl
  rw [mapIdx_take_succ hi, List.append_assoc]
 ·rintro s next rfl
  dsimp only
  refine Ret.mustN ?_ (Ret.ret ?_)
  ·omega
  rw [List.take_length]; rfl
theorem spec_l05Places {d : DDesign} (hd : Few d) : F_spec_l05Places N (d, u) = some (placesL d, ()) := by
 refine Ret.eq ?_
 unfold F_spec_l05Places
 have f1 := hd.1; have f3 := hd.2.2
 dsimp only
 refine Ret.up d.1.length (fun i s => s = (instsPl (d.1.take i), ())) (by omega) (by omega) rfl ?_ ?_
 ·rintro i s next hi rfl hn
  have f2 := hd.2.1 _ (List.getElem_mem hi)
  have hlen := instsPl_len d.1 hd.2.1 i (by omega)
  dsimp only
  refine Ret.must ?_ ?_
  ·omega
  refine Ret.atN hi ?_
  rw [len_wrap1 hN (show d.1[i].2.2.1.length < 4000000 by omega)]
  refine Ret.up d.1[i].2.2.1.length (fun k s => s = (instsPl (d.1.take i) ++ (d.1[i].2.2.1.take k).mapIdx (fun k net => ((i : Int), (k : Int), net, decide (k + 1 = d.1[i].2.2.1.length), ())), ())) (by omega) (by omega) (by simp) ?_ ?_
  ·rintro k s next' hk rfl hm
   dsimp only
   refine Ret.must ?_ ?_
   ·omega
   refine Ret.atN hk (Ret.guard ?_ ?_)
   ·unfold lim; simp; omega
   refine hm _ ?_
   rw [mapIdx_take_succ hk, List.append_assoc]
   have : (decide ((k : Int) = (d.1[i].2.2.1.length : Int) - 1)) = decide (k + 1 = d.1[i].2.2.1.length) := by
    rw [decide_eq_decide]; omega
   rw [this]
  ·rintro s next' rfl
   dsimp only
   refine Ret.mustN ?_ (hn _ ?_)
   ·omega
   rw [instsPl_succ hi, List.take_length]; rfl
 rintro s next rfl
 dsimp only
 refine Ret.mustN ?_ ?_
 ·omega
 rw [List.take_length]
 have hlen := instsPl_len d.1 hd.2.1 d.1.length (Nat.le_refl _)
 rw [List.take_length] at hlen
 refine Ret.up d.2.2.1.length (fun i s => s = (instsPl d.1 ++ portPl (d.2.2.1.take i), ())) (by omega) (by omega) (by simp [portPl]) ?_ ?_
 ·rintro i s next hi rfl hn
  dsimp only
  refine Ret.must ?_ ?_
  ·omega
  refine Ret.atN hi (Ret.atN hi (Ret.guard ?_ ?_))
  ·unfold lim portPl; simp; omega
  refine hn _ ?_
  unfold portPl
  rw [mapIdx_take_succ hi, List.append_assoc]
 ·rintro s next rfl
  dsimp only
  refine Ret.mustN ?_ (Ret.ret ?_)
  ·omega
  rw [List.take_length]; rfl
theorem spec_l05Sinks {d : DDesign} (hd : Few d) (k : Int) : F_spec_l05Sinks N (d, k, u) = some (sinksL d k, ()) := by
 refine Ret.eq ?_
 unfold F_spec_l05Sinks
 refine Ret.call (spec_l05Places hN hd) ?_
 have hlen := placesL_len hd
 dsimp only
 unfold sinksL
 generalize placesL d = l at *
 refine Ret.up l.length (fun i s => s = (sinksTo (l.take i) k, ())) (by omega) (by omega) (by simp [sinksTo]) ?_ ?_
 ·rintro i s next hi rfl hn
  have hs := sinksTo_len l k i (by omega)
  have hc : (l.take i).countP (isSink k) ≤ (l.take i).length := List.countP_le_length
  rw [List.length_take] at hc
  have hsucc := sinksTo_succ hi k
  dsimp only
  refine Ret.must ?_ ?_
  ·omega
  refine Ret.guardI hi (Ret.get hi ?_)
  simp only [Int.toNat_natCast]
  have hk : isSink k l[i] = (decide (l[i].2.2.1 = k) && !l[i].2.2.2.1) := rfl
  refine Ret.ifd ?_ ?_ <;> intro e1
  ·refine Ret.guardI hi (Ret.get hi ?_)
   rw [decide_eq_true e1, Bool.true_and] at hk
   refine Ret.bif ?_ ?_ <;> intro e2
   ·rw [hk, e2, if_pos rfl] at hsucc
    refine Ret.guard ?_ ?_
    ·unfold lim; simp; omega
    ·exact hn _ (by rw [hsucc])
   ·rw [hk, e2] at hsucc
    exact hn _ (by rw [hsucc]; simp)
  ·rw [hk, decide_eq_false e1] at hsucc
   exact hn _ (by rw [hsucc]; simp)
 ·rintro s next rfl
  dsimp only
  refine Ret.mustN ?_ (Ret.ret ?_)
  ·omega
  rw [List.take_length]
theorem impl_isTree {w : DWire} (hw : SmallW w) (h0 : 1 ≤ w.2.1.length) : F_impl_Wire_isTree N (w, u) = some (dec (∀ i (h : i < w.1.length), (i = 0 → w.1[i] = -1 ∧ w.2.1[i]? = some 0) ∧ (0 < i → BtwP 0 ((i : Int) - 1) w.1[i])), ()) := by
 refine Ret.tells ?_
 unfold F_impl_Wire_isTree
 dsimp only
 have hl := hw.1
 refine Ret.up w.1.length (fun i _ => ∀ j, j < i → ∀ h : j < w.1.length, (j = 0 → w.1[j] = -1 ∧ w.2.1[j]? = some 0) ∧ (0 < j → BtwP 0 ((j : Int) - 1) w.1[j])) (by omega) (by omega) upto_zero ?_ ?_
 ·intro i u next hi hI hn
  have hwi : IntKind.i64.wrap ((i : Int) - 1) = (i : Int) - 1 := by rw [wrapI] <;> omega
  have hr0 : atI w.2.1 0 = some w.2.1[0] := atI_nat (i := 0) (by omega)
  dsimp only
  rw [hwi]
  refine Ret.must ?_ ?_
  ·omega
  refine Ret.atN hi ?_
  refine Ret.ifd ?_ ?_ <;> intro e0
  ·obtain rfl : i = 0 := by omega
   refine Ret.ifnd ?_ ?_ <;> intro e1
   ·exact Ret.ret (tells_false.2 fun h => e1 ((h 0 hi).1 rfl).1)
   refine Ret.call hr0 (Ret.ifnd ?_ ?_) <;> intro e2
   ·refine Ret.ret (tells_false.2 fun h => e2 ?_)
    have := ((h 0 hi).1 rfl).2
    rw [List.getElem?_eq_getElem (by omega)] at this
    exact Option.some.inj this
   refine Ret.mustN ?_ (hn () (upto_succ hI fun _ => ⟨fun _ => ⟨e1, by rw [List.getElem?_eq_getElem (by omega)]; exact congrArg some e2⟩, fun h => by omega⟩))
   omega
  ·refine Ret.must ?_ ?_
   ·omega
   refine Ret.call (impl_within _ _ _ _ _) (Ret.ifnc ?_ ?_) <;> intro e1
   ·exact Ret.ret (tells_false.2 fun h => e1 ((h i hi).2 (by omega)))
   ·exact hn () (upto_succ hI fun _ => ⟨fun h => by omega, fun _ => e1⟩)
 ·intro u next hI
  dsimp only
  refine Ret.mustN ?_ (Ret.ret (tells_true.2 fun j hj => hI j hj hj))
  omega
theorem impl_IsWire {w : DWire} (hw : SmallW w) (k : Int) : F_impl_IsWire N (w, k, u) = some (dec (WireP w k), ()) := by
 refine Ret.tells ?_
 unfold F_impl_IsWire
 have hlen : ∀ (l : List Int) (v : Unit), F_impl_length_int64 N (l, v) = some ((l.length : Int), ()) := fun _ _ => rfl
 have hlen' : F_impl_length_int64 N w.2.2.2 = some ((w.2.2.2.1.length : Int), ()) := rfl
 dsimp only
 refine Ret.call (hlen _ _) (Ret.call (impl_within _ _ _ _ _) (Ret.ifc ?_ ?_)) <;> intro h1
 rotate_left
 ·exact Ret.ret (tells_false.2 fun h => h1 (by have := h.1; unfold BtwP; omega))
 refine Ret.call (hlen _ _) (Ret.ifd ?_ ?_) <;> intro h2
 rotate_left
 ·exact Ret.ret (tells_false.2 fun h => h2 (by have := h.2.1; dsimp only; omega))
 refine Ret.call (hlen _ _) (Ret.ifd ?_ ?_) <;> intro h3
 rotate_left
 ·exact Ret.ret (tells_false.2 fun h => h3 (by have := h.2.2.1; dsimp only; omega))
 have h0 : 1 ≤ w.2.1.length := by dsimp only at h2; unfold BtwP at h1; omega
 dsimp only
 rw [len_wrap1 hN hw.1]
 (repeat' (first | (dsimp only) | (with_reducible refine Ret.ret ?_) | (with_reducible refine Ret.guardI (by first | assumption | omega | (simp only [List.length_append, List.length_cons, List.length_nil, List.length_set, List.length_replicate, lim] at *; omega)) ?_) | (with_reducible refine Ret.guard (by first | assumption | omega | (simp only [List.length_append, List.length_cons, List.length_nil, List.length_set, List.length_replicate, lim] at *; omega)) ?_) | (with_reducible refine Ret.guard3 (by first | assumption | omega | (simp only [List.length_append, List.length_cons, List.length_nil, List.length_set, List.length_replicate, lim] at *; omega)) ?_) | (with_reducible refine Ret.guard3' (by first | assumption | omega | (simp only [List.length_append, List.length_cons, List.length_nil, List.length_set, List.length_replicate, lim] at *; omega)) ?_) | (with_reducible refine Ret.atN (by first | assumption | omega | (simp only [List.length_append, List.length_cons, List.length_nil, List.length_set, List.length_replicate, lim] at *; omega)) ?_) | (with_reducible refine Ret.get (by first | assumption | omega | (simp only [List.length_append, List.length_cons, List.length_nil, List.length_set, List.length_replicate, lim] at *; omega)) ?_) | (with_reducible refine Ret.byteN (by first | assumption | omega | (simp only [List.length_append, List.length_cons, List.length_nil, List.length_set, List.length_replicate, lim] at *; omega)) ?_) | (with_reducible refine Ret.call (impl_isTree hN hw h0) ?_) | (with_reducible refine Ret.call (impl_areWithin hN hw.2.1 _ _) ?_) | (with_reducible refine Ret.call (impl_areWithin hN hw.2.2.1 _ _) ?_) | (with_reducible refine Ret.call (hlen') ?_) | (with_reducible refine Ret.call (impl_areWithin hN hw.2.2.2 _ _) ?_) | ((with_reducible refine Ret.ifnd ?_ ?_) <;> intro _) | ((with_reducible refine Ret.ifd ?_ ?_) <;> intro _) | ((with_reducible refine Ret.ifnc ?_ ?_) <;> intro _) | ((with_reducible refine Ret.ifc ?_ ?_) <;> intro _) | ((with_reducible refine Ret.bif ?_ ?_) <;> intro _)))
 all_goals (simp only [tells_false, tells_dec, WireP, BtwP] at *; grind)
theorem spec_IsWire {w : DWire} (hw : SmallW w) (k : Int) : F_spec_IsWire N (w, k, u) = some (dec (WireP w k), ()) := by
 refine Ret.tells ?_
 unfold F_spec_IsWire
 have hl := hw.1
 dsimp only
 refine Ret.ifd ?_ ?_ <;> intro h1
 ·exact Ret.ret (tells_false.2 fun h => by have := h.1.1; omega)
 refine Ret.ifd ?_ ?_ <;> intro h1'
 ·exact Ret.ret (tells_false.2 fun h => by have := h.1.2; omega)
 refine Ret.ifnd ?_ ?_ <;> intro h2
 ·exact Ret.ret (tells_false.2 fun h => by have := h.2.1; omega)
 refine Ret.ifnd ?_ ?_ <;> intro h3
 ·exact Ret.ret (tells_false.2 fun h => by have := h.2.2.1; omega)
 refine Ret.ifnd ?_ ?_ <;> intro h4
 ·exact Ret.ret (tells_false.2 fun h => by have := h.2.2.2.2.2.2.1; omega)
 have hR : w.2.1.length = w.1.length := by omega
 have hC : w.2.2.1.length = w.1.length := by omega
 refine Ret.up w.1.length (fun i _ => ∀ j, j < i → ∀ h : j < w.1.length, ((j = 0 → w.1[j] = -1 ∧ w.2.1[j]? = some 0) ∧ (0 < j → BtwP 0 ((j : Int) - 1) w.1[j])) ∧ BtwP 0 1000 (w.2.1[j]'(by omega)) ∧ BtwP 0 500 (w.2.2.1[j]'(by omega))) (by omega) (by omega) upto_zero ?_ ?_
 ·intro i u next hi hI hn
  have hwi : IntKind.i64.wrap ((i : Int) - 1) = (i : Int) - 1 := by rw [wrapI] <;> omega
  have hiR : i < w.2.1.length := by omega
  have hiC : i < w.2.2.1.length := by omega
  dsimp only
  rw [hwi]
  refine Ret.must ?_ ?_
  ·omega
  refine Ret.atN hiC (Ret.call (spec_l01In _ _ _ _ _) (Ret.ifnc ?_ ?_)) <;> intro e1
  ·exact Ret.ret (tells_false.2 fun h => e1 (h.2.2.2.2.2.1 _ (List.getElem_mem hiC)))
  refine Ret.atN hiR (Ret.call (spec_l01In _ _ _ _ _) (Ret.ifnc ?_ ?_)) <;> intro e2
  ·exact Ret.ret (tells_false.2 fun h => e2 (h.2.2.2.2.1 _ (List.getElem_mem hiR)))
  refine Ret.ifd ?_ ?_ <;> intro e0
  ·obtain rfl : i = 0 := by omega
   refine Ret.atN hi (Ret.ifnd ?_ ?_) <;> intro e3
   ·exact Ret.ret (tells_false.2 fun h => e3 ((h.2.2.2.1 0 hi).1 rfl).1)
   refine Ret.atN hiR (Ret.ifnd ?_ ?_) <;> intro e4
   ·refine Ret.ret (tells_false.2 fun h => e4 ?_)
    have := ((h.2.2.2.1 0 hi).1 rfl).2
    rw [List.getElem?_eq_getElem (by omega)] at this
    exact Option.some.inj this
   refine Ret.mustN ?_ (hn () (upto_succ hI fun _ => ⟨⟨fun _ => ⟨e3, by rw [List.getElem?_eq_getElem (by omega)]; exact congrArg some e4⟩, fun h => by omega⟩, e2, e1⟩))
   omega
  ·refine Ret.must ?_ ?_
   ·omega
   refine Ret.atN hi (Ret.call (spec_l01In _ _ _ _ _) (Ret.ifnc ?_ ?_)) <;> intro e3
   ·exact Ret.ret (tells_false.2 fun h => e3 ((h.2.2.2.1 i hi).2 (by omega)))
   ·exact hn () (upto_succ hI fun _ => ⟨⟨fun h => by omega, fun _ => e3⟩, e2, e1⟩)
 intro u next hI
 dsimp only
 rw [len_wrap1 hN hl]
 refine Ret.mustN ?_ ?_
 ·omega
 have hsl := hw.2.2.2
 refine Ret.up w.2.2.2.1.length (fun i _ => ∀ j, j < i → ∀ h : j < w.2.2.2.1.length, BtwP 0 ((w.1.length : Int) - 1) w.2.2.2.1[j]) (by omega) (by omega) upto_zero ?_ ?_
 ·intro i u next hi hJ hn
  dsimp only
  refine Ret.must ?_ ?_
  ·omega
  refine Ret.atN hi (Ret.call (spec_l01In _ _ _ _ _) (Ret.ifnc ?_ ?_)) <;> intro e1
  ·exact Ret.ret (tells_false.2 fun h => e1 (h.2.2.2.2.2.2.2 _ (List.getElem_mem hi)))
  ·exact hn () (upto_succ hJ fun _ => e1)
 ·intro u next hJ
  dsimp only
  refine Ret.mustN ?_ (Ret.ret (tells_true.2 ⟨⟨by omega, by omega⟩, hR, hC, fun j hj => (hI j hj hj).1, forall_mem_iff.2 fun j hj => (hI j (by omega) (by omega)).2.1, forall_mem_iff.2 fun j hj => (hI j (by omega) (by omega)).2.2, h4, forall_mem_iff.2 fun j hj => hJ j hj hj⟩))
  omega
theorem impl_IsBlock {b : DBlock} (hb : SmallB b) : F_impl_IsBlock N (b, u) = some (dec (BlockP b), ()) := by
 refine Ret.tells ?_
 unfold F_impl_IsBlock
 dsimp only
 refine Ret.call (impl_IsDesign hN hb.1 hb.2.1) (Ret.ifnc ?_ ?_) <;> intro hD
 ·exact Ret.ret (tells_false.2 fun h => hD h.1)
 refine Ret.ifnd ?_ ?_ <;> intro hl
 ·exact Ret.ret (tells_false.2 fun h => hl (by rw [h.2.1]))
 have hf := few_of hD
 have h30 := hD.2.1.1.2.1
 have hl' : b.2.2.1.length = b.2.1.2.1.length := by omega
 refine Ret.guard3' ⟨by omega, by unfold lim; omega, rfl⟩ ?_
 refine Ret.call (impl_places hN hf) ?_
 have hlen := placesL_len hf
 have hnet : ∀ p ∈ placesL b.2.1, BtwP 0 ((b.2.2.1.length : Int) - 1) p.2.2.1 := by
  intro p hp
  rw [hl']
  rcases List.mem_append.1 hp with hp | hp
  ·obtain ⟨q, hq, hpq⟩ := List.mem_flatten.1 hp
   obtain ⟨i, hi, rfl⟩ := List.mem_mapIdx.1 hq
   obtain ⟨k, hk, rfl⟩ := List.mem_mapIdx.1 hpq
   exact (hD.2.2.1.1 _ (List.getElem_mem hi)).2.2 _ (List.getElem_mem hk)
  ·obtain ⟨i, hi, rfl⟩ := List.mem_mapIdx.1 hp
   exact (hD.2.2.1.2 _ (List.getElem_mem hi)).2
 have hsc : ∀ k, sinkCount b.2.1 k = (placesL b.2.1).countP (isSink k) := fun _ => rfl
 unfold BlockP
 simp only [hsc]
 generalize placesL b.2.1 = l at *
 refine Ret.up l.length (fun i s => CountsL b.2.2.1.length (fun k => (l.take i).countP (isSink (k : Int))) s.1) (by omega) (by omega) (by simpa using CountsL.zero b.2.2.1.length (by simp)) ?_ ?_
 ·rintro i ⟨s, v⟩ next hi hC hn
  have hnt := hnet _ (List.getElem_mem hi)
  have hbd : ∀ k : Nat, (l.take i).countP (isSink (k : Int)) < 4000000 := fun k => countP_take_le l i _ (by omega)
  dsimp only at hC ⊢
  refine Ret.must ?_ ?_
  ·omega
  refine Ret.guardI hi (Ret.get hi ?_)
  simp only [Int.toNat_natCast]
  have hk : ∀ k : Nat, isSink (k : Int) l[i] = (decide (l[i].2.2.1 = (k : Int)) && !l[i].2.2.2.1) := fun _ => rfl
  refine Ret.bif ?_ ?_ <;> intro e1
  ·refine Ret.incr hC hnt.1 (by have := hnt.2; omega) hbd (fun s' => next (IntKind.i64.wrap ((i : Int) + 1), s', ())) fun s' hs' => ?_
   refine hn (s', ()) (hs'.congr fun k _ => ?_)
   rw [countP_take_succ hi, hk, e1, Bool.and_true]
   congr 1
   by_cases h : (k : Int) = l[i].2.2.1
   ·rw [if_pos h, if_pos (by simp [h])]
   ·rw [if_neg h, if_neg (by simp; exact fun e => h e.symm)]
  ·refine hn (s, ()) (hC.congr fun k _ => ?_)
   rw [countP_take_succ hi, hk, e1, Bool.and_false, if_neg (by simp)]; rfl
 rintro ⟨s, v⟩ next hC
 dsimp only at hC ⊢
 refine Ret.mustN ?_ ?_
 ·omega
 rw [List.take_length] at hC
 refine Ret.up b.2.2.1.length (fun i _ => ∀ j, j < i → ∀ h : j < b.2.2.1.length, WireP b.2.2.1[j] ((l.countP (isSink (j : Int)) : Nat) : Int)) (by omega) (by omega) upto_zero ?_ ?_
 ·intro i u next hi hI hn
  have his : i < s.length := by rw [hC.1]; exact hi
  dsimp only
  refine Ret.must ?_ ?_
  ·omega
  refine Ret.atN hi (Ret.guardI his (Ret.get his ?_))
  simp only [Int.toNat_natCast]
  rw [hC.2 i his]
  refine Ret.call (impl_IsWire hN (hb.2.2.2 _ (List.getElem_mem hi)) _) (Ret.ifnc ?_ ?_) <;> intro e1
  ·exact Ret.ret (tells_false.2 fun h => e1 (h.2.2 i hi))
  ·exact hn () (upto_succ hI fun _ => e1)
 ·intro u next hI
  dsimp only
  refine Ret.mustN ?_ (Ret.ret (tells_true.2 ⟨hD, hl', fun k hk => hI k hk hk⟩))
  omega
theorem spec_IsBlock {b : DBlock} (hb : SmallB b) : F_spec_IsBlock N (b, u) = some (dec (BlockP b), ()) := by
 refine Ret.tells ?_
 unfold F_spec_IsBlock
 dsimp only
 refine Ret.call (spec_IsDesign hN hb.1 hb.2.1) (Ret.ifnc ?_ ?_) <;> intro hD
 ·exact Ret.ret (tells_false.2 fun h => hD h.1)
 refine Ret.ifnd ?_ ?_ <;> intro hl
 ·exact Ret.ret (tells_false.2 fun h => hl (by rw [h.2.1]))
 have hf := few_of hD
 have h30 := hD.2.1.1.2.1
 have hl' : b.2.2.1.length = b.2.1.2.1.length := by omega
 refine Ret.up b.2.2.1.length (fun i _ => ∀ j, j < i → ∀ h : j < b.2.2.1.length, WireP b.2.2.1[j] (sinkCount b.2.1 (j : Int))) (by omega) (by omega) upto_zero ?_ ?_
 ·intro i u next hi hI hn
  dsimp only
  refine Ret.must ?_ ?_
  ·omega
  refine Ret.atN hi (Ret.call (spec_l05Sinks hN hf _) ?_)
  dsimp only
  rw [sinksL_len]
  refine Ret.call (spec_IsWire hN (hb.2.2.2 _ (List.getElem_mem hi)) _) (Ret.ifnc ?_ ?_) <;> intro e1
  ·exact Ret.ret (tells_false.2 fun h => e1 (h.2.2 i hi))
  ·exact hn () (upto_succ hI fun _ => e1)
 ·intro u next hI
  dsimp only
  refine Ret.mustN ?_ (Ret.ret (tells_true.2 ⟨hD, hl', fun k hk => hI k hk hk⟩))
  omega
end
end Go.Proofs.YtdbmhfpphobmpaaGreatDoor
namespace Go.Proofs.YtdbmhfpphobmpaaGreatDoor
set_option linter.unusedSimpArgs false
set_option linter.unusedVariables false
set_option linter.unusedSectionVars false
def GateP (b : DBlock) (k : Nat) (j : Nat) : Prop := ∃ h : j < b.2.1.1.length, lastN b.2.1.1[j].2.2.1 = (k : Int) ∧ ∃ h2 : b.2.1.1[j].2.1.toNat < b.1.1.length, (b.1.1[b.2.1.1[j].2.1.toNat]'h2).2.1 = 1
open Classical in
noncomputable def gateOf (b : DBlock) (k : Nat) : Int := if h : ∃ j, GateP b k j then ((Classical.choose h : Nat) : Int) else -1
noncomputable def insOf (b : DBlock) (k : Nat) : List Int := (b.2.1.1[(gateOf b k).toNat]?.map fun x => x.2.2.1.take (x.2.2.1.length - 1)).getD []
def Ranked (b : DBlock) : Prop := ∃ rank : Nat → Nat, ∀ k, k < b.2.1.2.1.length → 0 ≤ gateOf b k → ∀ i ∈ insOf b k, rank i.toNat < rank k
theorem two_count {α : Type} {xs : List α} {p : α → Bool} {i j : Nat} (hij : i < j) (hj : j < xs.length) (h1 : p (xs[i]'(by omega)) = true) (h2 : p xs[j] = true) : 2 ≤ xs.countP p := by
 have e1 := countP_take_succ (show i < xs.length by omega) p
 have e2 := countP_take_succ hj p
 rw [if_pos h1] at e1
 rw [if_pos h2] at e2
 have h3 : (xs.take (i + 1)).countP p ≤ (xs.take j).countP p := by
  have e : xs.take (i + 1) = (xs.take j).take (i + 1) := by rw [List.take_take, Nat.min_eq_left (by omega)]
  rw [e]; exact (List.take_sublist _ _).countP_le
 have h4 : (xs.take (j + 1)).countP p ≤ xs.countP p := (List.take_sublist _ _).countP_le
 omega
section
variable {b : DBlock} (hD : DesignP b.1 b.2.1) {k : Nat} (hk : k < b.2.1.2.1.length)
include hD hk
theorem inst_uniq {i j : Nat} (hi : i < b.2.1.1.length) (hj : j < b.2.1.1.length) (h : lastN b.2.1.1[i].2.2.1 = (k : Int)) (h' : lastN b.2.1.1[j].2.2.1 = (k : Int)) : i = j := by
 have hd := hD.2.2.2 k hk
 unfold drv at hd
 rcases Nat.lt_trichotomy i j with hl | rfl | hl
 ·have := two_count (p := fun x : DInstance => decide (lastN x.2.2.1 = (k : Int))) hl hj (decide_eq_true h) (decide_eq_true h'); omega
 ·rfl
 ·have := two_count (p := fun x : DInstance => decide (lastN x.2.2.1 = (k : Int))) hl hi (decide_eq_true h') (decide_eq_true h); omega
theorem gateOf_eq {j : Nat} (h : GateP b k j) : gateOf b k = (j : Int) := by
 unfold gateOf
 rw [dif_pos ⟨j, h⟩]
 have hc := Classical.choose_spec (p := fun j => GateP b k j) ⟨j, h⟩
 rw [inst_uniq hD hk hc.1 h.1 hc.2.1 h.2.1]
omit hD hk in
theorem gateOf_neg (h : ∀ j, ¬ GateP b k j) : gateOf b k = -1 := by
 unfold gateOf
 rw [dif_neg fun ⟨j, hj⟩ => h j hj]
theorem gateOf_cases : (gateOf b k = -1 ∧ ∀ j, ¬ GateP b k j) ∨ ∃ j : Nat, gateOf b k = (j : Int) ∧ GateP b k j := by
 by_cases h : ∃ j, GateP b k j
 ·obtain ⟨j, h⟩ := h
  exact .inr ⟨j, gateOf_eq hD hk h, h⟩
 ·exact .inl ⟨gateOf_neg fun j hj => h ⟨j, hj⟩, fun j hj => h ⟨j, hj⟩⟩
theorem insOf_eq {j : Nat} (h : GateP b k j) : insOf b k = (b.2.1.1[j]'h.1).2.2.1.take ((b.2.1.1[j]'h.1).2.2.1.length - 1) := by
 unfold insOf
 rw [gateOf_eq hD hk h, Int.toNat_natCast, List.getElem?_eq_getElem h.1]; rfl
theorem insOf_in {i : Int} (h : i ∈ insOf b k) : 0 ≤ i ∧ i.toNat < b.2.1.2.1.length := by
 unfold insOf at h
 cases hx : b.2.1.1[(gateOf b k).toNat]? with
 | none => rw [hx] at h; simp at h
 | some x =>
  rw [hx] at h
  have hm := List.mem_of_getElem? hx
  have := (hD.2.2.1.1 x hm).2.2 i (List.mem_of_mem_take h)
  unfold BtwP at this
  omega
end
theorem inst_ok {b : DBlock} (hD : DesignP b.1 b.2.1) {j : Nat} (hj : j < b.2.1.1.length) : (0 ≤ b.2.1.1[j].2.1 ∧ b.2.1.1[j].2.1.toNat < b.1.1.length) ∧ 2 ≤ b.2.1.1[j].2.2.1.length ∧ b.2.1.1[j].2.2.1.length ≤ 5 ∧ (0 ≤ lastN b.2.1.1[j].2.2.1 ∧ (lastN b.2.1.1[j].2.2.1).toNat < b.2.1.2.1.length) := by
 have h := hD.2.2.1.1 _ (List.getElem_mem hj)
 have h2 := inst_last (fun c hc => (hD.1.1 c hc).2.1) h
 have h3 := h.1; have h4 := h2.2.2
 unfold BtwP at h3 h4
 exact ⟨⟨h3.1, h.2.1.1⟩, h2.1, h2.2.1, by omega⟩
theorem impl_cellOf {N : Nat} {b : DBlock} (hD : DesignP b.1 b.2.1) {j : Nat} (hj : j < b.2.1.1.length) (u : Unit) : F_impl_Block_cellOf N (b, (j : Int), u) = some (b.1.1[b.2.1.1[j].2.1.toNat]'(inst_ok hD hj).1.2, ()) := by
 unfold F_impl_Block_cellOf
 dsimp only
 rw [obind_eq' (atI_nat hj), obind_eq' (atI_int (inst_ok hD hj).1.1 (inst_ok hD hj).1.2)]
structure OrdP (b : DBlock) (done : List Bool) (ord : List Int) : Prop where
 len : done.length = b.2.1.2.1.length
 cnt : ord.length = done.countP (fun x => x)
 mem : ∀ k (h : k < done.length), done[k] = true ↔ (k : Int) ∈ ord
 top : ∀ p (h : p < ord.length), ∃ k : Nat, k < b.2.1.2.1.length ∧ ord[p] = (k : Int) ∧ (0 ≤ gateOf b k → ∀ i ∈ insOf b k, ∃ q, q < p ∧ ord[q]? = some i)
def StuckAt (b : DBlock) (done : List Bool) (k : Nat) : Prop := done[k]? = some true ∨ (0 ≤ gateOf b k ∧ ∃ i ∈ insOf b k, done[i.toNat]? = some false)
theorem OrdP.add {b : DBlock} {done : List Bool} {ord : List Int} (h : OrdP b done ord) (hD : DesignP b.1 b.2.1) {k : Nat} (hk : k < done.length) (h0 : done[k] = false) (hi : 0 ≤ gateOf b k → ∀ i ∈ insOf b k, done[i.toNat]? = some true) : OrdP b (done.set k true) (ord ++ [(k : Int)]) := by
 have hkn : k < b.2.1.2.1.length := by rw [← h.len]; exact hk
 refine ⟨by simp [h.len], ?_, ?_, ?_⟩
 ·rw [List.length_append, h.cnt, List.countP_set hk, h0]; simp
 ·intro j hj
  simp only [List.length_set] at hj
  rw [List.getElem_set, List.mem_append, List.mem_singleton]
  by_cases e : k = j
  ·subst e; simp
  ·rw [if_neg e, h.mem j hj]
   constructor
   ·exact .inl
   ·rintro (h | h)
    ·exact h
    ·omega
 ·intro p hp
  by_cases e : p < ord.length
  ·obtain ⟨j, h1, h2, h3⟩ := h.top p e
   refine ⟨j, h1, by rw [List.getElem_append_left e]; exact h2, fun hg i hm => ?_⟩
   obtain ⟨q, hq, hq'⟩ := h3 hg i hm
   exact ⟨q, hq, by rw [List.getElem?_append_left (by omega)]; exact hq'⟩
  ·obtain rfl : p = ord.length := by simp at hp; omega
   refine ⟨k, hkn, by simp, fun hg i hm => ?_⟩
   obtain ⟨hi0, hin⟩ := insOf_in hD hkn hm
   have ht := hi hg i hm
   obtain ⟨hlt, ht⟩ := List.getElem?_eq_some_iff.1 ht
   have hmem := (h.mem _ hlt).1 ht
   obtain ⟨q, hq, hqe⟩ := List.getElem_of_mem hmem
   refine ⟨q, hq, ?_⟩
   rw [List.getElem?_append_left hq, List.getElem?_eq_getElem hq, hqe]
   congr 1; omega
theorem OrdP.start (b : DBlock) {n : Nat} (hn : n = b.2.1.2.1.length) : OrdP b (List.replicate n false) [] :=
 ⟨by simp [hn], by simp [List.countP_replicate], by intro k h; simp, by intro p h; simp at h⟩
def Topo (b : DBlock) (ord : List Int) : Prop := ord.length = b.2.1.2.1.length ∧ (∀ k, k < b.2.1.2.1.length → (k : Int) ∈ ord) ∧
 ∀ p (h : p < ord.length), ∃ k : Nat, k < b.2.1.2.1.length ∧ ord[p] = (k : Int) ∧ (0 ≤ gateOf b k → ∀ i ∈ insOf b k, ∃ q, q < p ∧ ord[q]? = some i)
theorem OrdP.topo {b : DBlock} {done : List Bool} {ord : List Int} (h : OrdP b done ord) (hl : b.2.1.2.1.length ≤ ord.length) : Topo b ord := by
 have hc : done.countP (fun x => x) ≤ done.length := List.countP_le_length
 have e1 := h.len; have e2 := h.cnt
 have ha : done.countP (fun x => x) = done.length := by omega
 rw [List.countP_eq_length] at ha
 exact ⟨by omega, fun k hk => (h.mem k (by omega)).1 (ha _ (List.getElem_mem _)), h.top⟩
theorem idxOf_le_of_getElem {xs : List Int} : ∀ {q : Nat} (h : q < xs.length), xs.idxOf xs[q] ≤ q := by
 induction xs with
 | nil => intro q h; cases h
 | cons x xs ih =>
  intro q h
  rw [List.idxOf_cons]
  cases q with
  | zero => simp
  | succ q =>
   have h' : q < xs.length := by simpa using h
   have := ih h'
   simp only [List.getElem_cons_succ]
   cases (x == xs[q]) <;> simp <;> omega
theorem Topo.ranked {b : DBlock} {ord : List Int} (h : Topo b ord) (hD : DesignP b.1 b.2.1) : Ranked b := by
 refine ⟨fun k => ord.idxOf (k : Int), fun k hk hg i hi => ?_⟩
 have hm := h.2.1 k hk
 have hp := List.idxOf_lt_length_of_mem hm
 obtain ⟨k', hk', he, ht⟩ := h.2.2 _ hp
 rw [List.getElem_idxOf] at he
 obtain rfl : k = k' := by omega
 obtain ⟨q, hq, hqe⟩ := ht hg i hi
 obtain ⟨hi0, _⟩ := insOf_in hD hk hi
 obtain ⟨hql, hqe⟩ := List.getElem?_eq_some_iff.1 hqe
 show ord.idxOf ((i.toNat : Nat) : Int) < _
 rw [Int.toNat_of_nonneg hi0, ← hqe]
 refine Nat.lt_of_le_of_lt ?_ hq
 exact idxOf_le_of_getElem hql
theorem OrdP.stuck {b : DBlock} {done : List Bool} {ord : List Int} (h : OrdP b done ord) (hD : DesignP b.1 b.2.1) (hl : ord.length < b.2.1.2.1.length) (hs : ∀ k, k < b.2.1.2.1.length → StuckAt b done k) : ¬ Ranked b := by
 rintro ⟨rank, hr⟩
 have none_false : ∀ m k, k < b.2.1.2.1.length → rank k ≤ m → done[k]? = some true := by
  intro m
  induction m with
  | zero =>
   intro k hk hm
   rcases hs k hk with h1 | ⟨hg, i, hi, h2⟩
   ·exact h1
   ·have := hr k hk hg i hi; omega
  | succ m ih =>
   intro k hk hm
   rcases hs k hk with h1 | ⟨hg, i, hi, h2⟩
   ·exact h1
   ·have h3 := hr k hk hg i hi
    have h4 := ih i.toNat (insOf_in hD hk hi).2 (by omega)
    rw [h2] at h4; cases h4
 have hall : done.countP (fun x => x) = done.length := by
  rw [List.countP_eq_length]
  intro x hx
  obtain ⟨k, hk, rfl⟩ := List.getElem_of_mem hx
  have := none_false _ k (by rw [← h.len]; exact hk) (Nat.le_refl _)
  rw [List.getElem?_eq_getElem hk] at this
  exact Option.some.inj this
 have e1 := h.len; have e2 := h.cnt
 omega
end Go.Proofs.YtdbmhfpphobmpaaGreatDoor
namespace Go.Proofs.YtdbmhfpphobmpaaGreatDoor
set_option linter.unusedSimpArgs false
set_option linter.unusedVariables false
set_option linter.unusedSectionVars false
set_option maxHeartbeats 1000000
theorem lim_guard {ρ : Type} {R : ρ → Prop} {n : Nat} {x : Option ρ} (h : n < 4000000) (h1 : Ret x R) : Ret (bif (decide (0 ≤ (n : Int)) && (decide ((n : Int) ≤ (lim : Int)) && decide ((n : Int) = (n : Int)))) then x else none) R := by
 refine Ret.guard3' ⟨?_, ?_, rfl⟩ h1
 ·omega
 ·unfold lim; omega
theorem block_small {b : DBlock} (hB : BlockP b) : b.2.1.1.length ≤ 14 ∧ b.2.1.2.1.length ≤ 30 := ⟨hB.1.2.1.1.1, hB.1.2.1.1.2.1⟩
def GateU (b : DBlock) (m : Nat) (k : Nat) (g : Int) : Prop := (g = -1 ∧ ∀ j, j < m → ¬ GateP b k j) ∨ ∃ j : Nat, j < m ∧ g = (j : Int) ∧ GateP b k j
def GatesU (b : DBlock) (m : Nat) (g : List Int) : Prop := g.length = b.2.1.2.1.length ∧ ∀ k (h : k < g.length), GateU b m k g[k]
theorem GatesU.zero {b : DBlock} {g : List Int} (hl : g.length = b.2.1.2.1.length) (h : ∀ k (h : k < g.length), g[k] = -1) : GatesU b 0 g := ⟨hl, fun k hk => .inl ⟨h k hk, fun j hj => absurd hj (by omega)⟩⟩
theorem GatesU.no {b : DBlock} {m : Nat} {g : List Int} (h : GatesU b m g) (hn : ∀ k, ¬ GateP b k m) : GatesU b (m + 1) g := by
 refine ⟨h.1, fun k hk => ?_⟩
 rcases h.2 k hk with ⟨h1, h2⟩ | ⟨j, h1, h2⟩
 ·refine .inl ⟨h1, fun j hj => ?_⟩
  by_cases e : j < m
  ·exact h2 j e
  ·obtain rfl : j = m := by omega
   exact hn k
 ·exact .inr ⟨j, by omega, h2⟩
theorem GatesU.yes {b : DBlock} {m : Nat} {g : List Int} (h : GatesU b m g) {k : Nat} (hk : k < g.length) (hg : GateP b k m) : GatesU b (m + 1) (g.set k (m : Int)) := by
 refine ⟨by simp [h.1], fun i hi => ?_⟩
 simp only [List.length_set] at hi
 rw [List.getElem_set]
 by_cases e : k = i
 ·subst e
  rw [if_pos rfl]
  exact .inr ⟨m, by omega, rfl, hg⟩
 ·rw [if_neg e]
  rcases h.2 i hi with ⟨h1, h2⟩ | ⟨j, h1, h2⟩
  ·refine .inl ⟨h1, fun j hj hp => ?_⟩
   by_cases e2 : j < m
   ·exact h2 j e2 hp
   ·obtain rfl : j = m := by omega
    have := hp.2.1; have h3 := hg.2.1
    rw [h3] at this; omega
  ·exact .inr ⟨j, by omega, h2⟩
theorem GatesU.all {b : DBlock} (hD : DesignP b.1 b.2.1) {m : Nat} (hm : m = b.2.1.1.length) {g : List Int} (h : GatesU b m g) : ∀ k (h : k < g.length), g[k] = gateOf b k := by
 intro k hk
 rcases h.2 k hk with ⟨h1, h2⟩ | ⟨j, h1, h2, h3⟩
 ·rw [h1, gateOf_neg]
  intro j hj
  exact h2 j (by rw [hm]; exact hj.1) hj
 ·rw [h2, gateOf_eq hD (by rw [← h.1]; exact hk) h3]
def LogP (b : DBlock) (r : Option Dlogic × Bool × Unit) : Prop :=
 (r.2.1 = true ∧ ∃ gates ord, r.1 = some (b, gates, ord) ∧ (gates.length = b.2.1.2.1.length ∧ ∀ k (h : k < gates.length), gates[k] = gateOf b k) ∧ Topo b ord.1) ∨ (r.2.1 = false ∧ r.1 = none ∧ ¬ Ranked b)
theorem impl_newLogic {N : Nat} (hN : 4000000 ≤ N) {b : DBlock} (hb : SmallB b) (hB : BlockP b) (u : Unit) : Ret (F_impl_newLogic N (b, u)) (LogP b) := by
 have hD := hB.1
 have hsm := block_small hB
 have hw := hB.2.1
 unfold F_impl_newLogic
 dsimp only
 have hn : b.2.2.1.length < 4000000 := by omega
 refine lim_guard hn ?_
 refine Ret.up b.2.2.1.length (fun i s => s.1.length = b.2.2.1.length ∧ ∀ k (h : k < s.1.length), k < i → s.1[k] = -1) (by omega) (by omega) (by simp) ?_ ?_
 ·rintro i ⟨g, u⟩ next hi ⟨hl, hI⟩ hnext
  dsimp only at hl hI ⊢
  refine Ret.must (by simp; omega) ?_
  refine Ret.guardI (by omega) (Ret.get (by omega) ?_)
  refine hnext _ ⟨by simp [hl], fun k hk hki => ?_⟩
  have hk' : k < g.length := by simpa using hk
  simp only [Int.toNat_natCast, List.getElem_set]
  split
  ·rfl
  ·exact hI k hk' (by omega)
 rintro ⟨g0, u0⟩ next ⟨hl0, hg0⟩
 dsimp only at hl0 hg0 ⊢
 refine Ret.mustN (by simp) ?_
 refine Ret.up b.2.1.1.length (fun j s => GatesU b j s.1) (by omega) (by omega) (GatesU.zero (g := g0) (by omega) fun k hk => hg0 k hk (by omega)) ?_ ?_
 ·rintro j ⟨g, u⟩ next hj hI hnext
  dsimp only at hI ⊢
  obtain ⟨⟨h1, h2⟩, h3, h4, h5, h6⟩ := inst_ok hD hj
  refine Ret.must (by omega) ?_
  refine Ret.atN hj (Ret.call (impl_cellOf hD hj ()) ?_)
  dsimp only
  refine Ret.ifd ?_ ?_ <;> intro hk
  ·rw [wrapI (n := (b.2.1.1[j].2.2.1.length : Int) - 1) (by omega) (by omega)]
   have e1 : ((b.2.1.1[j].2.2.1.length : Int) - 1) = ((b.2.1.1[j].2.2.1.length - 1 : Nat) : Int) := by omega
   rw [e1]
   refine Ret.atN (by omega) ?_
   rw [← lastN_eq (by omega)]
   have hlt : (lastN b.2.1.1[j].2.2.1).toNat < g.length := by rw [hI.1]; exact h6
   refine Ret.guardZ h5 (by omega) (Ret.get hlt ?_)
   refine hnext _ ?_
   exact hI.yes hlt ⟨hj, by omega, h2, hk⟩
  ·refine hnext _ (hI.no fun k hp => hk ?_)
   obtain ⟨_, _, _, h⟩ := hp
   exact h
 rintro ⟨g, ug⟩ next hG
 dsimp only at hG ⊢
 have hgl := hG.1
 have hg := hG.all hD rfl
 refine Ret.mustN (by omega) ?_
 refine lim_guard (by omega) ?_
 refine Ret.fix (I := fun s => s.1 = (b.1.1, b.2.1.1, b.2.1.2.1, b.2.1.2.2.1, b.2.2) ∧ OrdP b s.2.1 s.2.2.1) (μ := fun s => b.2.1.2.1.length - s.2.2.1.length) ?_ N _ ⟨rfl, by dsimp only; rw [Int.toNat_natCast]; exact OrdP.start b hgl⟩ (by dsimp only; omega)
 rintro ⟨c0, done0, ord0, u1⟩ next ⟨hc, hO⟩ hnext
 dsimp only at hc hO ⊢
 subst hc
 refine Ret.ifd ?_ ?_ <;> intro hlt
 ·refine Ret.call (show F_impl_length_int64 N (g, ug) = some ((g.length : Int), ()) from rfl) ?_
  dsimp only
  refine Ret.up g.length (fun i s => s.1 = (b.1.1, b.2.1.1, b.2.1.2.1, b.2.1.2.2.1, b.2.2) ∧ OrdP b s.2.1 s.2.2.1 ∧ ord0.length ≤ s.2.2.1.length ∧ (s.2.2.1.length = ord0.length → s.2.1 = done0 ∧ ∀ k, k < i → StuckAt b done0 k)) (by omega) (by omega) ⟨rfl, hO, Nat.le_refl _, fun _ => ⟨rfl, fun k hk => absurd hk (by omega)⟩⟩ ?_ ?_
  ·rintro i ⟨c, done, ord, u2⟩ next' hi ⟨hc, hO', hle, hst⟩ hnext'
   dsimp only at hc hO' hle hst ⊢
   subst hc
   dsimp only
   have hil : i < done.length := by rw [hO'.len]; omega
   have hin : i < b.2.1.2.1.length := by omega
   refine Ret.must (by omega) ?_
   refine Ret.guardI hil ?_
   rw [Int.toNat_natCast]
   refine Ret.get hil ?_
   -- what is added
   have hadd : done[i] = false → (0 ≤ gateOf b i → ∀ x ∈ insOf b i, done[x.toNat]? = some true) → Ret (next' (IntKind.i64.wrap ((i : Int) + 1), (b.1.1, b.2.1.1, b.2.1.2.1, b.2.1.2.2.1, b.2.2), done.set i true, ord ++ [(i : Int)], ())) (LogP b) := by
    intro h0 hall
    refine hnext' _ ⟨rfl, hO'.add hD hil h0 hall, ?_, ?_⟩
    ·simp; omega
    ·intro he; simp at he; omega
   have hlim : ord.length + 1 ≤ lim := by
    have h1 := hO'.cnt
    have h5 := hO'.len
    have h2 : done.countP (fun x => x) ≤ done.length := List.countP_le_length
    unfold lim; omega
   have hskip : StuckAt b done i → Ret (next' (IntKind.i64.wrap ((i : Int) + 1), (b.1.1, b.2.1.1, b.2.1.2.1, b.2.1.2.2.1, b.2.2), done, ord, u2)) (LogP b) := by
    intro hs
    refine hnext' _ ⟨rfl, hO', hle, fun he => ?_⟩
    obtain ⟨h1, h2⟩ := hst he
    refine ⟨h1, fun k hk => ?_⟩
    by_cases e : k < i
    ·exact h2 k e
    ·obtain rfl : k = i := by omega
     rw [← h1]; exact hs
   cases hdi : done[i] with
   | true =>
    exact hskip (.inl (by rw [List.getElem?_eq_getElem hil, hdi]))
   | false =>
    refine Ret.mustB rfl ?_
    have hig : i < g.length := hi
    refine Ret.guardI hig (Ret.get hig ?_)
    rw [hg i hig]
    rcases gateOf_cases hD hin with ⟨hng, hno⟩ | ⟨j, hj, hP⟩
    ·refine Ret.must (by omega) ?_
     refine Ret.guardI hil (Ret.get hil ?_)
     refine Ret.guard (by rw [List.length_append]; exact hlim) ?_
     exact hadd hdi fun h => absurd h (by omega)
    ·have hjl := hP.1
     obtain ⟨_, h3, h4, h5, h6⟩ := inst_ok hD hjl
     refine Ret.mustN (by omega) ?_
     refine Ret.guardI hig (Ret.get hig ?_)
     rw [hg i hig, hj]
     refine Ret.atN hjl ?_
     rw [wrapI (n := (b.2.1.1[j].2.2.1.length : Int) - 1) (by omega) (by omega)]
     have e1 : ((b.2.1.1[j].2.2.1.length : Int) - 1) = ((b.2.1.1[j].2.2.1.length - 1 : Nat) : Int) := by omega
     rw [e1]
     refine Ret.guard3 ⟨by omega, by omega, by omega⟩ ?_
     have e2 : (b.2.1.1[j].2.2.1.take ((b.2.1.1[j].2.2.1.length - 1 : Nat) : Int).toNat).drop (0 : Int).toNat = insOf b i := by
      rw [insOf_eq hD hin hP]; simp
     rw [e2]
     have hil2 : (insOf b i).length < 4000000 := by rw [insOf_eq hD hin hP, List.length_take]; omega
     refine Ret.up (insOf b i).length (fun p _ => ∀ q (h : q < (insOf b i).length), q < p → done[(insOf b i)[q].toNat]? = some true) (by omega) (by omega) (fun q _ h => absurd h (by omega)) ?_ ?_
     ·intro p u3 next3 hp hI hn3
      dsimp only
      refine Ret.must (by omega) ?_
      refine Ret.atN hp ?_
      obtain ⟨k0, k1⟩ := insOf_in hD hin (List.getElem_mem hp)
      have k2 : (insOf b i)[p].toNat < done.length := by rw [hO'.len]; exact k1
      refine Ret.guardZ k0 (by omega) (Ret.get k2 ?_)
      cases hdp : done[(insOf b i)[p].toNat] with
      | false =>
       refine Ret.mustB rfl ?_
       refine Ret.mustNN (by omega) ?_
       exact hskip (.inr ⟨by omega, _, List.getElem_mem hp, by rw [List.getElem?_eq_getElem k2, hdp]⟩)
      | true =>
       refine hn3 () fun q hq hqp => ?_
       by_cases e : q < p
       ·exact hI q hq e
       ·obtain rfl : q = p := by omega
        rw [List.getElem?_eq_getElem k2, hdp]
     ·intro u3 next3 hI
      dsimp only
      refine Ret.mustN (by omega) ?_
      refine Ret.mustB (by decide) ?_
      refine Ret.guardI hil (Ret.get hil ?_)
      refine Ret.guard (by rw [List.length_append]; exact hlim) ?_
      refine hadd hdi fun _ x hx => ?_
      obtain ⟨q, hq, rfl⟩ := List.getElem_of_mem hx
      exact hI q hq hq
  ·rintro ⟨c, done, ord, u2⟩ next' ⟨hc, hO', hle, hst⟩
   dsimp only at hc hO' hle hst ⊢
   subst hc
   refine Ret.mustN (by omega) ?_
   refine Ret.ifd ?_ ?_ <;> intro he
   ·obtain ⟨h1, h2⟩ := hst (by omega)
    refine Ret.ret (.inr ⟨rfl, rfl, hO.stuck hD (by omega) fun k hk => h2 k (by omega)⟩)
   ·refine hnext _ ⟨rfl, hO'⟩ ?_
    dsimp only; omega
 ·exact Ret.ret (.inl ⟨rfl, g, (ord0, u1), rfl, ⟨hgl, hg⟩, hO.topo (by omega)⟩)
end Go.Proofs.YtdbmhfpphobmpaaGreatDoor
namespace Go.Proofs.YtdbmhfpphobmpaaGreatDoor
set_option linter.unusedSimpArgs false
set_option linter.unusedVariables false
set_option linter.unusedSectionVars false
set_option maxHeartbeats 1000000
theorem place_mem {d : DDesign} {x : Plc} (h : x ∈ placesL d) : (∃ (j : Nat) (hj : j < d.1.length) (q : Nat) (hq : q < d.1[j].2.2.1.length), x = ((j : Int), (q : Int), d.1[j].2.2.1[q], decide (q + 1 = d.1[j].2.2.1.length), ())) ∨
 (∃ (i : Nat) (hi : i < d.2.2.1.length), x = (-1, (i : Int), d.2.2.1[i].2.2.1, decide (d.2.2.1[i].2.1 = 1), ())) := by
 unfold placesL at h
 rcases List.mem_append.1 h with h | h
 ·unfold instsPl at h
  obtain ⟨l, hl, hx⟩ := List.mem_flatten.1 h
  obtain ⟨j, hj, rfl⟩ := List.mem_mapIdx.1 hl
  unfold instPl at hx
  obtain ⟨q, hq, rfl⟩ := List.mem_mapIdx.1 hx
  exact .inl ⟨j, hj, q, hq, rfl⟩
 ·unfold portPl at h
  obtain ⟨i, hi, rfl⟩ := List.mem_mapIdx.1 h
  exact .inr ⟨i, hi, rfl⟩
theorem driver_ex {b : DBlock} (hD : DesignP b.1 b.2.1) {k : Nat} (hk : k < b.2.1.2.1.length) : ∃ p, ∃ h : p < (placesL b.2.1).length, (placesL b.2.1)[p].2.2.1 = (k : Int) ∧ (placesL b.2.1)[p].2.2.2.1 = true := by
 have hd := hD.2.2.2 k hk
 unfold drv at hd
 have : ∃ x ∈ placesL b.2.1, x.2.2.1 = (k : Int) ∧ x.2.2.2.1 = true := by
  by_cases h0 : 0 < b.2.1.1.countP (fun x => decide (lastN x.2.2.1 = (k : Int)))
  ·obtain ⟨x, hx, hp⟩ := List.countP_pos_iff.1 h0
   obtain ⟨j, hj, rfl⟩ := List.getElem_of_mem hx
   have hp := of_decide_eq_true hp
   obtain ⟨_, h2, _, _⟩ := inst_ok hD hj
   rw [lastN_eq (by omega)] at hp
   refine ⟨((j : Int), ((b.2.1.1[j].2.2.1.length - 1 : Nat) : Int), b.2.1.1[j].2.2.1[b.2.1.1[j].2.2.1.length - 1], decide (b.2.1.1[j].2.2.1.length - 1 + 1 = b.2.1.1[j].2.2.1.length), ()), ?_, hp, decide_eq_true (by omega)⟩
   refine List.mem_append_left _ (List.mem_flatten.2 ⟨_, List.mem_mapIdx.2 ⟨j, hj, rfl⟩, List.mem_mapIdx.2 ⟨b.2.1.1[j].2.2.1.length - 1, by omega, rfl⟩⟩)
  ·have h1 : 0 < b.2.1.2.2.1.countP (fun p => decide (p.2.1 = 1 ∧ p.2.2.1 = (k : Int))) := by omega
   obtain ⟨x, hx, hp⟩ := List.countP_pos_iff.1 h1
   obtain ⟨i, hi, rfl⟩ := List.getElem_of_mem hx
   have hp := of_decide_eq_true hp
   exact ⟨(-1, (i : Int), b.2.1.2.2.1[i].2.2.1, decide (b.2.1.2.2.1[i].2.1 = 1), ()), List.mem_append_right _ (List.mem_mapIdx.2 ⟨i, hi, rfl⟩), hp.2, decide_eq_true hp.1⟩
 obtain ⟨x, hx, h1, h2⟩ := this
 obtain ⟨p, hp, rfl⟩ := List.getElem_of_mem hx
 exact ⟨p, hp, h1, h2⟩
section
variable {N : Nat} (hN : 4000000 ≤ N) {b : DBlock} (hb : SmallB b) (hB : BlockP b)
include hN hB
theorem spec_l05Driver {k : Nat} (hk : k < b.2.1.2.1.length) (u : Unit) : Ret (F_spec_l05Driver N (b.2.1, (k : Int), u)) (fun r => ∃ p, ∃ h : p < (placesL b.2.1).length, r.1 = (p : Int) ∧ (placesL b.2.1)[p].2.2.1 = (k : Int) ∧ (placesL b.2.1)[p].2.2.2.1 = true) := by
 have hf := few_of hB.1
 have hl := placesL_len hf
 unfold F_spec_l05Driver
 dsimp only
 refine Ret.call (spec_l05Places hN hf) ?_
 dsimp only
 refine Ret.up (placesL b.2.1).length (fun i _ => ∀ q (h : q < (placesL b.2.1).length), q < i → ¬ ((placesL b.2.1)[q].2.2.1 = (k : Int) ∧ (placesL b.2.1)[q].2.2.2.1 = true)) (by omega) (by omega) (fun q _ h => absurd h (by omega)) ?_ ?_
 ·intro i s next hi hI hn
  dsimp only
  refine Ret.must (by omega) ?_
  refine Ret.guardI hi ?_
  rw [Int.toNat_natCast]
  refine Ret.get hi ?_
  have hno : ¬ ((placesL b.2.1)[i].2.2.1 = (k : Int) ∧ (placesL b.2.1)[i].2.2.2.1 = true) → ∀ q (h : q < (placesL b.2.1).length), q < i + 1 → ¬ ((placesL b.2.1)[q].2.2.1 = (k : Int) ∧ (placesL b.2.1)[q].2.2.2.1 = true) := by
   intro hn q hq hqi
   by_cases e : q < i
   ·exact hI q hq e
   ·obtain rfl : q = i := by omega
    exact hn
  refine Ret.ifd ?_ ?_ <;> intro h1
  ·refine Ret.guardI hi (Ret.get hi ?_)
   refine Ret.bif ?_ ?_ <;> intro h2
   ·exact Ret.ret ⟨i, hi, rfl, h1, h2⟩
   ·exact hn () (hno fun h => by rw [h2] at h; exact absurd h.2 (by decide))
  ·exact hn () (hno fun h => h1 h.1)
 ·intro s next hI
  obtain ⟨p, hp, h⟩ := driver_ex hB.1 hk
  exact absurd h (hI p hp hp)
include hb
theorem spec_l05At {p : Nat} (hp : p < (placesL b.2.1).length) (u : Unit) : F_spec_l05At N (b.1, b.2.1, (p : Int), u) = some ((placesL b.2.1)[p], true, ()) := by
 have hf := few_of hB.1
 have hl := placesL_len hf
 refine Ret.eq ?_
 unfold F_spec_l05At
 dsimp only
 refine Ret.call (spec_IsDesign hN hb.1 hb.2.1) ?_
 dsimp only
 rw [dec_of hB.1]
 refine Ret.call (spec_l05Places hN hf) ?_
 dsimp only
 rw [wrapI (n := ((placesL b.2.1).length : Int) - 1) (by omega) (by omega)]
 refine Ret.call (spec_l01In N _ _ _ _) ?_
 dsimp only
 rw [dec_of (show BtwP 0 (((placesL b.2.1).length : Int) - 1) (p : Int) from ⟨by omega, by omega⟩)]
 refine Ret.guardI hp ?_
 rw [Int.toNat_natCast]
 exact Ret.get hp (Ret.ret rfl)
theorem spec_l28Gate {k : Nat} (hk : k < b.2.1.2.1.length) (u : Unit) : F_spec_l28Gate N (b, (k : Int), u) = some (gateOf b k, ()) := by
 have hD := hB.1
 refine Ret.eq ?_
 unfold F_spec_l28Gate
 dsimp only
 refine Ret.bind (spec_l05Driver hN hB hk u) ?_
 rintro ⟨r, ur⟩ ⟨p, hp, rfl, h1, h2⟩
 refine Ret.call (spec_l05At hN hb hB hp ur) ?_
 dsimp only
 rcases place_mem (List.getElem_mem hp) with ⟨j, hj, q, hq, he⟩ | ⟨i, hi, he⟩
 ·rw [he] at h1 h2 ⊢
  dsimp only at h1 h2 ⊢
  have h2 := of_decide_eq_true h2
  obtain ⟨⟨k1, k2⟩, k3, _⟩ := inst_ok hD hj
  have hlast : lastN b.2.1.1[j].2.2.1 = (k : Int) := by
   rw [lastN_eq (by omega)]
   obtain rfl : q = b.2.1.1[j].2.2.1.length - 1 := by omega
   exact h1
  refine Ret.mustN (by omega) ?_
  refine Ret.atN hj (Ret.atZ k1 k2 ?_)
  refine Ret.ifnd ?_ ?_ <;> intro hc
  ·refine Ret.ret ?_
   rw [gateOf_neg]
   rintro j' ⟨hj', h3, h4, h5⟩
   obtain rfl := inst_uniq hD hk hj hj' hlast h3
   exact hc h5
  ·refine Ret.ret ?_
   rw [gateOf_eq hD hk ⟨hj, hlast, k2, hc⟩]
 ·rw [he] at h1 h2 ⊢
  dsimp only at h1 h2 ⊢
  have h2 := of_decide_eq_true h2
  refine Ret.must (by omega) (Ret.ret ?_)
  rw [gateOf_neg]
  rintro j ⟨hj, h3, _⟩
  have hd := hD.2.2.2 k hk
  unfold drv at hd
  have c1 : 0 < b.2.1.1.countP (fun x => decide (lastN x.2.2.1 = (k : Int))) := List.countP_pos_iff.2 ⟨_, List.getElem_mem hj, decide_eq_true h3⟩
  have c2 : 0 < b.2.1.2.2.1.countP (fun p => decide (p.2.1 = 1 ∧ p.2.2.1 = (k : Int))) := List.countP_pos_iff.2 ⟨_, List.getElem_mem hi, decide_eq_true ⟨h2, h1⟩⟩
  omega
omit hN hb in
theorem spec_l28Inputs {k j : Nat} (hk : k < b.2.1.2.1.length) (hP : GateP b k j) (u : Unit) : F_spec_l28Inputs N (b, (j : Int), u) = some (insOf b k, ()) := by
 have hD := hB.1
 obtain ⟨_, h3, h4, _⟩ := inst_ok hD hP.1
 have hjl := hP.1
 refine Ret.eq ?_
 unfold F_spec_l28Inputs
 dsimp only
 refine Ret.atN hjl ?_
 rw [wrapI (n := (b.2.1.1[j].2.2.1.length : Int) - 1) (by omega) (by omega)]
 have e1 : ((b.2.1.1[j].2.2.1.length : Int) - 1) = ((b.2.1.1[j].2.2.1.length - 1 : Nat) : Int) := by omega
 rw [e1]
 refine Ret.guard3 ⟨by omega, by omega, by omega⟩ (Ret.ret ?_)
 rw [insOf_eq hD hk hP]; simp
end
end Go.Proofs.YtdbmhfpphobmpaaGreatDoor
namespace Go.Proofs.YtdbmhfpphobmpaaGreatDoor
set_option linter.unusedSimpArgs false
set_option linter.unusedVariables false
set_option linter.unusedSectionVars false
set_option maxHeartbeats 1000000
def valI (L : List Int) (i : Int) : Int := L[i.toNat]?.getD 0
def maxF (L : List Int) (a : Int) (l : List Int) : Int := l.foldl (fun a i => if a < valI L i then valI L i else a) a
def maxI (L : List Int) (l : List Int) : Int := maxF L 0 l
theorem maxF_congr {L L' : List Int} : ∀ {l : List Int} (a : Int), (∀ i ∈ l, valI L i = valI L' i) → maxF L a l = maxF L' a l
 | [], _, _ => rfl
 | x :: l, a, h => by
  show maxF L (if a < valI L x then valI L x else a) l = maxF L' (if a < valI L' x then valI L' x else a) l
  rw [h x (by simp), maxF_congr _ fun i hi => h i (by simp [hi])]
theorem maxF_le {L : List Int} {m : Int} : ∀ {l : List Int} (a : Int), a ≤ m → (∀ i ∈ l, valI L i ≤ m) → maxF L a l ≤ m
 | [], _, h, _ => h
 | x :: l, a, h, hl => by
  have hx := hl x (by simp)
  refine maxF_le (l := l) (if a < valI L x then valI L x else a) ?_ fun i hi => hl i (by simp [hi])
  split <;> omega
theorem maxF_ge {L : List Int} : ∀ {l : List Int} (a : Int), a ≤ maxF L a l ∧ ∀ i ∈ l, valI L i ≤ maxF L a l
 | [], a => ⟨Int.le_refl _, fun i h => by cases h⟩
 | x :: l, a => by
  have ih := maxF_ge (L := L) (l := l) (if a < valI L x then valI L x else a)
  have e : maxF L a (x :: l) = maxF L (if a < valI L x then valI L x else a) l := rfl
  rw [e]
  refine ⟨?_, fun i hi => ?_⟩
  ·have := ih.1; split at this <;> split <;> omega
  ·rcases List.mem_cons.1 hi with rfl | hi
   ·have := ih.1; split at this <;> split <;> omega
   ·exact ih.2 i hi
def EqAt (b : DBlock) (L : List Int) (k : Nat) : Prop := 0 ≤ gateOf b k → valI L (k : Int) = maxI L (insOf b k) + 1
theorem EqAt.congr {b : DBlock} {L L' : List Int} {k : Nat} (h : EqAt b L k) (h0 : valI L (k : Int) = valI L' (k : Int)) (hi : 0 ≤ gateOf b k → ∀ i ∈ insOf b k, valI L i = valI L' i) : EqAt b L' k := by
 intro hg
 rw [← h0, h hg]
 unfold maxI
 rw [maxF_congr 0 (hi hg)]
structure LevP (b : DBlock) (L : List Int) : Prop where
 len : L.length = b.2.1.2.1.length
 low : ∀ i, 0 ≤ valI L i
 eqs : ∀ k, k < b.2.1.2.1.length → EqAt b L k
 free : ∀ k, k < b.2.1.2.1.length → gateOf b k < 0 → valI L (k : Int) = 0
theorem LevP.ranked {b : DBlock} {L : List Int} (h : LevP b L) (hD : DesignP b.1 b.2.1) : Ranked b := by
 refine ⟨fun k => (valI L (k : Int)).toNat, fun k hk hg i hi => ?_⟩
 have h1 := h.eqs k hk hg
 have h2 := (maxF_ge (L := L) (l := insOf b k) 0).2 i hi
 obtain ⟨hi0, _⟩ := insOf_in hD hk hi
 show (valI L ((i.toNat : Nat) : Int)).toNat < (valI L (k : Int)).toNat
 rw [Int.toNat_of_nonneg hi0]
 have h3 := h.low i
 unfold maxI at h1
 omega
theorem valI_set {L : List Int} {k : Nat} {v : Int} (hk : k < L.length) (i : Int) (hi : 0 ≤ i) : valI (L.set k v) i = if (k : Int) = i then v else valI L i := by
 unfold valI
 rw [List.getElem?_set]
 by_cases e : k = i.toNat
 ·rw [if_pos e, if_pos hk, if_pos (by omega)]; rfl
 ·rw [if_neg e, if_neg (by omega)]
theorem valI_get {L : List Int} {k : Nat} (hk : k < L.length) : valI L (k : Int) = L[k] := by
 unfold valI
 rw [Int.toNat_natCast, List.getElem?_eq_getElem hk]; rfl
structure RoundP (b : DBlock) (r : Nat) (L0 : List Int) (k : Nat) (ch : Bool) (L : List Int) : Prop where
 len : L.length = b.2.1.2.1.length
 bd : ∀ i, 0 ≤ valI L i ∧ valI L i ≤ 40 * (r : Int) + k
 same : ch = false → L = L0 ∧ ∀ j, j < k → EqAt b L0 j
 free : ∀ k, k < b.2.1.2.1.length → gateOf b k < 0 → valI L (k : Int) = 0
 top : ∀ ord, Topo b ord → (∀ p (h : p < ord.length), p < r → valI L ord[p] = valI L0 ord[p]) ∧ (∀ (h : r < ord.length), ord[r].toNat < k → EqAt b L ord[r].toNat) ∧ (r = b.2.1.2.1.length → ch = false)
structure StartP (b : DBlock) (r : Nat) (L : List Int) : Prop where
 len : L.length = b.2.1.2.1.length
 bd : ∀ i, 0 ≤ valI L i ∧ valI L i ≤ 40 * (r : Int)
 free : ∀ k, k < b.2.1.2.1.length → gateOf b k < 0 → valI L (k : Int) = 0
 top : ∀ ord, Topo b ord → r ≤ b.2.1.2.1.length ∧ ∀ p (h : p < ord.length), p < r → EqAt b L ord[p].toNat
theorem StartP.first {b : DBlock} {n : Nat} (hn : n = b.2.1.2.1.length) : StartP b 0 (List.replicate n 0) := by
 have hv : ∀ i, valI (List.replicate n 0) i = 0 := by
  intro i
  unfold valI
  rw [List.getElem?_replicate]
  split <;> rfl
 exact ⟨by simp [hn], fun i => by rw [hv]; omega, fun k _ _ => hv _, fun ord _ => ⟨by omega, fun p h hp => absurd hp (by omega)⟩⟩
theorem StartP.round {b : DBlock} {r : Nat} {L : List Int} (h : StartP b r L) : RoundP b r L 0 false L :=
 ⟨h.len, fun i => by have := h.bd i; omega, fun _ => ⟨rfl, fun j hj => absurd hj (by omega)⟩, h.free, fun ord _ => ⟨fun p _ _ => rfl, fun _ hk => absurd hk (by omega), fun _ => rfl⟩⟩
theorem topo_at {b : DBlock} {ord : List Int} (ht : Topo b ord) {p : Nat} (hp : p < ord.length) : 0 ≤ ord[p] ∧ ord[p].toNat < b.2.1.2.1.length ∧ (0 ≤ gateOf b ord[p].toNat → ∀ i ∈ insOf b ord[p].toNat, ∃ q, ∃ h : q < ord.length, q < p ∧ ord[q] = i) := by
 obtain ⟨k, hk, he, h⟩ := ht.2.2 p hp
 rw [he, Int.toNat_natCast]
 refine ⟨by omega, hk, fun hg i hi => ?_⟩
 obtain ⟨q, hq, hqe⟩ := h hg i hi
 obtain ⟨hql, hqe⟩ := List.getElem?_eq_some_iff.1 hqe
 exact ⟨q, hql, hq, hqe⟩
section
variable {b : DBlock} (hD : DesignP b.1 b.2.1) {r : Nat} {L0 L : List Int} {k : Nat} {ch : Bool}
include hD
theorem RoundP.stay (h : RoundP b r L0 k ch L) (he : EqAt b L k) : RoundP b r L0 (k + 1) ch L := by
 refine ⟨h.len, fun i => by have := h.bd i; omega, fun hc => ?_, h.free, fun ord ht => ?_⟩
 ·obtain ⟨h1, h2⟩ := h.same hc
  subst h1
  refine ⟨rfl, fun j hj => ?_⟩
  by_cases e : j < k
  ·exact h2 j e
  ·obtain rfl : j = k := by omega
   exact he
 ·obtain ⟨h1, h2, h3⟩ := h.top ord ht
  refine ⟨h1, fun hr hk => ?_, h3⟩
  by_cases e : ord[r].toNat < k
  ·exact h2 hr e
  ·have : ord[r].toNat = k := by omega
   rw [this]; exact he
theorem RoundP.put (h : RoundP b r L0 k ch L) (hS : StartP b r L0) (hk : k < b.2.1.2.1.length) (hg : 0 ≤ gateOf b k) (hne : valI L (k : Int) ≠ maxI L (insOf b k) + 1) : RoundP b r L0 (k + 1) true (L.set k (maxI L (insOf b k) + 1)) := by
 have hkl : k < L.length := by rw [h.len]; exact hk
 have hmx : maxI L (insOf b k) ≤ 40 * (r : Int) + k := maxF_le 0 (by have := h.bd 0; omega) fun i _ => (h.bd i).2
 have hmn : 0 ≤ maxI L (insOf b k) := (maxF_ge (L := L) (l := insOf b k) 0).1
 -- the net is none of those that are right
 have hno : ∀ ord, Topo b ord → ∀ p (hp : p < ord.length), p < r → ord[p] ≠ (k : Int) := by
  intro ord ht p hp hpr he
  obtain ⟨h1, _, _⟩ := h.top ord ht
  have h2 := (hS.top ord ht).2 p hp hpr
  obtain ⟨_, _, h3⟩ := topo_at ht hp
  rw [he, Int.toNat_natCast] at h2 h3
  have h4 : EqAt b L k := by
   refine h2.congr ?_ fun hg i hi => ?_
   ·have := h1 p hp hpr
    rw [he] at this; exact this.symm
   ·obtain ⟨q, hq, hqp, rfl⟩ := h3 hg i hi
    exact (h1 q hq (by omega)).symm
  exact hne (h4 hg)
 refine ⟨by simp [h.len], fun i => ?_, fun hc => (by cases hc), fun j hj hgj => ?_, fun ord ht => ?_⟩
 ·have hb := h.bd i
  by_cases hi : 0 ≤ i
  ·rw [valI_set hkl i hi]
   split <;> omega
  ·have e : valI (L.set k (maxI L (insOf b k) + 1)) i = valI (L.set k (maxI L (insOf b k) + 1)) 0 := by
    unfold valI
    rw [show i.toNat = (0 : Int).toNat by omega]
   rw [e, valI_set hkl 0 (by omega)]
   have := h.bd 0
   split <;> omega
 ·rw [valI_set hkl _ (by omega)]
  split
  ·rename_i e
   have : k = j := by omega
   subst this
   omega
  ·exact h.free j hj hgj
 ·obtain ⟨h1, h2, h3⟩ := h.top ord ht
  have hn := hno ord ht
  refine ⟨fun p hp hpr => ?_, fun hr hrk => ?_, fun hrn => ?_⟩
  ·have := topo_at ht hp
   rw [valI_set hkl _ this.1, if_neg fun e => hn p hp hpr e.symm]
   exact h1 p hp hpr
  ·obtain ⟨k0, k1, k2⟩ := topo_at ht hr
   have hins : ∀ i, (∃ q, ∃ h : q < ord.length, q < r ∧ ord[q] = i) → valI L i = valI (L.set k (maxI L (insOf b k) + 1)) i := by
    rintro i ⟨q, hq, hqr, rfl⟩
    rw [valI_set hkl _ (topo_at ht hq).1, if_neg fun e => hn q hq hqr e.symm]
   by_cases e : ord[r].toNat = k
   ·rw [e] at k2 ⊢
    intro hg'
    rw [valI_set hkl _ (by omega), if_pos rfl]
    exact congrArg (· + 1) (maxF_congr 0 fun i hi => hins i (k2 hg' i hi))
   ·refine (h2 hr (by omega)).congr ?_ fun hg' i hi => hins i (k2 hg' i hi)
    rw [valI_set hkl _ (by omega), if_neg (by omega)]
  ·obtain ⟨q, hq, hqe⟩ := List.getElem_of_mem (ht.2.1 k hk)
   exact absurd hqe (hn q hq (by rw [hrn, ← ht.1]; exact hq))
theorem RoundP.still (h : RoundP b r L0 b.2.1.2.1.length false L) : LevP b L := by
 obtain ⟨h1, h2⟩ := h.same rfl
 subst h1
 exact ⟨h.len, fun i => (h.bd i).1, h2, h.free⟩
theorem RoundP.next (h : RoundP b r L0 b.2.1.2.1.length true L) (hS : StartP b r L0) (hsm : b.2.1.2.1.length ≤ 30) : StartP b (r + 1) L := by
 refine ⟨h.len, fun i => by have := h.bd i; omega, h.free, fun ord ht => ?_⟩
 obtain ⟨h1, h2, h3⟩ := h.top ord ht
 obtain ⟨h4, h5⟩ := hS.top ord ht
 have hr : r ≠ b.2.1.2.1.length := fun e => by have := h3 e; cases this
 refine ⟨by omega, fun p hp hpr => ?_⟩
 obtain ⟨k0, k1, k2⟩ := topo_at ht hp
 by_cases e : p < r
 ·refine (h5 p hp e).congr ?_ fun hg i hi => ?_
  ·rw [Int.toNat_of_nonneg k0]; exact (h1 p hp e).symm
  ·obtain ⟨q, hq, hqp, rfl⟩ := k2 hg i hi
   exact (h1 q hq (by omega)).symm
 ·obtain rfl : p = r := by omega
  exact h2 hp k1
end
theorem ranked_topo {b : DBlock} (hb : SmallB b) (hB : BlockP b) (h : Ranked b) : ∃ ord, Topo b ord := by
 obtain ⟨r, _, h1⟩ := impl_newLogic (N := 4000000) (by omega) hb hB ()
 rcases h1 with ⟨_, g, ord, _, _, ht⟩ | ⟨_, _, hn⟩
 ·exact ⟨_, ht⟩
 ·exact absurd h hn
section
variable {N : Nat} (hN : 4000000 ≤ N) {b : DBlock} (hb : SmallB b) (hB : BlockP b)
include hN hb hB
theorem spec_l28Levels (u : Unit) : Ret (F_spec_l28Levels N (b, u)) (fun r => (r.2.1 = true ∧ LevP b r.1) ∨ (r.2.1 = false ∧ ¬ Ranked b)) := by
 have hD := hB.1
 have hsm := block_small hB
 unfold F_spec_l28Levels
 dsimp only
 refine lim_guard (by omega) ?_
 refine Ret.up (b.2.1.2.1.length + 1) (fun r s => StartP b r s.1) (by omega) (by omega) (by rw [Int.toNat_natCast]; exact StartP.first rfl) ?_ ?_
 ·rintro r ⟨L0, u0⟩ next hr hS hnext
  dsimp only at hS ⊢
  refine Ret.must (by omega) ?_
  refine Ret.up b.2.1.2.1.length (fun k s => RoundP b r L0 k s.1 s.2.1) (by omega) (by omega) hS.round ?_ ?_
  ·rintro k ⟨ch, L, u1⟩ next1 hk hR hn1
   dsimp only at hR ⊢
   have hkl : k < L.length := by rw [hR.len]; exact hk
   refine Ret.must (by omega) ?_
   refine Ret.call (spec_l28Gate hN hb hB hk ()) ?_
   dsimp only
   rcases gateOf_cases hD hk with ⟨hg, hno⟩ | ⟨j, hg, hP⟩
   ·refine Ret.must (by omega) ?_
    refine hn1 (ch, L, u1) (hR.stay hD fun h => absurd h (by omega))
   ·refine Ret.mustN (by omega) ?_
    rw [hg]
    refine Ret.call (spec_l28Inputs hB hk hP ()) ?_
    dsimp only
    have hil : (insOf b k).length ≤ 5 := by
     rw [insOf_eq hD hk hP, List.length_take]
     have := (inst_ok hD hP.1).2.2.1
     omega
    refine Ret.upM 0 (insOf b k).length (fun p best _ => best = maxI L ((insOf b k).take p)) (by omega) (by omega) (by omega) rfl ?_ ?_
    ·intro p best u2 next2 _ hp hI hn2
     dsimp only
     refine Ret.must (by omega) ?_
     refine Ret.atN hp ?_
     obtain ⟨k0, k1⟩ := insOf_in hD hk (List.getElem_mem hp)
     have k2 : (insOf b k)[p].toNat < L.length := by rw [hR.len]; exact k1
     refine Ret.guardZ k0 (by omega) (Ret.get k2 ?_)
     refine hn2 _ () ?_
     rw [hI, Bool.cond_decide, List.take_succ_eq_append_getElem hp]
     unfold maxI maxF
     rw [List.foldl_append]
     have hv : valI L (insOf b k)[p] = L[(insOf b k)[p].toNat] := by
      unfold valI
      rw [List.getElem?_eq_getElem k2]; rfl
     simp only [List.foldl_cons, List.foldl_nil, hv]
    ·intro best u2 next2 hI
     rw [List.take_length] at hI
     subst hI
     dsimp only
     have hmx : maxI L (insOf b k) ≤ 40 * (r : Int) + k := maxF_le 0 (by have := hR.bd 0; omega) fun i _ => (hR.bd i).2
     have hmn : 0 ≤ maxI L (insOf b k) := (maxF_ge (L := L) (l := insOf b k) 0).1
     refine Ret.mustN (by omega) ?_
     refine Ret.guardI hkl ?_
     rw [Int.toNat_natCast, wrapI (n := maxI L (insOf b k) + 1) (by omega) (by omega)]
     refine Ret.get hkl ?_
     rw [← valI_get hkl]
     refine Ret.ifnd ?_ ?_ <;> intro hv
     ·refine Ret.guardI hkl (Ret.get hkl ?_)
      refine hn1 (true, L.set k (maxI L (insOf b k) + 1), ()) (hR.put hD hS hk (by omega) hv)
     ·exact hn1 (ch, L, u1) (hR.stay hD fun _ => hv)
  ·rintro ⟨ch, L, u1⟩ next1 hR
   dsimp only at hR ⊢
   refine Ret.mustN (by omega) ?_
   cases ch with
   | false => exact Ret.ret (.inl ⟨rfl, hR.still hD⟩)
   | true => exact hnext _ (hR.next hD hS hsm.2)
 ·rintro ⟨L, u1⟩ next hS
  dsimp only at hS ⊢
  refine Ret.mustN (by omega) (Ret.ret (.inr ⟨rfl, fun hr => ?_⟩))
  obtain ⟨ord, ht⟩ := ranked_topo hb hB hr
  have := (hS.top ord ht).1
  omega
theorem spec_levels_iff (u : Unit) : Ret (F_spec_l28Levels N (b, u)) (fun r => r.2 = (dec (Ranked b), ()) ∧ (Ranked b → LevP b r.1)) := by
 refine (spec_l28Levels hN hb hB u).imp ?_
 rintro ⟨L, ok, u⟩ (⟨h1, h2⟩ | ⟨h1, h2⟩)
 ·have := h2.ranked hB.1
  exact ⟨by rw [dec_of this]; dsimp only at h1 ⊢; rw [h1], fun _ => h2⟩
 ·exact ⟨by rw [dec_not h2]; dsimp only at h1 ⊢; rw [h1], fun h => absurd h h2⟩
end
end Go.Proofs.YtdbmhfpphobmpaaGreatDoor
namespace Go.Proofs.YtdbmhfpphobmpaaGreatDoor
set_option linter.unusedSimpArgs false
set_option linter.unusedVariables false
set_option linter.unusedSectionVars false
set_option maxHeartbeats 1000000
section
variable {N : Nat} (hN : 4000000 ≤ N) {b : DBlock} (hb : SmallB b)
include hN hb
theorem spec_IsLogical (u : Unit) : F_spec_IsLogical N (b, u) = some (dec (BlockP b ∧ Ranked b), ()) := by
 refine Ret.eq ?_
 unfold F_spec_IsLogical
 refine Ret.call (spec_IsBlock hN hb) ?_
 dsimp only
 refine Ret.ifnc ?_ ?_ <;> intro hB
 ·exact Ret.ret (by rw [dec_not fun h => hB h.1])
 ·refine Ret.bind (spec_levels_iff hN hb hB u) ?_
  rintro ⟨L, r⟩ ⟨h, _⟩
  dsimp only at h ⊢
  exact Ret.ret (h.trans (by rw [dec_congr (show Ranked b ↔ BlockP b ∧ Ranked b from ⟨fun h => ⟨hB, h⟩, fun h => h.2⟩)]))
end
end Go.Proofs.YtdbmhfpphobmpaaGreatDoor
namespace Go.Proofs.YtdbmhfpphobmpaaGreatDoor
set_option linter.unusedSimpArgs false
set_option linter.unusedVariables false
set_option linter.unusedSectionVars false
set_option maxHeartbeats 1000000
abbrev InNets (b : DBlock) (k : Int) : Prop := BtwP 0 ((b.2.1.2.1.length : Int) - 1) k
def CodeR (b : DBlock) (k : Int) (c : Int) (Q : Prop) : Prop := (c = 1 ∧ ¬ BlockP b) ∨ (c = 7 ∧ BlockP b ∧ ¬ Ranked b) ∨ (c = 2 ∧ BlockP b ∧ Ranked b ∧ ¬ InNets b k) ∨ (c = 0 ∧ BlockP b ∧ Ranked b ∧ InNets b k ∧ Q)
section
variable {N : Nat} (hN : 4000000 ≤ N) {b : DBlock} (hb : SmallB b)
include hN hb
theorem spec_l28NetCode (k : Int) (u : Unit) : Ret (F_spec_l28NetCode N (b, k, u)) (fun r => CodeR b k r.1 True) := by
 unfold F_spec_l28NetCode F_spec_l28Code
 dsimp only
 by_cases hB : BlockP b
 ·have hsm := block_small hB
  by_cases hR : Ranked b
  ·refine Ret.call (a := ((0 : Int), ())) ?_ ?_
   ·refine Ret.eq ?_
    refine Ret.call (spec_IsBlock hN hb) ?_
    dsimp only
    rw [dec_of hB]
    refine Ret.call (spec_IsLogical hN hb ()) ?_
    dsimp only
    rw [dec_of ⟨hB, hR⟩]
    exact Ret.ret rfl
   ·dsimp only
    refine Ret.mustNN rfl ?_
    rw [wrapI (n := (b.2.1.2.1.length : Int) - 1) (by omega) (by omega)]
    refine Ret.call (spec_l01In N _ _ _ _) ?_
    dsimp only
    refine Ret.ifnc ?_ ?_ <;> intro hk
    ·exact Ret.ret (.inr (.inr (.inl ⟨rfl, hB, hR, hk⟩)))
    ·exact Ret.ret (.inr (.inr (.inr ⟨rfl, hB, hR, hk, trivial⟩)))
  ·refine Ret.call (a := ((7 : Int), ())) ?_ ?_
   ·refine Ret.eq ?_
    refine Ret.call (spec_IsBlock hN hb) ?_
    dsimp only
    rw [dec_of hB]
    refine Ret.call (spec_IsLogical hN hb ()) ?_
    dsimp only
    rw [dec_not fun h => hR h.2]
    exact Ret.ret rfl
   ·exact Ret.ret (.inr (.inl ⟨rfl, hB, hR⟩))
 ·refine Ret.call (a := ((1 : Int), ())) ?_ ?_
  ·refine Ret.eq ?_
   refine Ret.call (spec_IsBlock hN hb) ?_
   dsimp only
   rw [dec_not hB]
   exact Ret.ret rfl
  ·exact Ret.ret (.inl ⟨rfl, hB⟩)
end
end Go.Proofs.YtdbmhfpphobmpaaGreatDoor
namespace Go.Proofs.YtdbmhfpphobmpaaGreatDoor
set_option linter.unusedSimpArgs false
set_option linter.unusedVariables false
set_option linter.unusedSectionVars false
inductive Reach (b : DBlock) : Nat → Nat → Prop
 | refl (k : Nat) : Reach b k k
 | step {k : Nat} {i : Int} {s : Nat} : 0 ≤ gateOf b k → i ∈ insOf b k → Reach b i.toNat s → Reach b k s
def SupP (b : DBlock) (k s : Nat) : Prop := gateOf b s < 0 ∧ Reach b k s
noncomputable def supL (b : DBlock) (k : Nat) : List Int := ((List.range b.2.1.2.1.length).filter fun s => dec (SupP b k s)).map fun s : Nat => (s : Int)
theorem supL_mem {b : DBlock} {k : Nat} {x : Int} : x ∈ supL b k ↔ ∃ s, s < b.2.1.2.1.length ∧ SupP b k s ∧ x = (s : Int) := by
 unfold supL
 simp only [List.mem_map, List.mem_filter, List.mem_range]
 constructor
 ·rintro ⟨s, ⟨h1, h2⟩, rfl⟩
  exact ⟨s, h1, dec_iff.1 h2, rfl⟩
 ·rintro ⟨s, h1, h2, rfl⟩
  exact ⟨s, ⟨h1, dec_iff.2 h2⟩, rfl⟩
theorem supL_incr (b : DBlock) (k : Nat) : (supL b k).Pairwise (· < ·) := by
 unfold supL
 refine List.Pairwise.map _ (R := fun a b : Nat => a < b) (fun a b h => by show (a : Int) < (b : Int); omega) ?_
 exact (List.pairwise_lt_range).filter _
theorem supL_len (b : DBlock) (k : Nat) : (supL b k).length ≤ b.2.1.2.1.length := by
 unfold supL
 rw [List.length_map]
 exact Nat.le_trans (List.length_filter_le _ _) (by simp)
theorem incr_eq : ∀ {l m : List Int}, l.Pairwise (· < ·) → m.Pairwise (· < ·) → (∀ x, x ∈ l ↔ x ∈ m) → l = m
 | [], [], _, _, _ => rfl
 | [], y :: m, _, _, h => absurd ((h y).2 (by simp)) (by simp)
 | x :: l, [], _, _, h => absurd ((h x).1 (by simp)) (by simp)
 | x :: l, y :: m, hl, hm, h => by
  rw [List.pairwise_cons] at hl hm
  have hxy : x = y := by
   rcases List.mem_cons.1 ((h x).1 (by simp)) with e | h1
   ·exact e
   ·rcases List.mem_cons.1 ((h y).2 (by simp)) with e | h2
    ·exact e.symm
    ·have := hm.1 x h1
     have := hl.1 y h2
     omega
  subst hxy
  congr 1
  refine incr_eq hl.2 hm.2 fun z => ?_
  constructor
  ·intro hz
   rcases List.mem_cons.1 ((h z).1 (by simp [hz])) with e | h1
   ·have := hl.1 z hz; omega
   ·exact h1
  ·intro hz
   rcases List.mem_cons.1 ((h z).2 (by simp [hz])) with e | h1
   ·have := hm.1 z hz; omega
   ·exact h1
theorem reach_source {b : DBlock} {k s : Nat} (h : gateOf b k < 0) (hr : Reach b k s) : s = k := by
 cases hr with
 | refl => rfl
 | step h1 => omega
theorem sup_source {b : DBlock} {k : Nat} (hk : k < b.2.1.2.1.length) (h : gateOf b k < 0) : supL b k = [(k : Int)] := by
 refine incr_eq (supL_incr b k) (by simp) fun x => ?_
 rw [supL_mem, List.mem_singleton]
 constructor
 ·rintro ⟨s, _, ⟨_, h2⟩, rfl⟩
  rw [reach_source h h2]
 ·rintro rfl
  exact ⟨k, hk, ⟨h, .refl k⟩, rfl⟩
theorem sup_gate {b : DBlock} {k : Nat} (h : 0 ≤ gateOf b k) (x : Int) : x ∈ supL b k ↔ ∃ i ∈ insOf b k, x ∈ supL b i.toNat := by
 rw [supL_mem]
 constructor
 ·rintro ⟨s, h1, ⟨h2, h3⟩, rfl⟩
  cases h3 with
  | refl => omega
  | step g1 g2 g3 => exact ⟨_, g2, supL_mem.2 ⟨s, h1, ⟨h2, g3⟩, rfl⟩⟩
 ·rintro ⟨i, hi, hx⟩
  obtain ⟨s, h1, ⟨h2, h3⟩, rfl⟩ := supL_mem.1 hx
  exact ⟨s, h1, ⟨h2, .step h hi h3⟩, rfl⟩
theorem reach_rank {b : DBlock} (hD : DesignP b.1 b.2.1) {rank : Nat → Nat} (hr : ∀ k, k < b.2.1.2.1.length → 0 ≤ gateOf b k → ∀ i ∈ insOf b k, rank i.toNat < rank k) {k s : Nat} (h : Reach b k s) : k < b.2.1.2.1.length → s < b.2.1.2.1.length ∧ (s = k ∨ rank s < rank k) := by
 induction h with
 | refl k => exact fun hk => ⟨hk, .inl rfl⟩
 | step h1 h2 h3 ih =>
  intro hk
  obtain ⟨h4, h5⟩ := ih (insOf_in hD hk h2).2
  have h6 := hr _ hk h1 _ h2
  refine ⟨h4, .inr ?_⟩
  rcases h5 with e | e
  ·rw [e]; exact h6
  ·omega
structure RankP (b : DBlock) (rank : Nat → Nat) : Prop where
 low : ∀ k, rank k ≤ 30
 down : ∀ k, k < b.2.1.2.1.length → 0 ≤ gateOf b k → ∀ i ∈ insOf b k, rank i.toNat < rank k
theorem Topo.rankP {b : DBlock} {ord : List Int} (h : Topo b ord) (hD : DesignP b.1 b.2.1) (hn : b.2.1.2.1.length ≤ 30) : RankP b (fun k => ord.idxOf (k : Int)) := by
 refine ⟨fun k => ?_, fun k hk hg i hi => ?_⟩
 ·have := @List.idxOf_le_length Int _ _ ord (k : Int)
  have := h.1
  omega
 ·have hm := h.2.1 k hk
  have hp := List.idxOf_lt_length_of_mem hm
  obtain ⟨k', hk', he, hin⟩ := h.2.2 _ hp
  rw [List.getElem_idxOf] at he
  have hkk : k' = k := by omega
  subst hkk
  obtain ⟨q, hq, hqe⟩ := hin hg i hi
  obtain ⟨hql, hqe⟩ := List.getElem?_eq_some_iff.1 hqe
  have h1 := idxOf_le_of_getElem hql
  have hi0 := (insOf_in hD hk' hi).1
  rw [hqe] at h1
  show ord.idxOf ((i.toNat : Nat) : Int) < ord.idxOf (k' : Int)
  rw [Int.toNat_of_nonneg hi0]
  omega
def SeenP (b : DBlock) (rank : Nat → Nat) (r : Nat) (marks seen : List Bool) : Prop := ∀ j : Nat, seen[j]? = some true → rank j < r → ∀ s, Reach b j s → seen[s]? = some true ∧ (gateOf b s < 0 → marks[s]? = some true)
structure WalkP (b : DBlock) (rank : Nat → Nat) (k : Nat) (marks seen marks' seen' : List Bool) : Prop where
 ml : marks'.length = marks.length
 sl : seen'.length = seen.length
 seen_k : seen'[k]? = some true
 closed : ∀ r, rank k < r → SeenP b rank r marks seen → SeenP b rank r marks' seen'
 seen_mono : ∀ j : Nat, seen[j]? = some true → seen'[j]? = some true
 mark_mono : ∀ j : Nat, marks[j]? = some true → marks'[j]? = some true
 seen_new : ∀ j : Nat, seen'[j]? = some true → seen[j]? = some true ∨ Reach b k j
 mark_new : ∀ j : Nat, marks'[j]? = some true → marks[j]? = some true ∨ SupP b k j
theorem compactUp_snoc (l : List Int) (m : Nat) (hm : m < l.length) : Lib.compactUpTo l.toArray (m + 1) = Lib.compactUpTo l.toArray m ++ if m = 0 ∨ l[m] ≠ l[m - 1] then [l[m]] else [] := by
 rw [Lib.compactUpTo_succ]
 congr 1
 have h1 : l.toArray[m]! = l[m] := by rw [getElem!_pos _ m (by simpa using hm)]; simp
 have h2 : l.toArray[m - 1]! = l[m - 1] := by rw [getElem!_pos _ (m - 1) (by simp; omega)]; simp
 simp only [Lib.keeps, h1, h2, decide_eq_true_eq]
theorem compactUp_spec {l : List Int} (hs : l.Pairwise (· ≤ ·)) : ∀ m, m ≤ l.length → (Lib.compactUpTo l.toArray m).Pairwise (· < ·) ∧ (∀ x, x ∈ Lib.compactUpTo l.toArray m ↔ x ∈ l.take m)
 | 0, _ => by simp [Lib.compactUpTo]
 | m + 1, hm => by
  obtain ⟨h1, h2⟩ := compactUp_spec hs m (by omega)
  have ht : l.take (m + 1) = l.take m ++ [l[m]'(by omega)] := List.take_succ_eq_append_getElem (by omega)
  have hle : ∀ x ∈ l.take m, x ≤ l[m]'(by omega) := fun x hx => by
   obtain ⟨q, hq, rfl⟩ := List.getElem_of_mem hx
   simp only [List.length_take] at hq
   rw [List.getElem_take]
   exact List.pairwise_iff_getElem.1 hs q m (by omega) (by omega) (by omega)
  rw [compactUp_snoc l m (by omega), ht]
  split
  ·rename_i hk
   refine ⟨List.pairwise_append.2 ⟨h1, by simp, fun x hx y hy => ?_⟩, fun x => by rw [List.mem_append, List.mem_append, h2]⟩
   simp only [List.mem_singleton] at hy
   subst hy
   have hx' := (h2 x).1 hx
   rcases hk with rfl | hk
   ·simp at hx'
   ·have hle' : x ≤ l[m - 1]'(by omega) := by
     obtain ⟨q, hq, rfl⟩ := List.getElem_of_mem hx'
     simp only [List.length_take] at hq
     rw [List.getElem_take]
     by_cases he : q = m - 1
     ·subst he; exact Int.le_refl _
     ·exact List.pairwise_iff_getElem.1 hs q (m - 1) (by omega) (by omega) (by omega)
    have := hle x hx'
    have h3 : l[m - 1]'(by omega) ≤ l[m]'(by omega) := by
     by_cases he : m = 0
     ·subst he; exact Int.le_refl _
     ·exact List.pairwise_iff_getElem.1 hs (m - 1) m (by omega) (by omega) (by omega)
    omega
  ·rename_i hk
   have hm0 : m ≠ 0 := fun h => hk (.inl h)
   have heq : l[m]'(by omega) = l[m - 1]'(by omega) := Classical.byContradiction fun h => hk (.inr h)
   refine ⟨by simpa using h1, fun x => ?_⟩
   rw [List.append_nil, h2]
   constructor
   ·intro h; exact List.mem_append_left _ h
   ·intro h
    rcases List.mem_append.1 h with h | h
    ·exact h
    ·simp only [List.mem_singleton] at h
     rw [h, heq]
     exact List.mem_iff_getElem.2 ⟨m - 1, by simp; omega, by rw [List.getElem_take]⟩
theorem compact_incr {l : List Int} (hs : l.Pairwise (· ≤ ·)) : (Lib.compact l).Pairwise (· < ·) := (compactUp_spec hs l.length (Nat.le_refl _)).1
theorem compact_mem {l : List Int} (hs : l.Pairwise (· ≤ ·)) (x : Int) : x ∈ Lib.compact l ↔ x ∈ l := by
 have := (compactUp_spec hs l.length (Nat.le_refl _)).2 x
 rwa [List.take_length] at this
def sortI (l : List Int) : List Int := l.mergeSort fun x y => decide (x ≤ y)
theorem sortI_mem (l : List Int) (x : Int) : x ∈ sortI l ↔ x ∈ l := List.mem_mergeSort
theorem sortI_le (l : List Int) : (sortI l).Pairwise (· ≤ ·) := by
 have := List.pairwise_mergeSort (le := fun x y : Int => decide (x ≤ y)) (fun a b c h1 h2 => by simp only [decide_eq_true_eq] at *; omega) (fun a b => by simp only [Bool.or_eq_true, decide_eq_true_eq]; omega) l
 exact this.imp fun h => by simpa using h
theorem sup_join {b : DBlock} {k : Nat} (h : 0 ≤ gateOf b k) : Lib.compact (sortI ((insOf b k).flatMap fun i => supL b i.toNat)) = supL b k := by
 refine incr_eq (compact_incr (sortI_le _)) (supL_incr b k) fun x => ?_
 rw [compact_mem (sortI_le _), sortI_mem, sup_gate h, List.mem_flatMap]
end Go.Proofs.YtdbmhfpphobmpaaGreatDoor
namespace Go.Proofs.YtdbmhfpphobmpaaGreatDoor
set_option linter.unusedSimpArgs false
set_option linter.unusedVariables false
set_option linter.unusedSectionVars false
set_option maxHeartbeats 1000000
theorem get_set {l : List Bool} {k : Nat} (hk : k < l.length) (j : Nat) : (l.set k true)[j]? = some true ↔ j = k ∨ l[j]? = some true := by
 rw [List.getElem?_set]
 by_cases h : k = j
 ·subst h; simp [hk]
 ·rw [if_neg h]
  exact ⟨.inr, fun h' => h'.resolve_left (Ne.symm h)⟩
section
variable {N : Nat} (hN : 4000000 ≤ N) {b : DBlock} (hb : SmallB b) (hB : BlockP b) {rank : Nat → Nat} (hr : RankP b rank)
include hN hb hB hr
theorem spec_l28Mark : ∀ (M k : Nat) (marks seen : List Bool), rank k < M → k < b.2.1.2.1.length → marks.length = b.2.1.2.1.length → seen.length = b.2.1.2.1.length →
 (∀ r, rank k < r → r ≤ rank k + 1 → SeenP b rank r marks seen) → Ret (F_spec_l28Mark N M (b, (k : Int), marks, seen, ())) (fun r => WalkP b rank k marks seen r.2.1 r.2.2.1)
 | 0, k, _, _, h, _, _, _, _ => absurd h (Nat.not_lt_zero _)
 | M + 1, k, marks, seen, hM, hk, hml, hsl, hsn => by
  have hD := hB.1
  have hsm := block_small hB
  unfold F_spec_l28Mark
  dsimp only
  rw [Int.toNat_natCast]
  refine Ret.guardI (by omega) (Ret.get (by omega) ?_)
  refine Ret.bif ?_ ?_ <;> intro hs
  ·have hs' : seen[k]? = some true := by rw [List.getElem?_eq_getElem (by omega), hs]
   exact Ret.ret ⟨rfl, rfl, hs', fun r hr1 h => h, fun j h => h, fun j h => h, fun j h => .inl h, fun j h => .inl h⟩
  refine Ret.guardI (by omega) (Ret.get (by omega) ?_)
  refine Ret.call (spec_l28Gate hN hb hB hk ()) ?_
  dsimp only
  refine Ret.ifd ?_ ?_ <;> intro hg
  ·refine Ret.guardI (by omega) (Ret.get (by omega) ?_)
   refine Ret.ret ⟨by simp, by simp, (get_set (by omega) k).2 (.inl rfl), fun r hr1 h j hj hjr s hrs => ?_, fun j h => (get_set (by omega) j).2 (.inr h), fun j h => (get_set (by omega) j).2 (.inr h), fun j h => ?_, fun j h => ?_⟩
   ·rcases (get_set (by omega) j).1 hj with rfl | hj
    ·rw [reach_source hg hrs]
     exact ⟨(get_set (by omega) _).2 (.inl rfl), fun _ => (get_set (by omega) _).2 (.inl rfl)⟩
    ·obtain ⟨h1, h2⟩ := h j hj hjr s hrs
     exact ⟨(get_set (by omega) _).2 (.inr h1), fun h3 => (get_set (by omega) _).2 (.inr (h2 h3))⟩
   ·rcases (get_set (by omega) j).1 h with rfl | h
    ·exact .inr (.refl _)
    ·exact .inl h
   ·rcases (get_set (by omega) j).1 h with rfl | h
    ·exact .inr ⟨hg, .refl _⟩
    ·exact .inl h
  ·have hg0 : 0 ≤ gateOf b k := by omega
   rcases gateOf_cases hD hk with ⟨h1, _⟩ | ⟨j0, hj0, hP⟩
   ·omega
   refine Ret.call (by rw [hj0]; exact spec_l28Inputs hB hk hP ()) ?_
   dsimp only
   have hil : (insOf b k).length ≤ 30 := by
    rw [insOf_eq hD hk hP]
    have := (inst_ok hD hP.1).2.2.1
    simp; omega
   have hsk : seen[k]? = some false := by rw [List.getElem?_eq_getElem (by omega), hs]
   -- what holds ahead of every input
   refine Ret.up (insOf b k).length (fun i (s : List Bool × List Bool × Unit) => s.1.length = b.2.1.2.1.length ∧ s.2.1.length = b.2.1.2.1.length ∧ SeenP b rank (rank k) s.1 s.2.1 ∧ (∀ j : Nat, (seen.set k true)[j]? = some true → s.2.1[j]? = some true) ∧
    (∀ j : Nat, marks[j]? = some true → s.1[j]? = some true) ∧ (∀ j : Nat, s.2.1[j]? = some true → (seen.set k true)[j]? = some true ∨ ∃ y ∈ insOf b k, Reach b y.toNat j) ∧ (∀ j : Nat, s.1[j]? = some true → marks[j]? = some true ∨ SupP b k j) ∧
    ∀ q (h : q < (insOf b k).length), q < i → s.2.1[(insOf b k)[q].toNat]? = some true) (by omega) (by omega) ?_ ?_ ?_
   ·refine ⟨hml, by simp [hsl], fun j hj hjr s hs' => ?_, fun j h => h, fun j h => h, fun j h => .inl h, fun j h => .inl h, fun q _ h => absurd h (Nat.not_lt_zero q)⟩
    rcases (get_set (by omega) j).1 hj with rfl | hj
    ·omega
    ·obtain ⟨h1, h2⟩ := hsn (rank k + 1) (by omega) (Nat.le_refl _) j hj (by omega) s hs'
     exact ⟨(get_set (by omega) _).2 (.inr h1), h2⟩
   ·rintro i ⟨m, sn, u⟩ next hi ⟨g1, g2, g3, g4, g5, g6, g7, g8⟩ hn
    dsimp only at g1 g2 g3 g4 g5 g6 g7 g8 ⊢
    refine Ret.must (by omega) (Ret.atN hi ?_)
    have hmem := List.getElem_mem hi
    obtain ⟨hi0, hi1⟩ := insOf_in hD hk hmem
    have hrk := hr.down k hk hg0 _ hmem
    have e : (insOf b k)[i] = (((insOf b k)[i].toNat : Nat) : Int) := (Int.toNat_of_nonneg hi0).symm
    have hcall := spec_l28Mark M (insOf b k)[i].toNat m sn (by omega) hi1 g1 g2 (fun r h1 h2 j hj hjr => g3 j hj (by omega))
    rw [← e] at hcall
    refine Ret.bind hcall ?_
    rintro ⟨u0, m', sn', u1⟩ hw
    dsimp only at hw ⊢
    refine hn (m', sn', u1) ⟨by rw [hw.ml, g1], by rw [hw.sl, g2], hw.closed _ hrk g3, fun j h => hw.seen_mono j (g4 j h), fun j h => hw.mark_mono j (g5 j h), fun j h => ?_, fun j h => ?_, fun q hq hqi => ?_⟩
    ·rcases hw.seen_new j h with h | h
     ·exact g6 j h
     ·exact .inr ⟨_, hmem, h⟩
    ·rcases hw.mark_new j h with h | ⟨h1, h2⟩
     ·exact g7 j h
     ·exact .inr ⟨h1, .step hg0 hmem h2⟩
    ·by_cases hqe : q = i
     ·subst hqe; exact hw.seen_k
     ·exact hw.seen_mono _ (g8 q hq (by omega))
   ·rintro ⟨m, sn, u⟩ next ⟨g1, g2, g3, g4, g5, g6, g7, g8⟩
    dsimp only at g1 g2 g3 g4 g5 g6 g7 g8 ⊢
    refine Ret.mustN (by omega) (Ret.ret ⟨g1.trans hml.symm, g2.trans hsl.symm, g4 k ((get_set (by omega) k).2 (.inl rfl)), fun r hr1 h j hj hjr s hs' => ?_, fun j h => g4 j ((get_set (by omega) j).2 (.inr h)), g5, fun j h => ?_, g7⟩)
    ·-- closed
     have hk' : ∀ s, Reach b k s → sn[s]? = some true ∧ (gateOf b s < 0 → m[s]? = some true) := by
      intro s hs
      cases hs with
      | refl => exact ⟨g4 k ((get_set (by omega) k).2 (.inl rfl)), fun h => absurd h hg⟩
      | step h1 h2 h3 =>
       obtain ⟨q, hq, rfl⟩ := List.getElem_of_mem h2
       exact g3 _ (g8 q hq hq) (hr.down k hk hg0 _ (List.getElem_mem hq)) s h3
     rcases g6 j hj with hj' | ⟨y, hy, hyj⟩
     ·rcases (get_set (by omega) j).1 hj' with rfl | hj'
      ·exact hk' s hs'
      ·obtain ⟨h1, h2⟩ := h j hj' hjr s hs'
       exact ⟨g4 s ((get_set (by omega) s).2 (.inr h1)), fun h3 => g5 s (h2 h3)⟩
     ·have hyr := reach_rank hD hr.down hyj (insOf_in hD hk hy).2
      have := hr.down k hk hg0 y hy
      refine g3 j hj ?_ s hs'
      rcases hyr.2 with e | e
      ·rw [e]; exact this
      ·omega
    ·rcases g6 j h with h | ⟨y, hy, h⟩
     ·rcases (get_set (by omega) j).1 h with rfl | h
      ·exact .inr (.refl _)
      ·exact .inl h
     ·exact .inr (.step hg0 hy h)
omit hr in
theorem spec_l28Listed {marks : List Bool} (hm : marks.length ≤ 30) (u : Unit) : F_spec_l28Listed N (marks, u) = some (((List.range marks.length).filter fun s => dec (marks[s]? = some true)).map fun s : Nat => (s : Int), ()) := by
 refine Ret.eq ?_
 unfold F_spec_l28Listed
 dsimp only
 refine Ret.up marks.length (fun i s => s.1 = ((List.range i).filter fun s => dec (marks[s]? = some true)).map fun s : Nat => (s : Int)) (by omega) (by omega) rfl ?_ ?_
 ·rintro i ⟨l, v⟩ next hi hI hn
  dsimp only at hI ⊢
  subst hI
  refine Ret.must (by omega) (Ret.atN hi ?_)
  have hl : (((List.range i).filter fun s => dec (marks[s]? = some true)).map fun s : Nat => (s : Int)).length ≤ i := by
   rw [List.length_map]; exact Nat.le_trans (List.length_filter_le _ _) (by simp)
  refine Ret.bif ?_ ?_ <;> intro h
  ·refine Ret.guard (by simp only [List.length_append, List.length_singleton]; unfold lim; omega) (hn _ ?_)
   show _ ++ _ = _
   rw [List.range_succ, List.filter_append, List.map_append]
   simp [List.getElem?_eq_getElem hi, h, dec_of]
  ·refine hn _ ?_
   show _ = _
   rw [List.range_succ, List.filter_append, List.map_append]
   have : dec (marks[i]? = some true) = false := dec_not (by rw [List.getElem?_eq_getElem hi, h]; simp)
   simp [this]
 ·rintro ⟨l, v⟩ next hI
  dsimp only at hI ⊢
  subst hI
  exact Ret.mustN (by omega) (Ret.ret rfl)
omit hb hr in
theorem impl_inputs {gates : List Int} {ord : List Int × Unit} (hg : gates.length = b.2.1.2.1.length ∧ ∀ k (h : k < gates.length), gates[k] = gateOf b k) {k : Nat} (hk : k < b.2.1.2.1.length) (h0 : 0 ≤ gateOf b k) (u : Unit) : F_impl_logic_inputs N (some (b, gates, ord), (k : Int), u) = some (insOf b k, ()) := by
 have hD := hB.1
 have hjn : k < gates.length := by omega
 rcases gateOf_cases hD hk with ⟨hng, hno⟩ | ⟨i, hi, hP⟩
 ·omega
 obtain ⟨_, h3, h4, _⟩ := inst_ok hD hP.1
 have hil := hP.1
 refine Ret.eq ?_
 unfold F_impl_logic_inputs
 dsimp only
 refine Ret.call rfl ?_
 refine Ret.call rfl ?_
 refine Ret.atN hjn ?_
 rw [hg.2 _ hjn, hi]
 refine Ret.atN hil ?_
 dsimp only
 rw [wrapI (n := (b.2.1.1[i].2.2.1.length : Int) - 1) (by omega) (by omega)]
 have e1 : ((b.2.1.1[i].2.2.1.length : Int) - 1) = ((b.2.1.1[i].2.2.1.length - 1 : Nat) : Int) := by omega
 rw [e1]
 refine Ret.guard3 ⟨by omega, by omega, by omega⟩ (Ret.ret ?_)
 rw [insOf_eq hD hk hP]; simp
omit hN hb hr in
theorem ins_len {k : Nat} (hk : k < b.2.1.2.1.length) (h0 : 0 ≤ gateOf b k) : 1 ≤ (insOf b k).length ∧ (insOf b k).length ≤ 4 := by
 rcases gateOf_cases hB.1 hk with ⟨hng, hno⟩ | ⟨i, hi, hP⟩
 ·omega
 rw [insOf_eq hB.1 hk hP, List.length_take]
 obtain ⟨_, h3, h4, _⟩ := inst_ok hB.1 hP.1
 omega
omit hN hb hr in
theorem sups_len (l : List Int) : (l.flatMap fun i => supL b i.toNat).length ≤ l.length * 30 := by
 have hsm := block_small hB
 induction l with
 | nil => simp
 | cons x l ih =>
  rw [List.flatMap_cons, List.length_append, List.length_cons]
  have := supL_len b x.toNat
  omega
omit hN hb hB hr in
theorem flat_succ {l : List Int} {q : Nat} (h : q < l.length) (f : Int → List Int) : (l.take (q + 1)).flatMap f = (l.take q).flatMap f ++ f l[q] := by
 rw [List.take_succ_eq_append_getElem h, List.flatMap_append]; simp
def SupsP (b : DBlock) (ord : List Int) (p : Nat) (S : List (List Int)) : Prop := S.length = b.2.1.2.1.length ∧ ∀ q, q < p → ∀ k : Nat, ord[q]? = some (k : Int) → S[k]? = some (supL b k)
omit hb hr in
theorem impl_supports {gates : List Int} {ord : List Int × Unit} (hg : gates.length = b.2.1.2.1.length ∧ ∀ k (h : k < gates.length), gates[k] = gateOf b k) (ht : Topo b ord.1) (u : Unit) : Ret (F_impl_logic_supports N (some (b, gates, ord), u)) (fun r => r.1.length = b.2.1.2.1.length ∧ ∀ k, k < b.2.1.2.1.length → r.1[k]? = some (supL b k)) := by
 have hD := hB.1
 have hsm := block_small hB
 have hol := ht.1
 unfold F_impl_logic_supports
 dsimp only
 refine Ret.call rfl ?_
 dsimp only
 rw [hg.1]
 refine lim_guard (by omega) (Ret.call rfl ?_)
 dsimp only
 rw [Int.toNat_natCast]
 refine Ret.up ord.1.length (fun p s => SupsP b ord.1 p s.1) (by omega) (by omega) ⟨by simp, fun q h => absurd h (Nat.not_lt_zero q)⟩ ?_ ?_
 ·rintro p ⟨S, u1⟩ next hp ⟨hS, hI⟩ hn
  dsimp only at hS hI ⊢
  refine Ret.must (by omega) (Ret.atN hp ?_)
  refine Ret.call rfl ?_
  obtain ⟨k, hk, he, hin⟩ := ht.2.2 p hp
  rw [he]
  dsimp only
  rw [atI_nat (show k < gates.length by omega)]
  refine Ret.call rfl ?_
  rw [hg.2 k (by omega)]
  -- what it is behind this round
  have hnext : ∀ S' : List (List Int), S' = S.set k (supL b k) → SupsP b ord.1 (p + 1) S' := by
   rintro S' rfl
   refine ⟨by rw [List.length_set]; exact hS, fun q hq j hj => ?_⟩
   rw [List.getElem?_set]
   by_cases hkj : k = j
   ·subst hkj; rw [if_pos rfl, if_pos (by omega)]
   ·rw [if_neg hkj]
    by_cases hqp : q = p
    ·subst hqp
     rw [List.getElem?_eq_getElem hp, he] at hj
     simp only [Option.some.injEq] at hj
     omega
    ·exact hI q (by omega) j hj
  refine Ret.ifd ?_ ?_ <;> intro hgk
  ·rw [Int.toNat_natCast]
   refine Ret.guardI (by omega) (Ret.get (by omega) (hn _ (hnext _ ?_)))
   rw [sup_source hk hgk]
  ·have h0 : 0 ≤ gateOf b k := by omega
   refine Ret.call (impl_inputs hN hB hg hk h0 ()) ?_
   dsimp only
   have hil := ins_len hB hk h0
   refine Ret.up (insOf b k).length (fun i s => s.1 = ((insOf b k).take i).flatMap fun i => supL b i.toNat) (by omega) (by omega) rfl ?_ ?_
   ·rintro i ⟨l, u2⟩ next2 hi hl hn2
    dsimp only at hl ⊢
    subst hl
    refine Ret.must (by omega) (Ret.atN hi ?_)
    have hmem := List.getElem_mem hi
    obtain ⟨hi0, hi1⟩ := insOf_in hD hk hmem
    obtain ⟨q, hq, hqe⟩ := hin h0 _ hmem
    have hsi := hI q hq (insOf b k)[i].toNat (by rw [hqe, Int.toNat_of_nonneg hi0])
    refine Ret.guardZ hi0 (by omega) ?_
    refine Ret.call hsi ?_
    have h1 := sups_len hB ((insOf b k).take i)
    have h2 := supL_len b (insOf b k)[i].toNat
    refine Ret.guard ?_ (hn2 _ ?_)
    ·rw [List.length_append]
     simp only [List.length_take] at h1
     unfold lim
     have : min i (insOf b k).length * 30 ≤ 4 * 30 := Nat.mul_le_mul_right _ (by omega)
     omega
    ·exact (flat_succ hi _).symm
   ·rintro ⟨l, u2⟩ next2 hl
    dsimp only at hl ⊢
    rw [List.take_length] at hl
    subst hl
    refine Ret.mustN (by omega) ?_
    have hjl : ((insOf b k).flatMap fun i => supL b i.toNat).length ≤ 120 := by
     have := sups_len hB (insOf b k)
     have h4 : (insOf b k).length * 30 ≤ 4 * 30 := Nat.mul_le_mul_right _ hil.2
     omega
    have hso : F_slices_Sort_int64 ((insOf b k).flatMap (fun i => supL b i.toNat), u2) = some ((), sortI ((insOf b k).flatMap fun i => supL b i.toNat), ()) := by
     unfold F_slices_Sort_int64
     rw [decide_eq_true (show ((insOf b k).flatMap fun i => supL b i.toNat).length < 4611686018427387904 by omega)]
     rfl
    refine Ret.call hso ?_
    dsimp only
    refine Ret.call rfl ?_
    rw [Int.toNat_natCast]
    refine Ret.guardI (by omega) (Ret.get (by omega) (hn _ (hnext _ ?_)))
    rw [sup_join h0]
 ·rintro ⟨S, u1⟩ next ⟨hS, hI⟩
  dsimp only at hS hI ⊢
  refine Ret.mustN (by omega) (Ret.ret ⟨hS, fun k hk => ?_⟩)
  obtain ⟨q, hq, hqe⟩ := List.getElem_of_mem (ht.2.1 k hk)
  exact hI q hq k (by rw [List.getElem?_eq_getElem hq, hqe])
end
section
variable {N : Nat} (hN : 4000000 ≤ N) {b : DBlock} (hb : SmallB b)
include hN hb
theorem ranked_bd (hB : BlockP b) (hR : Ranked b) : ∃ rank, RankP b rank := by
 obtain ⟨⟨o, ok, u1⟩, _, (⟨h1, gates, ord, h2, h3, h4⟩ | ⟨h1, h2, h3⟩)⟩ := impl_newLogic hN hb hB ()
 ·exact ⟨_, h4.rankP hB.1 (block_small hB).2⟩
 ·exact absurd hR h3
end
end Go.Proofs.YtdbmhfpphobmpaaGreatDoor
