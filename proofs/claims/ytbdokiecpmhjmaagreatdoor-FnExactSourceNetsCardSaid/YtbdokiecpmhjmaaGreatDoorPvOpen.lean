/- What is read of an argument is plain data. No condition of its own. -/
import Derived.Test.YtbdokiecpmhjmaaGreatDoorPvFn
import Derived.ProofKit
import Derived.OpenShut
import Derived.Deep.Slices
namespace Go.Proofs.YtbdokiecpmhjmaaGreatDoor
set_option linter.unusedSimpArgs false
set_option linter.unusedVariables false
open Go.RowKit Go.ChangeShapes Go.WideShapes Go.Deep

/-- What is read of an argument's cells is data of this code. -/
def OpensT (P : Program) (t : TypeId) (τ : Ty) : Prop :=
  ∀ (H : Type) (enc : TypeId × Value → H) (w : World) (base : Nat) (spare : Nat → Bool) (held : Bool) (fuel : Nat) (cs : List Value) (y : DataW H × List MemPlace),
    DataW.trod enc P w base spare held fuel t cs = some y → ∃ x : τ.den, τ.rp w (fun b => b < w.heap.size) cs x
def okFs (P : Program) (ok : TypeId → Ty → Bool) : List Field → Nat → Ty → Bool
  | [], _, .nil => true
  | f :: fs, off, .pair a b => Nat.beq f.offset off && ok f.type a && Nat.beq (P.cellsOf f.type) a.sz && okFs P ok fs (off + a.sz) b
  | _, _, _ => false
def okT (P : Program) : Nat → TypeId → Ty → Bool
  | 0, _, _ => false
  | n + 1, t, τ => match P.underlying t, τ with
    | some (.int k), .int k' => decide (k = k')
    | some .bool, .bool => true
    | some .string, .str => true
    | some (.slice e), .slice τ' => okT P n e τ' && Nat.beq (P.cellsOf e) τ'.sz && decide (0 < τ'.sz)
    | some (.struct fs), .agg l => okFs P (okT P n) fs.toList 0 l && Nat.beq (P.cellsOf t) l.sz
    | _, _ => false

theorem addr_at (b o i : Nat) : (⟨b, o, none⟩ : Addr).add i = ⟨b, o + i, none⟩ := addr_add b o i
theorem opensT_slice {P : Program} {t e : TypeId} {τ : Ty} (ht : P.underlying t = some (.slice e)) (hC : P.cellsOf e = τ.sz) (hpos : 0 < τ.sz) (he : OpensT P e τ) : OpensT P t (.slice τ) := by
  intro H enc w base spare held fuel cs y h
  rcases open_slice ht h with ⟨rfl, _⟩ | ⟨a, len, cap, m, n, D, Pl, rfl, hb, hl, hm, hmm, _, hi⟩
  · exact ⟨[], none, 0, rfl, Nat.le_refl _, by simp [maxLen], fun h0 => absurd h0 (by simp)⟩
  have hlm : len ≤ m := by rw [hmm]; split <;> omega
  have hel : ∀ i, i < len → ∃ (x : τ.den) (cs' : List Value), τ.rp w (fun b => b < w.heap.size) cs' x ∧ ∀ j u, cs'[j]? = some u → w.cell? ((a.add (i * τ.sz)).add j) = some u := by
    intro i hlt
    obtain ⟨cs', h1, h2⟩ := hi i (by omega)
    obtain ⟨x, hx⟩ := he H enc w base spare held n cs' _ h2
    obtain ⟨_, hlen, hat⟩ := World.cells?_some h1
    rw [hC] at hat hlen
    exact ⟨x, cs', hx, fun j u hu => by rw [hat j (by rw [← hlen]; exact (List.getElem?_eq_some_iff.1 hu).1)]; exact hu⟩
  rcases Nat.eq_zero_or_pos len with rfl | hpos'
  · exact ⟨[], some a, cap, rfl, by simp, hm, fun h => absurd h (by simp)⟩
  · obtain ⟨b, off, spot⟩ := a
    have hx0 := hel 0 hpos'
    have hspot : spot = none := by
      obtain ⟨x, cs', hx, hc⟩ := hx0
      have hlen := τ.rp_len hx
      have h0 := hc 0 (cs'[0]'(by omega)) (List.getElem?_eq_getElem _)
      simpa [Addr.add] using World.cell?_spot h0
    subst hspot
    have hblt : b < w.heap.size := by
      obtain ⟨x, cs', hx, hc⟩ := hx0
      have hlen := τ.rp_len hx
      have h0 := hc 0 (cs'[0]'(by omega)) (List.getElem?_eq_getElem _)
      rw [addr_at, addr_at] at h0
      exact World.block_lt_of_cell? w _ h0
    obtain ⟨xs, hxl, hxs⟩ : ∃ xs : List τ.den, xs.length = len ∧ ∀ i (h : i < xs.length), ∃ us, τ.rp w (fun b => b < w.heap.size) us xs[i] ∧ CellsAt w b (off + i * τ.sz) us := by
      clear hx0 hpos' hlm hi hmm
      have : ∀ k, k ≤ len → ∃ xs : List τ.den, xs.length = k ∧ ∀ i (h : i < xs.length), ∃ us, τ.rp w (fun b => b < w.heap.size) us xs[i] ∧ CellsAt w b (off + i * τ.sz) us := by
        intro k
        induction k with
        | zero => intro _; exact ⟨[], rfl, fun i h => absurd h (by simp)⟩
        | succ k ih =>
          intro hk
          obtain ⟨xs, hxl, hxs⟩ := ih (by omega)
          obtain ⟨x, cs', hx, hc⟩ := hel k (by omega)
          refine ⟨xs ++ [x], by simp [hxl], fun i h => ?_⟩
          by_cases hi : i < xs.length
          · obtain ⟨cs2, h2, h3⟩ := hxs i hi
            exact ⟨cs2, by rw [List.getElem_append_left hi]; exact h2, h3⟩
          · obtain rfl : i = k := by simp at h; omega
            refine ⟨cs', ?_, fun j u hu => ?_⟩
            · rw [List.getElem_append_right (by omega)]
              simpa using hx
            · have := hc j u hu
              rwa [addr_at, addr_at] at this
      exact this len (Nat.le_refl _)
    exact ⟨xs, _, cap, by rw [hxl], by omega, hm, fun _ => ⟨b, off, rfl, hblt, hxs⟩⟩
theorem opensT_fs {P : Program} {ok : TypeId → Ty → Bool} (hok : ∀ t τ, ok t τ = true → OpensT P t τ) {H : Type} {enc : TypeId × Value → H} {w : World} {base : Nat} {spare : Nat → Bool} {held : Bool} {n : Nat} {cs : List Value} :
    ∀ (fs : List Field) (off : Nat) (l : Ty), okFs P ok fs off l = true → cs.length = off + l.sz → (∀ f ∈ fs, ∃ y, DataW.trod enc P w base spare held n f.type ((cs.drop f.offset).take (P.cellsOf f.type)) = some y) → ∃ x : l.den, l.rp w (fun b => b < w.heap.size) (cs.drop off) x
  | [], off, .nil, _, hl, _ => ⟨(), List.drop_of_length_le (by rw [hl]; exact Nat.le_refl _)⟩
  | f :: fs, off, .pair a b, h, hl, hf => by
    simp only [okFs, Bool.and_eq_true] at h
    obtain ⟨⟨⟨h1, h2⟩, h3⟩, h4⟩ := h
    have h1 := Nat.eq_of_beq_eq_true h1
    have h3 := Nat.eq_of_beq_eq_true h3
    obtain ⟨y, hy⟩ := hf f (by simp)
    obtain ⟨x, hx⟩ := hok _ _ h2 _ _ _ _ _ _ _ _ _ hy
    obtain ⟨z, hz⟩ := opensT_fs hok fs (off + a.sz) b h4 (by rw [hl]; show off + (a.sz + b.sz) = _; omega) (fun g hg => hf g (by simp [hg]))
    rw [h1, h3] at hx
    exact ⟨(x, z), _, _, by rw [← List.drop_drop]; exact (List.take_append_drop a.sz _).symm, hx, hz⟩
  | [], _, .int _, h, _, _ => by cases h
  | [], _, .bool, h, _, _ => by cases h
  | [], _, .str, h, _, _ => by cases h
  | [], _, .slice _, h, _, _ => by cases h
  | [], _, .ptr _, h, _, _ => by cases h
  | [], _, .agg _, h, _, _ => by cases h
  | [], _, .pair _ _, h, _, _ => by cases h
  | [], _, .clo _ _, h, _, _ => by cases h
  | _ :: _, _, .int _, h, _, _ => by cases h
  | _ :: _, _, .bool, h, _, _ => by cases h
  | _ :: _, _, .str, h, _, _ => by cases h
  | _ :: _, _, .slice _, h, _, _ => by cases h
  | _ :: _, _, .ptr _, h, _, _ => by cases h
  | _ :: _, _, .agg _, h, _, _ => by cases h
  | _ :: _, _, .nil, h, _, _ => by cases h
  | _ :: _, _, .clo _ _, h, _, _ => by cases h
theorem opensT {P : Program} : ∀ (n : Nat) (t : TypeId) (τ : Ty), okT P n t τ = true → OpensT P t τ
  | 0, _, _, h => by cases h
  | n + 1, t, τ, hk => by
    unfold okT at hk
    split at hk
    · rename_i k k' hu
      obtain rfl : k = k' := by simpa using hk
      intro H enc w base spare held fuel cs y h
      obtain ⟨m, rfl, _, hw⟩ := DataW.trod_int hu h
      exact ⟨m, rfl, hw⟩
    · rename_i hu
      intro H enc w base spare held fuel cs y h
      obtain ⟨b, rfl, _⟩ := DataW.trod_bool hu h
      exact ⟨b, rfl⟩
    · rename_i hu
      intro H enc w base spare held fuel cs y h
      obtain ⟨s, rfl, _, hw⟩ := DataW.trod_string hu h
      exact ⟨s, rfl, hw⟩
    · rename_i e τ' hu
      simp only [Bool.and_eq_true, decide_eq_true_eq] at hk
      exact opensT_slice hu (Nat.eq_of_beq_eq_true hk.1.2) hk.2 (opensT n e τ' hk.1.1)
    · rename_i fs l hu
      simp only [Bool.and_eq_true] at hk
      intro H enc w base spare held fuel cs y h
      obtain ⟨xs, m, rfl, _, hl, hxl, hf⟩ := DataW.trod_struct hu h
      have := opensT_fs (ok := okT P n) (fun t τ => opensT n t τ) (enc := enc) (w := w) (base := base) (spare := spare) (held := held) (n := m) (cs := cs) fs.toList 0 l hk.1 (by rw [hl, Nat.eq_of_beq_eq_true hk.2]; omega) (fun f hm => by
        obtain ⟨i, hi⟩ := List.getElem?_of_mem hm
        have hlt : i < fs.size := by simpa using (List.getElem?_eq_some_iff.1 hi).1
        have := hf i f (by simpa using hi)
        rw [List.getElem?_eq_getElem (by rw [hxl]; exact hlt)] at this
        exact ⟨_, this⟩)
      obtain ⟨x, hx⟩ := this
      rw [List.drop_zero] at hx
      exact ⟨x, hx⟩
    · cases hk

/-- An argument's value. -/
theorem arg_of_trod {P : Program} {n : Nat} {t : TypeId} {τ : Ty} (hk : okT P n t τ = true) {H : Type} {enc : TypeId × Value → H} {w : World} {base : Nat} {spare : Nat → Bool} {held : Bool} {v : Value} {d : DataW H} {ps : List MemPlace}
    (hd : DataW.Trod enc P w base spare held t v d ps) (hv : v = pack1 τ v.cells.toList) : ∃ x : τ.den, ∃ cs, v = pack1 τ cs ∧ τ.rp w (fun b => b < w.heap.size) cs x := by
  obtain ⟨fuel, hf⟩ := hd
  obtain ⟨x, hx⟩ := opensT n t τ hk _ _ _ _ _ _ _ _ _ hf
  exact ⟨x, _, hv, hx⟩

/-- The law's call, from its contract. -/
theorem law_of_sound {P : Program} {Pre : World → Prop} {f : FuncId} {S : Nat → FnSpec} {ps : Ty} (F : Nat → ps.den → Option (Bool × Unit)) (own : List Bool) (hS : ∀ N, S N = ⟨ps, .pair .bool .nil, own, F N, false⟩)
    (hZ : ∀ N, Sound P Pre f (S N)) (hT : ∀ x, ∃ N, F N x = some (true, ())) {w : World} {args : Array Value} {x : ps.den} (hpre : Pre w) (hA : ArgsOk w (fun b => b < w.heap.size) ps args.toList x) :
    Calls P f args w fun e w' => e = .returned (.bool true) ∧ Ext w w' := by
  obtain ⟨N, hN⟩ := hT x
  have hz := hZ N
  rw [hS N] at hz
  refine (hz w args x (true, ()) (fun b => b < w.heap.size) hpre (fun b hb => hb) hA hN).mono fun e w' ⟨V, he, hres⟩ => ?_
  obtain ⟨G, vs, rfl, hr, hst⟩ := hres
  refine ⟨?_, hst.ext⟩
  have hcs : (ownAcs false own 0 [AC.bool true]).1 = [AC.bool true] := by
    cases own with
    | nil => rfl
    | cons b fs => rw [ownAcs_other _ _ _ _ _ (.inr (by intro e xs h; cases h)), ownAcs_nil']
  have hr' : RCs w' (imm w (fun b => b < w.heap.size) w' G) G (ownAcs false own 0 [AC.bool true]).1 vs := hr
  rw [hcs] at hr'
  obtain ⟨v, rfl, hv⟩ := hr'.one
  obtain rfl : v = .bool true := hv
  rw [he]
  rfl
end Go.Proofs.YtbdokiecpmhjmaaGreatDoor
