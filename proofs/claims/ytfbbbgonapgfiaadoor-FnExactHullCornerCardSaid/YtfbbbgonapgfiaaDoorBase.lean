/- My own words for memory: 'Ext' (nothing that was there has turned), 'Rd' (a value that reads as plain data), and how an argument's reading gives them. No condition of its own. -/
import Derived.WalkKit
import Derived.WalkSpells
import Derived.WalkLawsBesides
import Derived.Lib.Hide
import Derived.Deep.QuietTactic
import Derived.BigQuiet
import Derived.StillTailTactics
import Derived.Deep.RegionHeld3
import Derived.Deep.Draws
import Derived.Deep.Slices
import Derived.Deep.Fields
import Derived.ProofKit
import Derived.OpenShut
import Derived.Deep.DeepCutAuto
import Derived.Deep.LoopGhost
namespace Go.Proofs.YtfbbbgonapgfiaaDoor
set_option linter.unusedSimpArgs false
set_option linter.unusedVariables false
open Go.RowKit Go.ChangeShapes Go.WideShapes Go.Deep

/-- Nothing that was there has turned. -/
structure Ext (w w' : World) : Prop where
  below : Below w.heap.size w w'
theorem Ext.refl (w : World) : Ext w w := ⟨Below.refl _ _⟩
theorem Ext.trans {a b c : World} (h : Ext a b) (k : Ext b c) : Ext a c := ⟨h.below.trans (k.below.mono h.below.size)⟩
theorem Ext.alloc {a w : World} (h : Ext a w) (o : Obj) : Ext a (w.alloc o) := ⟨h.below.alloc h.below.size o⟩
theorem Ext.drew {a w : World} (h : Ext a w) : Ext a w.drew := ⟨h.below.drew⟩
theorem Ext.drewN {a w : World} (h : Ext a w) (n : Nat) : Ext a (w.drewN n) := ⟨h.below.trans ⟨rfl, rfl, rfl, Nat.le_refl _, fun _ _ => rfl⟩⟩
theorem Ext.setCell {a w : World} (h : Ext a w) {p : Addr} (hp : a.heap.size ≤ p.block) (u : Value) : Ext a (w.setCell p u) := ⟨h.below.setCell hp u⟩
theorem Ext.grown {a w w' : World} {row : Option Nat} (h : Ext a w) (hg : w.grownBy w' row) (hr : ∀ k, row = some k → a.heap.size ≤ k) : Ext a w' := ⟨h.below.grown hg h.below.size hr⟩
theorem Ext.size {a w : World} (h : Ext a w) : a.heap.size ≤ w.heap.size := h.below.size
theorem Ext.cell {a w : World} (h : Ext a w) {p : Addr} (hp : p.block < a.heap.size) : w.cell? p = a.cell? p := h.below.cell hp
theorem Ext.rules {W w1 : World} (h : Ext W w1) : (∀ b o, b < W.heap.size → w1.cell? ⟨b, o, none⟩ = W.cell? ⟨b, o, none⟩) ∧ (∀ b o, b < W.heap.size → w1.frozen? ⟨b, o, none⟩ = W.frozen? ⟨b, o, none⟩) ∧ W.heap.size ≤ w1.heap.size :=
  ⟨fun b o hb => h.below.cell (p := ⟨b, o, none⟩) hb, fun b o hb => h.below.frozen (p := ⟨b, o, none⟩) hb, h.size⟩

theorem Ext.loc {W w1 : World} (h : Ext W w1) (b : Nat) (hb : b < W.heap.size) : (∀ i, w1.cell? ⟨b, i, none⟩ = W.cell? ⟨b, i, none⟩) ∧ (∀ i, w1.frozen? ⟨b, i, none⟩ = W.frozen? ⟨b, i, none⟩) :=
  ⟨fun i => h.below.cell (p := ⟨b, i, none⟩) hb, fun i => h.below.frozen (p := ⟨b, i, none⟩) hb⟩

/-- A proposition as a Bool: not to be run. -/
noncomputable def tf (p : Prop) : Bool := @decide p (Classical.propDecidable p)
theorem tf_iff {p : Prop} : tf p = true ↔ p := by unfold tf; exact @decide_eq_true_iff p (Classical.propDecidable p)
theorem tf_not {p : Prop} : tf p = false ↔ ¬ p := by unfold tf; exact @decide_eq_false_iff_not p (Classical.propDecidable p)
theorem tf_mk {p : Prop} (h : p) : tf p = true := tf_iff.2 h
theorem tf_mk_not {p : Prop} (h : ¬ p) : tf p = false := tf_not.2 h
theorem tf_congr {p q : Prop} (h : p ↔ q) : tf p = tf q := by rw [propext h]
theorem tf_eq {p : Prop} {b : Bool} (h : b = true ↔ p) : b = tf p := Bool.eq_iff_iff.2 (h.trans tf_iff.symm)

theorem ba_ext {a b : ByteArray} (h : a.toList = b.toList) : a = b := by
  rw [ByteArray.toList_eq, ByteArray.toList_eq] at h
  exact bytes_inj h

theorem mem_take_iff {α : Type} {xs : List α} {k : Nat} {x : α} : x ∈ xs.take k ↔ ∃ j, ∃ h : j < xs.length, j < k ∧ xs[j] = x := by
  constructor
  · intro h
    obtain ⟨j, hj, rfl⟩ := List.getElem_of_mem h
    have : j < xs.length ∧ j < k := by simp at hj; omega
    exact ⟨j, this.1, this.2, by simp⟩
  · rintro ⟨j, h, hjk, rfl⟩
    exact List.mem_iff_getElem.2 ⟨j, by simp; omega, by simp⟩

theorem ret_bool {a b : Bool} (h : a = b) : Ending.returned (.bool a) = .returned (.bool b) := by rw [h]
theorem ret_int {k : IntKind} {a b : Int} (h : a = b) : Ending.returned (.int k a) = .returned (.int k b) := by rw [h]
theorem ret_str {a b : ByteArray} (h : a = b) : Ending.returned (.string a) = .returned (.string b) := by rw [h]

/-- An int64 that fits. -/
def I64 (n : Int) : Prop := (Lit.int .i64 n).wf = true
theorem I64.bounds {n : Int} (h : I64 n) : -9223372036854775808 ≤ n ∧ n ≤ 9223372036854775807 := bounds_i64 h
theorem I64.mk {n : Int} (h : -9223372036854775808 ≤ n) (h' : n ≤ 9223372036854775807) : I64 n := by
  unfold I64; simp [Lit.wf, IntKind.min, IntKind.max, IntKind.signed, IntKind.bits]; omega

class Rp (α : Type) where
  size : Nat
  agg : Bool
  rp : World → Nat → Nat → List Value → α → Prop
  len : ∀ {w lo hi cs a}, rp w lo hi cs a → cs.length = size
  keep : ∀ {w w' lo hi cs a}, rp w lo hi cs a → (∀ p : Addr, lo ≤ p.block → p.block < hi → w'.cell? p = w.cell? p) → rp w' lo hi cs a
  more : ∀ {w lo hi lo' hi' cs a}, rp w lo hi cs a → lo' ≤ lo → hi ≤ hi' → rp w lo' hi' cs a

/-- The value of so many cells. -/
def ofCells (agg : Bool) (cs : List Value) : Value := if agg then .agg cs.toArray else cs.headD undef

/-- A value that reads as plain data, all of it in the blocks from lo on and below hi. -/
def RV {α : Type} [Rp α] (w : World) (lo hi : Nat) (v : Value) (x : α) : Prop := ∃ cs, Rp.rp w lo hi cs x ∧ v = ofCells (Rp.agg α) cs
/-- A value that reads as plain data. -/
def Rd {α : Type} [Rp α] (w : World) (v : Value) (x : α) : Prop := RV w 0 w.heap.size v x

/-- A slice that reads as a list. -/
def RSl {α : Type} [Rp α] (w : World) (lo hi : Nat) (v : Value) (xs : List α) : Prop :=
  ∃ A cap, v = .slice A xs.length cap ∧ xs.length ≤ cap ∧ cap ≤ maxLen ∧
    (0 < xs.length → ∃ b o, A = some ⟨b, o, none⟩ ∧ lo ≤ b ∧ b < hi ∧ ∀ k (h : k < xs.length), ∃ cs, Rp.rp w lo hi cs xs[k] ∧ ∀ j u, cs[j]? = some u → w.cell? ⟨b, o + k * Rp.size α + j, none⟩ = some u)

section
variable {α : Type} [Rp α] {w w' : World} {lo hi lo' hi' : Nat} {v : Value} {x : α} {xs : List α}
theorem RV.keep (h : RV w lo hi v x) (hk : ∀ p : Addr, lo ≤ p.block → p.block < hi → w'.cell? p = w.cell? p) : RV w' lo hi v x := by
  obtain ⟨cs, h, hv⟩ := h
  exact ⟨cs, Rp.keep h hk, hv⟩
theorem RV.more (h : RV w lo hi v x) (hl : lo' ≤ lo) (hh : hi ≤ hi') : RV w lo' hi' v x := by
  obtain ⟨cs, h, hv⟩ := h
  exact ⟨cs, Rp.more h hl hh, hv⟩
theorem RV.rd (h : RV w lo hi v x) (hh : hi ≤ w.heap.size) : Rd w v x := h.more (Nat.zero_le _) hh
theorem RV.ext (h : RV w lo hi v x) (hhi : hi ≤ w.heap.size) (he : Ext w w') : RV w' lo hi v x := h.keep fun p _ hp => he.cell (by omega)
theorem Rd.up (h : Rd w v x) (he : Ext w w') : Rd w' v x := (RV.ext h (Nat.le_refl _) he).more (Nat.le_refl _) he.size
theorem RSl.keep (h : RSl w lo hi v xs) (hk : ∀ p : Addr, lo ≤ p.block → p.block < hi → w'.cell? p = w.cell? p) : RSl w' lo hi v xs := by
  obtain ⟨A, cap, rfl, h1, h2, h3⟩ := h
  refine ⟨A, cap, rfl, h1, h2, fun h0 => ?_⟩
  obtain ⟨b, o, rfl, hlo, hhi, hc⟩ := h3 h0
  refine ⟨b, o, rfl, hlo, hhi, fun k h => ?_⟩
  obtain ⟨cs, hr, hcs⟩ := hc k h
  exact ⟨cs, Rp.keep hr hk, fun j u hu => (hk _ hlo hhi).trans (hcs j u hu)⟩
theorem RSl.more (h : RSl w lo hi v xs) (hl : lo' ≤ lo) (hh : hi ≤ hi') : RSl w lo' hi' v xs := by
  obtain ⟨A, cap, rfl, h1, h2, h3⟩ := h
  refine ⟨A, cap, rfl, h1, h2, fun h0 => ?_⟩
  obtain ⟨b, o, rfl, hlo, hhi, hc⟩ := h3 h0
  refine ⟨b, o, rfl, by omega, by omega, fun k h => ?_⟩
  obtain ⟨cs, hr, hcs⟩ := hc k h
  exact ⟨cs, Rp.more hr hl hh, hcs⟩
end
instance {α : Type} [Rp α] : Rp (List α) where
  size := 1
  agg := false
  rp w lo hi cs xs := ∃ v, cs = [v] ∧ RSl w lo hi v xs
  len := by rintro _ _ _ _ _ ⟨v, rfl, _⟩; rfl
  keep := by rintro _ _ _ _ _ _ ⟨v, rfl, h⟩ hk; exact ⟨v, rfl, h.keep hk⟩
  more := by rintro _ _ _ _ _ _ _ ⟨v, rfl, h⟩ hl hh; exact ⟨v, rfl, h.more hl hh⟩
instance : Rp Int where
  size := 1
  agg := false
  rp _ _ _ cs n := cs = [.int .i64 n] ∧ I64 n
  len := by rintro _ _ _ _ _ ⟨rfl, _⟩; rfl
  keep := by rintro _ _ _ _ _ _ h _; exact h
  more := by rintro _ _ _ _ _ _ _ h _ _; exact h
instance : Rp Bool where
  size := 1
  agg := false
  rp _ _ _ cs n := cs = [.bool n]
  len := by rintro _ _ _ _ _ rfl; rfl
  keep := by rintro _ _ _ _ _ _ rfl _; rfl
  more := by rintro _ _ _ _ _ _ _ rfl _ _; rfl
instance : Rp ByteArray where
  size := 1
  agg := false
  rp _ _ _ cs s := cs = [.string s] ∧ s.size ≤ maxLen
  len := by rintro _ _ _ _ _ ⟨rfl, _⟩; rfl
  keep := by rintro _ _ _ _ _ _ h _; exact h
  more := by rintro _ _ _ _ _ _ _ h _ _; exact h

section
variable {w : World} {lo hi : Nat} {v : Value}
theorem rv_int {n : Int} : RV w lo hi v n ↔ v = .int .i64 n ∧ I64 n := by
  constructor
  · rintro ⟨cs, ⟨rfl, h⟩, rfl⟩; exact ⟨rfl, h⟩
  · rintro ⟨rfl, h⟩; exact ⟨_, ⟨rfl, h⟩, rfl⟩
theorem rv_bool {n : Bool} : RV w lo hi v n ↔ v = .bool n := by
  constructor
  · rintro ⟨cs, rfl, rfl⟩; rfl
  · rintro rfl; exact ⟨_, rfl, rfl⟩
theorem rv_str {s : ByteArray} : RV w lo hi v s ↔ v = .string s ∧ s.size ≤ 9223372036854775807 := by
  constructor
  · rintro ⟨cs, ⟨rfl, h⟩, rfl⟩; exact ⟨rfl, by unfold maxLen at h; omega⟩
  · rintro ⟨rfl, h⟩; exact ⟨_, ⟨rfl, by unfold maxLen; omega⟩, rfl⟩
theorem rv_list {α : Type} [Rp α] {xs : List α} : RV w lo hi v xs ↔ RSl w lo hi v xs := by
  constructor
  · rintro ⟨cs, ⟨u, rfl, h⟩, rfl⟩; exact h
  · intro h; exact ⟨_, ⟨v, rfl, h⟩, rfl⟩
theorem rd_int {n : Int} : Rd w v n ↔ v = .int .i64 n ∧ I64 n := rv_int
theorem rd_str {s : ByteArray} : Rd w v s ↔ v = .string s ∧ s.size ≤ 9223372036854775807 := rv_str
theorem rd_nil {α : Type} [Rp α] : Rd w (.slice none 0 0) ([] : List α) := rv_list.2 ⟨none, 0, rfl, Nat.le_refl _, by simp [maxLen], fun h => absurd h (by simp)⟩
/-- The slice's own form. -/
theorem Rd.form {α : Type} [Rp α] {xs : List α} (h : Rd w v xs) : ∃ A cap, v = .slice A xs.length cap ∧ xs.length ≤ cap ∧ cap ≤ 9223372036854775807 := by
  obtain ⟨A, cap, rfl, h1, h2, h3⟩ := rv_list.1 h
  exact ⟨A, cap, rfl, h1, by unfold maxLen at h2; omega⟩
theorem Rd.at_ {α : Type} [Rp α] {xs : List α} {A : Option Addr} {n cap : Nat} (h : Rd w (.slice A n cap) xs) (k : Nat) (hk : k < xs.length) :
    ∃ b o cs, A = some ⟨b, o, none⟩ ∧ b < w.heap.size ∧ Rp.rp w 0 w.heap.size cs xs[k] ∧ ∀ j u, cs[j]? = some u → w.cell? ⟨b, o + k * Rp.size α + j, none⟩ = some u := by
  obtain ⟨A', cap', hv, h1, h2, h3⟩ := rv_list.1 h
  injection hv with hA hn hc
  subst hA hn hc
  obtain ⟨b, o, rfl, hlo, hhi, hc⟩ := h3 (by omega)
  obtain ⟨cs, hr, hcs⟩ := hc k hk
  exact ⟨b, o, cs, rfl, hhi, hr, hcs⟩
theorem Rd.atInt {xs : List Int} {A : Option Addr} {n cap : Nat} (h : Rd w (.slice A n cap) xs) (k : Nat) (hk : k < xs.length) :
    ∃ b o, A = some ⟨b, o, none⟩ ∧ b < w.heap.size ∧ w.cell? ⟨b, o + k, none⟩ = some (.int .i64 xs[k]) ∧ I64 xs[k] := by
  obtain ⟨b, o, cs, rfl, hb, ⟨rfl, hs⟩, hc⟩ := h.at_ k hk
  exact ⟨b, o, rfl, hb, by simpa [show Rp.size Int = 1 from rfl] using hc 0 _ rfl, hs⟩
theorem Rd.atBool {xs : List Bool} {A : Option Addr} {n cap : Nat} (h : Rd w (.slice A n cap) xs) (k : Nat) (hk : k < xs.length) :
    ∃ b o, A = some ⟨b, o, none⟩ ∧ b < w.heap.size ∧ w.cell? ⟨b, o + k, none⟩ = some (.bool xs[k]) := by
  obtain ⟨b, o, cs, rfl, hb, he, hc⟩ := h.at_ k hk
  have he : cs = [.bool xs[k]] := he
  subst he
  exact ⟨b, o, rfl, hb, by simpa [show Rp.size Bool = 1 from rfl] using hc 0 _ rfl⟩
theorem Rd.atStr {xs : List ByteArray} {A : Option Addr} {n cap : Nat} (h : Rd w (.slice A n cap) xs) (k : Nat) (hk : k < xs.length) :
    ∃ b o, A = some ⟨b, o, none⟩ ∧ b < w.heap.size ∧ w.cell? ⟨b, o + k, none⟩ = some (.string xs[k]) ∧ xs[k].size ≤ 9223372036854775807 := by
  obtain ⟨b, o, cs, rfl, hb, ⟨rfl, hs⟩, hc⟩ := h.at_ k hk
  exact ⟨b, o, rfl, hb, by simpa [show Rp.size ByteArray = 1 from rfl] using hc 0 _ rfl, by unfold maxLen at hs; omega⟩
/-- a cut at the front: 'xs[:k]' -/
theorem Rd.take {α : Type} [Rp α] {xs : List α} {A : Option Addr} {n cap : Nat} (h : Rd w (.slice A n cap) xs) (k : Nat) (hk : k ≤ xs.length) : Rd w (.slice A k cap) (xs.take k) := by
  obtain ⟨A', cap', hv, h1, h2, h3⟩ := rv_list.1 h
  injection hv with hA hn hc
  subst hA hn hc
  have hl : (xs.take k).length = k := by simp; omega
  refine rv_list.2 ⟨A, cap, by rw [hl], by omega, h2, fun h0 => ?_⟩
  obtain ⟨b, o, rfl, hlo, hhi, hc⟩ := h3 (by omega)
  refine ⟨b, o, rfl, hlo, hhi, fun j hj => ?_⟩
  have hj' : j < xs.length := by omega
  obtain ⟨cs, hr, hcs⟩ := hc j hj'
  exact ⟨cs, by simpa using hr, hcs⟩
end

/-- What is read of an argument, in my words. -/
def Opens (α : Type) [Rp α] (P : Program) (t : TypeId) : Prop :=
  ∀ (H : Type) (enc : TypeId × Value → H) (w : World) (base : Nat) (spare : Nat → Bool) (held : Bool) (fuel : Nat) (cs : List Value) (y : DataW H × List MemPlace),
    DataW.trod enc P w base spare held fuel t cs = some y → ∃ x : α, Rp.rp w 0 w.heap.size cs x
theorem opens_int {P : Program} {t : TypeId} (ht : P.underlying t = some (.int .i64)) : Opens Int P t := by
  intro H enc w base spare held fuel cs y h
  obtain ⟨n, rfl, _, hw⟩ := DataW.trod_int ht h
  exact ⟨n, rfl, hw⟩
theorem opens_bool {P : Program} {t : TypeId} (ht : P.underlying t = some .bool) : Opens Bool P t := by
  intro H enc w base spare held fuel cs y h
  obtain ⟨n, rfl, _⟩ := DataW.trod_bool ht h
  exact ⟨n, rfl⟩
theorem opens_str {P : Program} {t : TypeId} (ht : P.underlying t = some .string) : Opens ByteArray P t := by
  intro H enc w base spare held fuel cs y h
  obtain ⟨s, rfl, _, hw⟩ := DataW.trod_string ht h
  exact ⟨s, rfl, hw⟩
theorem add_at (b o i : Nat) : (⟨b, o, none⟩ : Addr).add i = ⟨b, o + i, none⟩ := by
  unfold Addr.add; split <;> simp_all
theorem opens_slice {α : Type} [Rp α] {P : Program} {t e : TypeId} (ht : P.underlying t = some (.slice e)) (hC : P.cellsOf e = Rp.size α) (hpos : 0 < Rp.size α) (he : Opens α P e) : Opens (List α) P t := by
  intro H enc w base spare held fuel cs y h
  rcases open_slice ht h with ⟨rfl, _⟩ | ⟨a, len, cap, m, n, D, Pl, rfl, hb, hl, hm, hmm, _, hi⟩
  · exact ⟨[], _, rfl, rv_list.1 rd_nil⟩
  have hlm : len ≤ m := by rw [hmm]; split <;> omega
  have hel : ∀ i, i < len → ∃ (x : α) (cs' : List Value), Rp.rp w 0 w.heap.size cs' x ∧ ∀ j u, cs'[j]? = some u → w.cell? ((a.add (i * Rp.size α)).add j) = some u := by
    intro i hlt
    obtain ⟨cs', h1, h2⟩ := hi i (by omega)
    obtain ⟨x, hx⟩ := he H enc w base spare held n cs' _ h2
    obtain ⟨_, hlen, hat⟩ := World.cells?_some h1
    rw [hC] at hat hlen
    exact ⟨x, cs', hx, fun j u hu => by rw [hat j (by rw [← hlen]; exact (List.getElem?_eq_some_iff.1 hu).1)]; exact hu⟩
  rcases Nat.eq_zero_or_pos len with rfl | hpos'
  · exact ⟨[], _, rfl, some a, cap, rfl, by simp, hm, fun h => absurd h (by simp)⟩
  · obtain ⟨b, off, spot⟩ := a
    have hx0 := hel 0 hpos'
    have hspot : spot = none := by
      obtain ⟨x, cs', hx, hc⟩ := hx0
      have hlen := Rp.len hx
      have h0 := hc 0 (cs'[0]'(by omega)) (List.getElem?_eq_getElem _)
      simpa [Addr.add] using World.cell?_spot h0
    subst hspot
    have hblt : b < w.heap.size := by
      obtain ⟨x, cs', hx, hc⟩ := hx0
      have hlen := Rp.len hx
      have h0 := hc 0 (cs'[0]'(by omega)) (List.getElem?_eq_getElem _)
      rw [add_at, add_at] at h0
      exact World.block_lt_of_cell? w _ h0
    obtain ⟨xs, hxl, hxs⟩ : ∃ xs : List α, xs.length = len ∧ ∀ i (h : i < xs.length), ∃ cs', Rp.rp w 0 w.heap.size cs' xs[i] ∧ ∀ j u, cs'[j]? = some u → w.cell? ⟨b, off + i * Rp.size α + j, none⟩ = some u := by
      clear hx0 hpos' hlm hi hmm
      have : ∀ k, k ≤ len → ∃ xs : List α, xs.length = k ∧ ∀ i (h : i < xs.length), ∃ cs', Rp.rp w 0 w.heap.size cs' xs[i] ∧ ∀ j u, cs'[j]? = some u → w.cell? ⟨b, off + i * Rp.size α + j, none⟩ = some u := by
        intro k
        induction k with
        | zero => intro _; exact ⟨[], rfl, fun i h => absurd h (by simp)⟩
        | succ k ih =>
          intro hk
          obtain ⟨xs, hxl, hxs⟩ := ih (by omega)
          obtain ⟨x, cs', hx, hc⟩ := hel k (by omega)
          refine ⟨xs ++ [x], by simp [hxl], fun i h => ?_⟩
          by_cases hi : i < xs.length
          · obtain ⟨cs2, h2, h3⟩ := hxs i hi
            exact ⟨cs2, by rw [List.getElem_append_left hi]; exact h2, h3⟩
          · obtain rfl : i = k := by simp at h; omega
            refine ⟨cs', ?_, fun j u hu => ?_⟩
            · rw [List.getElem_append_right (by omega)]
              simpa using hx
            · have := hc j u hu
              rwa [add_at, add_at] at this
      exact this len (Nat.le_refl _)
    exact ⟨xs, _, rfl, _, cap, by rw [hxl], by omega, hm, fun _ => ⟨b, off, rfl, Nat.zero_le _, hblt, hxs⟩⟩

theorem rd_of_trod {α : Type} [Rp α] {P : Program} {t : TypeId} (h : Opens α P t) {H : Type} {enc : TypeId × Value → H} {w : World} {base : Nat} {spare : Nat → Bool} {held : Bool} {v : Value} {d : DataW H} {ps : List MemPlace}
    (hd : DataW.Trod enc P w base spare held t v d ps) (hv : v = ofCells (Rp.agg α) v.cells.toList) : ∃ x : α, Rd w v x := by
  obtain ⟨fuel, hf⟩ := hd
  obtain ⟨x, hx⟩ := h _ _ _ _ _ _ _ _ _ hf
  exact ⟨x, _, hx, hv⟩
end Go.Proofs.YtfbbbgonapgfiaaDoor
