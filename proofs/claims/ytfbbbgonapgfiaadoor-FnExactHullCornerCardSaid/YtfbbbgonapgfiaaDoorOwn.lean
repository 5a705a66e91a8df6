/- My own words for memory that a call made itself: 'Own' (a value whose slices lie in blocks of its own, told one by one), 'Fresh' (all of them new). No condition of its own. -/
import Derived.Test.YtfbbbgonapgfiaaDoorBase
namespace Go.Proofs.YtfbbbgonapgfiaaDoor
set_option linter.unusedSimpArgs false
set_option linter.unusedVariables false
open Go.RowKit Go.ChangeShapes Go.WideShapes Go.Deep

class Ow (α : Type) extends Rp α where
  ow : World → List Nat → List Value → α → Prop
  ow_rp : ∀ {w S lo hi cs a}, ow w S cs a → (∀ b ∈ S, lo ≤ b ∧ b < hi) → Rp.rp w lo hi cs a
  ow_keep : ∀ {w w' S cs a}, ow w S cs a → (∀ b ∈ S, w'.heap[b]? = w.heap[b]?) → ow w' S cs a

/-- A slice of the call's own: its block, and its elements' blocks. -/
def OSl {α : Type} [Ow α] (w : World) (S : List Nat) (v : Value) (xs : List α) : Prop :=
  ∃ A cap, v = .slice A xs.length cap ∧ xs.length ≤ cap ∧ cap ≤ maxLen ∧
    ((xs = [] ∧ S = []) ∨ ∃ (b : Nat) (cur : Array Value) (e : TypeId) (Ss : List (List Nat)), A = some ⟨b, 0, none⟩ ∧ w.heap[b]? = some (.cells cur e (0, 0)) ∧ S = b :: Ss.flatten ∧ Ss.length = xs.length ∧
      ∀ k (h : k < xs.length) (h' : k < Ss.length), ∃ cs, Ow.ow w Ss[k] cs xs[k] ∧ ∀ j u, cs[j]? = some u → cur[k * Rp.size α + j]? = some u)

theorem mem_flatten_get {Ss : List (List Nat)} {k : Nat} (h : k < Ss.length) {b : Nat} (hb : b ∈ Ss[k]) : b ∈ Ss.flatten := List.mem_flatten.2 ⟨_, List.getElem_mem h, hb⟩

theorem cell_of_cells {w : World} {g : Nat} {cs : Array Value} {t : TypeId} {fr : Nat × Nat} (h : w.heap[g]? = some (.cells cs t fr)) (i : Nat) : w.cell? ⟨g, i, none⟩ = cs[i]? := by simp [World.cell?, h]

section
variable {α : Type} [Ow α] {w w' : World} {S : List Nat} {lo hi : Nat} {v : Value} {xs : List α}
theorem OSl.rsl (h : OSl w S v xs) (hS : ∀ b ∈ S, lo ≤ b ∧ b < hi) : RSl w lo hi v xs := by
  obtain ⟨A, cap, rfl, h1, h2, h3⟩ := h
  refine ⟨A, cap, rfl, h1, h2, fun h0 => ?_⟩
  rcases h3 with ⟨rfl, _⟩ | ⟨b, cur, e, Ss, rfl, hb, rfl, hl, hc⟩
  · exact absurd h0 (by simp)
  refine ⟨b, 0, rfl, (hS b (by simp)).1, (hS b (by simp)).2, fun k hk => ?_⟩
  obtain ⟨cs, ho, hcs⟩ := hc k hk (by omega)
  refine ⟨cs, Ow.ow_rp ho fun b' hb' => hS b' (List.mem_cons_of_mem _ (mem_flatten_get (by omega) hb')), fun j u hu => ?_⟩
  rw [cell_of_cells hb, show 0 + k * Rp.size α + j = k * Rp.size α + j by omega]
  exact hcs j u hu
theorem OSl.keep (h : OSl w S v xs) (hk : ∀ b ∈ S, w'.heap[b]? = w.heap[b]?) : OSl w' S v xs := by
  obtain ⟨A, cap, rfl, h1, h2, h3⟩ := h
  refine ⟨A, cap, rfl, h1, h2, ?_⟩
  rcases h3 with h3 | ⟨b, cur, e, Ss, rfl, hb, rfl, hl, hc⟩
  · exact .inl h3
  refine .inr ⟨b, cur, e, Ss, rfl, (hk b (by simp)).trans hb, rfl, hl, fun k h h' => ?_⟩
  obtain ⟨cs, ho, hcs⟩ := hc k h h'
  exact ⟨cs, Ow.ow_keep ho fun b' hb' => hk b' (List.mem_cons_of_mem _ (mem_flatten_get h' hb')), hcs⟩
end
instance {α : Type} [Ow α] : Ow (List α) where
  ow w S cs xs := ∃ v, cs = [v] ∧ OSl w S v xs
  ow_rp := by rintro _ _ _ _ _ _ ⟨v, rfl, h⟩ hS; exact ⟨v, rfl, h.rsl hS⟩
  ow_keep := by rintro _ _ _ _ _ ⟨v, rfl, h⟩ hk; exact ⟨v, rfl, h.keep hk⟩
instance : Ow Int where
  ow w S cs n := S = [] ∧ cs = [.int .i64 n] ∧ I64 n
  ow_rp := by rintro _ _ _ _ _ _ ⟨rfl, h⟩ _; exact h
  ow_keep := by rintro _ _ _ _ _ h _; exact h
instance : Ow Bool where
  ow w S cs n := S = [] ∧ cs = [.bool n]
  ow_rp := by rintro _ _ _ _ _ _ ⟨rfl, h⟩ _; exact h
  ow_keep := by rintro _ _ _ _ _ h _; exact h
instance : Ow ByteArray where
  ow w S cs s := S = [] ∧ cs = [.string s] ∧ s.size ≤ maxLen
  ow_rp := by rintro _ _ _ _ _ _ ⟨rfl, h⟩ _; exact h
  ow_keep := by rintro _ _ _ _ _ h _; exact h

/-- A value of the call's own. -/
def Own {α : Type} [Ow α] (w : World) (S : List Nat) (v : Value) (x : α) : Prop := ∃ cs, Ow.ow w S cs x ∧ v = ofCells (Rp.agg α) cs
/-- New blocks, each named once. -/
structure News (w w' : World) (S : List Nat) : Prop where
  nodup : S.Nodup
  low : ∀ b ∈ S, w.heap.size ≤ b
  high : ∀ b ∈ S, b < w'.heap.size
/-- A value in new memory. -/
def Fresh {α : Type} [Ow α] (w w' : World) (v : Value) (x : α) : Prop := ∃ S, Own w' S v x ∧ News w w' S

theorem News.nil (w w' : World) : News w w' [] := ⟨by simp, by simp, by simp⟩
theorem News.up {w w' w'' : World} {S : List Nat} (h : News w w' S) (e : w'.heap.size ≤ w''.heap.size) : News w w'' S := ⟨h.nodup, h.low, fun b hb => by have := h.high b hb; omega⟩
theorem News.down {w w' w'' : World} {S : List Nat} (h : News w' w'' S) (e : w.heap.size ≤ w'.heap.size) : News w w'' S := ⟨h.nodup, fun b hb => by have := h.low b hb; omega, h.high⟩
theorem News.perm {w w' : World} {S T : List Nat} (h : News w w' S) (e : S = T) : News w w' T := e ▸ h
theorem News.append {w w1 w2 w3 : World} {S T : List Nat} (h : News w w1 S) (k : News w2 w3 T) (e1 : w.heap.size ≤ w2.heap.size) (e : w1.heap.size ≤ w2.heap.size) (e2 : w2.heap.size ≤ w3.heap.size) : News w w3 (S ++ T) := by
  refine ⟨?_, ?_, ?_⟩
  · rw [List.nodup_append]
    exact ⟨h.nodup, k.nodup, fun a ha b hb => by have := h.high a ha; have := k.low b hb; omega⟩
  · intro b hb
    rcases List.mem_append.1 hb with hb | hb
    · exact h.low b hb
    · have := k.low b hb; omega
  · intro b hb
    rcases List.mem_append.1 hb with hb | hb
    · have := h.high b hb; omega
    · exact k.high b hb

section
variable {α : Type} [Ow α] {w w' w'' : World} {S : List Nat} {lo hi : Nat} {v : Value} {x : α} {xs : List α}
theorem Own.keep (h : Own w S v x) (hk : ∀ b ∈ S, w'.heap[b]? = w.heap[b]?) : Own w' S v x := by
  obtain ⟨cs, h, hv⟩ := h
  exact ⟨cs, Ow.ow_keep h hk, hv⟩
theorem Own.rv (h : Own w S v x) (hS : ∀ b ∈ S, lo ≤ b ∧ b < hi) : RV w lo hi v x := by
  obtain ⟨cs, h, hv⟩ := h
  exact ⟨cs, Ow.ow_rp h hS, hv⟩
theorem own_list : Own w S v xs ↔ OSl w S v xs := by
  constructor
  · rintro ⟨cs, ⟨u, rfl, h⟩, rfl⟩; exact h
  · intro h; exact ⟨_, ⟨v, rfl, h⟩, rfl⟩
theorem Fresh.rv (h : Fresh w w' v x) : RV w' w.heap.size w'.heap.size v x := by
  obtain ⟨S, h, hn⟩ := h
  exact h.rv fun b hb => ⟨hn.low b hb, hn.high b hb⟩
theorem Fresh.rd (h : Fresh w w' v x) : Rd w' v x := h.rv.rd (Nat.le_refl _)
theorem Fresh.up (h : Fresh w w' v x) (e : Ext w' w'') : Fresh w w'' v x := by
  obtain ⟨S, h, hn⟩ := h
  exact ⟨S, h.keep fun b hb => e.below.block b (hn.high b hb), hn.up e.size⟩
theorem Fresh.down (h : Fresh w' w'' v x) (e : Ext w w') : Fresh w w'' v x := by
  obtain ⟨S, h, hn⟩ := h
  exact ⟨S, h, hn.down e.size⟩
end

/-- From block lo on nothing that was there has turned. -/
structure Keep (lo : Nat) (w w' : World) : Prop where
  size : w.heap.size ≤ w'.heap.size
  block : ∀ k, lo ≤ k → k < w.heap.size → w'.heap[k]? = w.heap[k]?
theorem Keep.refl (lo : Nat) (w : World) : Keep lo w w := ⟨Nat.le_refl _, fun _ _ _ => rfl⟩
theorem Keep.trans {lo : Nat} {a b c : World} (h : Keep lo a b) (k : Keep lo b c) : Keep lo a c :=
  ⟨Nat.le_trans h.size k.size, fun i h1 h2 => (k.block i h1 (by have := h.size; omega)).trans (h.block i h1 h2)⟩
theorem Keep.ext {lo : Nat} {a b c : World} (h : Keep lo a b) (k : Ext b c) : Keep lo a c := h.trans ⟨k.size, fun i _ h2 => k.below.block i h2⟩
theorem Keep.alloc {lo : Nat} {a b : World} (h : Keep lo a b) (o : Obj) : Keep lo a (b.alloc o) := h.ext ((Ext.refl _).alloc o)
theorem Keep.drew {lo : Nat} {a b : World} (h : Keep lo a b) : Keep lo a b.drew := h.ext (Ext.refl _).drew
theorem Keep.setCell {lo : Nat} {a b : World} (h : Keep lo a b) {p : Addr} (hp : p.block < lo) (u : Value) : Keep lo a (b.setCell p u) :=
  h.trans ⟨by simp, fun i h1 _ => Below.heap_setCell _ _ _ _ (by omega)⟩
theorem Own.since {α : Type} [Ow α] {w w' : World} {S : List Nat} {v : Value} {x : α} {lo : Nat} (h : Own w S v x) (hb : ∀ b ∈ S, lo ≤ b ∧ b < w.heap.size) (k : Keep lo w w') : Own w' S v x :=
  h.keep fun b hm => k.block b (hb b hm).1 (hb b hm).2

/-- so many cells stored, one behind the other -/
def putCells (w : World) (b : Nat) : Nat → List Value → World
  | _, [] => w
  | o, c :: cs => putCells (w.setCell ⟨b, o, none⟩ c) b (o + 1) cs
theorem size_putCells (b : Nat) (cs : List Value) : ∀ (w : World) (o : Nat), (putCells w b o cs).heap.size = w.heap.size := by
  induction cs with
  | nil => intro w o; rfl
  | cons c cs ih => intro w o; simp [putCells, ih]
theorem heap_setCell_at {w : World} {g i : Nat} {cs : Array Value} {t : TypeId} (h : w.heap[g]? = some (.cells cs t (0, 0))) (v : Value) : (w.setCell ⟨g, i, none⟩ v).heap[g]? = some (.cells (cs.setIfInBounds i v) t (0, 0)) := by
  simp [World.setCell, Array.getElem?_modify, h]
theorem putCells_at {g : Nat} {t : TypeId} (cs : List Value) : ∀ (w : World) (o : Nat) (cur : Array Value), w.heap[g]? = some (.cells cur t (0, 0)) →
    ∃ cur' : Array Value, (putCells w g o cs).heap[g]? = some (.cells cur' t (0, 0)) ∧ cur'.size = cur.size ∧ (∀ i, (i < o ∨ o + cs.length ≤ i) → cur'[i]? = cur[i]?) ∧ ∀ j u, cs[j]? = some u → o + j < cur.size → cur'[o + j]? = some u := by
  induction cs with
  | nil => intro w o cur h; exact ⟨cur, h, rfl, fun _ _ => rfl, fun j u hu => by simp at hu⟩
  | cons c cs ih =>
    intro w o cur h
    obtain ⟨cur', h1, h2, h3, h4⟩ := ih _ (o + 1) _ (heap_setCell_at (i := o) h c)
    refine ⟨cur', h1, by rw [h2]; simp, fun i hi => ?_, fun j u hu hlt => ?_⟩
    · rw [h3 i (by simp only [List.length_cons] at hi; omega), Array.getElem?_setIfInBounds]
      rw [if_neg (by simp only [List.length_cons] at hi; omega)]
    · cases j with
      | zero =>
        simp at hu
        subst hu
        rw [h3 (o + 0) (by omega)]
        simp [Array.getElem?_setIfInBounds]; omega
      | succ j =>
        have := h4 j u (by simpa using hu) (by simp; omega)
        rw [show o + (j + 1) = o + 1 + j by omega]
        exact this
theorem heap_putCells (b : Nat) (cs : List Value) : ∀ (w : World) (o k : Nat), k ≠ b → (putCells w b o cs).heap[k]? = w.heap[k]? := by
  induction cs with
  | nil => intro w o k _; rfl
  | cons c cs ih => intro w o k hk; rw [putCells, ih _ _ _ hk]; exact Below.heap_setCell _ _ _ _ (by simpa using hk)

/-- A made slice that is being filled, element by element; 'w0': the world before it was made; its block: the first new one. -/
structure Filled {α : Type} [Ow α] (w0 : World) (e : TypeId) (n : Nat) (xs : List α) (k : Nat) (wr : World) : Prop where
  ext : Ext w0 wr
  parts : ∃ (cur : Array Value) (Ss : List (List Nat)), wr.heap[w0.heap.size]? = some (.cells cur e (0, 0)) ∧ cur.size = n * Rp.size α ∧ Ss.length = k ∧ Ss.flatten.Nodup ∧ (∀ b ∈ Ss.flatten, w0.heap.size < b ∧ b < wr.heap.size) ∧
    ∀ j (h : j < xs.length) (h' : j < Ss.length), ∃ cs, Ow.ow wr Ss[j] cs xs[j] ∧ ∀ i u, cs[i]? = some u → cur[j * Rp.size α + i]? = some u
theorem Filled.start {α : Type} [Ow α] (w0 : World) (e : TypeId) (n : Nat) (xs : List α) (cur : Array Value) (hc : cur.size = n * Rp.size α) : Filled w0 e n xs 0 (w0.alloc (.cells cur e)) :=
  ⟨(Ext.refl _).alloc _, cur, [], heap_alloc_new w0 _, hc, rfl, by simp, by simp, fun j _ h' => absurd h' (by simp)⟩
theorem Filled.cell {α : Type} [Ow α] {w0 : World} {e : TypeId} {n k : Nat} {xs : List α} {wr : World} (h : Filled w0 e n xs k wr) (i : Nat) (hi : i < n * Rp.size α) :
    (∃ v, wr.cell? ⟨w0.heap.size, i, none⟩ = some v) ∧ wr.frozen? ⟨w0.heap.size, i, none⟩ = false := by
  obtain ⟨cur, Ss, h1, h2, _⟩ := h.parts
  rw [cell_of_cells h1]
  exact ⟨⟨cur[i]'(by omega), Array.getElem?_eq_getElem _⟩, by simp [World.frozen?, h1]⟩
theorem Filled.up {α : Type} [Ow α] {w0 : World} {e : TypeId} {n k : Nat} {xs : List α} {wr w1 : World} (h : Filled w0 e n xs k wr) (he : Ext wr w1) : Filled w0 e n xs k w1 := by
  refine ⟨h.ext.trans he, ?_⟩
  obtain ⟨cur, Ss, h1, h2, h3, h4, h5, h6⟩ := h.parts
  have hlt : w0.heap.size < wr.heap.size := by
    rcases Nat.lt_or_ge w0.heap.size wr.heap.size with hlt | hge
    · exact hlt
    · rw [Array.getElem?_eq_none hge] at h1; cases h1
  refine ⟨cur, Ss, (he.below.block _ hlt).trans h1, h2, h3, h4, fun b hb => ⟨(h5 b hb).1, by have := (h5 b hb).2; have := he.size; omega⟩, fun j hj hj' => ?_⟩
  obtain ⟨cs, ho, hcs⟩ := h6 j hj hj'
  exact ⟨cs, Ow.ow_keep ho fun b hb => he.below.block b (h5 b (mem_flatten_get hj' hb)).2, hcs⟩
/-- One element more: what a call made in new memory is stored. -/
theorem Filled.step {α : Type} [Ow α] {w0 : World} {e : TypeId} {n k : Nat} {xs : List α} {wr w1 : World} {S : List Nat} {cs : List Value} (h : Filled w0 e n xs k wr) (he : Ext wr w1) (hk : k < xs.length) (hn : xs.length ≤ n)
    (ho : Ow.ow w1 S cs xs[k]) (hS : News wr w1 S) : Filled w0 e n xs (k + 1) (putCells w1 w0.heap.size (k * Rp.size α) cs) := by
  obtain ⟨cur, Ss, h1, h2, h3, h4, h5, h6⟩ := (h.up he).parts
  obtain ⟨cur0, Ss0, h10, h20, h30, h40, h50, h60⟩ := h.parts
  have hlt : w0.heap.size < wr.heap.size := by
    rcases Nat.lt_or_ge w0.heap.size wr.heap.size with hlt | hge
    · exact hlt
    · rw [Array.getElem?_eq_none hge] at h10; cases h10
  obtain ⟨cur', g1, g2, g3, g4⟩ := putCells_at cs w1 (k * Rp.size α) cur h1
  have hlen : cs.length = Rp.size α := Rp.len (Ow.ow_rp (lo := 0) (hi := w1.heap.size) ho fun b hb => ⟨Nat.zero_le _, hS.high b hb⟩)
  have hmul : ∀ j, j < n → j * Rp.size α + Rp.size α ≤ n * Rp.size α := fun j hj => by rw [← Nat.succ_mul]; exact Nat.mul_le_mul_right _ hj
  refine ⟨?_, ?_⟩
  · refine ⟨(h.ext.trans he).below.trans ⟨?_, ?_, ?_, by rw [size_putCells]; exact Nat.le_refl _, fun i hi => heap_putCells _ _ _ _ _ (by omega)⟩⟩ <;>
    · generalize k * Rp.size α = o
      clear g1 g2 g3 g4 h1 h2 h6 ho hS hlen h5 he
      induction cs generalizing w1 o with
      | nil => rfl
      | cons c cs ih => rw [putCells, ih]; rfl
  refine ⟨cur', Ss0 ++ [S], g1, by rw [g2, h2], by simp [h30], ?_, ?_, ?_⟩
  · rw [List.flatten_append, List.nodup_append]
    refine ⟨h40, by simpa using hS.nodup, fun a ha b hb => ?_⟩
    have := (h50 a ha).2
    have := hS.low b (by simpa using hb)
    omega
  · intro b hb
    rw [size_putCells]
    rw [List.flatten_append] at hb
    rcases List.mem_append.1 hb with hb | hb
    · have := h50 b hb; have := he.size; omega
    · have := hS.low b (by simpa using hb); have := hS.high b (by simpa using hb); omega
  · intro j hj hj'
    have hne : ∀ b, w0.heap.size < b → (putCells w1 w0.heap.size (k * Rp.size α) cs).heap[b]? = w1.heap[b]? := fun b hb => heap_putCells _ _ _ _ _ (by omega)
    by_cases hjk : j < Ss0.length
    · obtain ⟨cs2, ho2, hcs2⟩ := h60 j hj hjk
      refine ⟨cs2, ?_, fun i u hu => ?_⟩
      · rw [List.getElem_append_left hjk]
        exact Ow.ow_keep ho2 fun b hb => (hne b (h50 b (mem_flatten_get hjk hb)).1).trans (he.below.block b (h50 b (mem_flatten_get hjk hb)).2)
      · have hl2 : cs2.length = Rp.size α := Rp.len (Ow.ow_rp (lo := 0) (hi := wr.heap.size) ho2 fun b hb => ⟨Nat.zero_le _, (h50 b (mem_flatten_get hjk hb)).2⟩)
        have hi : i < Rp.size α := by have := (List.getElem?_eq_some_iff.1 hu).1; omega
        have := hmul j (by omega)
        have hjle : j * Rp.size α + Rp.size α ≤ k * Rp.size α := by rw [← Nat.succ_mul]; exact Nat.mul_le_mul_right _ (by omega)
        rw [g3 _ (by omega)]
        have e0 := hcs2 i u hu
        have : cur = cur0 := by
          have e1 := (he.below.block _ hlt).trans h10
          rw [h1] at e1
          injection e1 with e1
          injection e1
        rw [this]
        exact e0
    · obtain rfl : j = k := by simp at hj'; omega
      refine ⟨cs, ?_, fun i u hu => ?_⟩
      · rw [List.getElem_append_right (by omega)]
        simp only [h30, Nat.sub_self, List.getElem_cons_zero]
        exact Ow.ow_keep ho fun b hb => hne b (by have := hS.low b hb; omega)
      · have := hmul j (by omega)
        have hi : i < Rp.size α := by have := (List.getElem?_eq_some_iff.1 hu).1; omega
        exact g4 i u hu (by rw [h2]; omega)
/-- Filled to the end: a slice in new memory. -/
theorem Filled.done {α : Type} [Ow α] {w0 : World} {e : TypeId} {n : Nat} {xs : List α} {wr : World} (h : Filled w0 e n xs xs.length wr) (hn : n = xs.length) (hm : n ≤ maxLen) : ∃ S, Own wr S (.slice (some ⟨w0.heap.size, 0, none⟩) n n) xs ∧ News w0 wr S := by
  obtain ⟨cur, Ss, h1, h2, h3, h4, h5, h6⟩ := h.parts
  have hlt : w0.heap.size < wr.heap.size := by
    rcases Nat.lt_or_ge w0.heap.size wr.heap.size with hlt | hge
    · exact hlt
    · rw [Array.getElem?_eq_none hge] at h1; cases h1
  subst hn
  refine ⟨w0.heap.size :: Ss.flatten, own_list.2 ⟨_, _, rfl, Nat.le_refl _, hm, .inr ⟨_, cur, e, Ss, rfl, h1, rfl, h3, h6⟩⟩, ?_, ?_, ?_⟩
  · rw [List.nodup_cons]
    exact ⟨fun hb => by have := (h5 _ hb).1; omega, h4⟩
  · intro b hb
    rcases List.mem_cons.1 hb with rfl | hb
    · exact Nat.le_refl _
    · have := h5 b hb; omega
  · intro b hb
    rcases List.mem_cons.1 hb with rfl | hb
    · exact hlt
    · exact (h5 b hb).2
/-- 'make([]T, n)' at a size within bounds. -/
theorem make_law {P : Program} (t e : TypeId) (size : Nat) (ht : P.underlying t = some (.slice e)) (hinfo : (P.info? e).map (fun i => (i.zero.isSome, i.size, decide (i.bytes ≤ 256))) = some (true, size, true)) (n : Nat) (hn : n ≤ 1048576) :
    ∃ C : Array Value, C.size = n * size ∧ ∀ u : World, (Instr.makeSlice t (.int .i64 n) (.int .i64 n)).run P u = .ok (.slice (some ⟨u.heap.size, 0, none⟩) n n) (u.alloc (.cells C e)) := by
  obtain ⟨i, hi, hzz⟩ := Option.map_eq_some_iff.1 hinfo
  simp only [Prod.mk.injEq, decide_eq_true_eq] at hzz
  obtain ⟨h1, h2, h3⟩ := hzz
  obtain ⟨z, hz⟩ := Option.isSome_iff_exists.1 h1
  refine ⟨madeCells z.cells (n * i.size), by rw [size_madeCells, h2], fun u => ?_⟩
  have hb : (i.bytes : Int) * (n : Int) ≤ 281474976710656 := by
    have h : i.bytes * n ≤ 256 * 1048576 := Nat.mul_le_mul h3 hn
    have h' : ((i.bytes * n : Nat) : Int) ≤ 281474976710656 := by omega
    rwa [Int.natCast_mul] at h'
  have h := run_make (P := P) u t e i z ht hi hz .i64 .i64 (n : Int) (n : Int) (by omega) (Int.le_refl _) hb (by omega)
  simpa using h
theorem Own.up {α : Type} [Ow α] {w w' w0 : World} {S : List Nat} {v : Value} {x : α} (h : Own w S v x) (hn : News w0 w S) (k : Ext w w') : Own w' S v x :=
  h.keep fun b hb => k.below.block b (hn.high b hb)
theorem Own.form {α : Type} [Ow α] {w : World} {S : List Nat} {v : Value} {xs : List α} (h : Own w S v xs) : ∃ A cap, v = .slice A xs.length cap := by
  obtain ⟨A, cap, rfl, _⟩ := own_list.1 h
  exact ⟨A, cap, rfl⟩
end Go.Proofs.YtfbbbgonapgfiaaDoor
