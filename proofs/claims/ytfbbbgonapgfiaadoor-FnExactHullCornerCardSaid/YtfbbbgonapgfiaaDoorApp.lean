/- My own words for a slice of the call's own that grows by append, its elements flat. No condition of its own. -/
import Derived.Test.YtfbbbgonapgfiaaDoorOwn
import Derived.Maps.AppendAt
import Derived.OwnWalk
namespace Go.Proofs.YtfbbbgonapgfiaaDoor
set_option linter.unusedSimpArgs false
set_option linter.unusedVariables false
open Go.RowKit Go.ChangeShapes Go.WideShapes Go.Deep

class Fl (α : Type) extends Ow α where
  fl : α → List Value
  fl_ok : α → Prop
  fl_len : ∀ x : α, (fl x).length = Rp.size α
  fl_one : ∀ x : α, ∀ u ∈ fl x, u.oneCell' = true
  fl_ow : ∀ {w : World} {x : α}, fl_ok x → Ow.ow w [] (fl x) x
instance : Fl Int where
  fl n := [.int .i64 n]
  fl_ok n := I64 n
  fl_len _ := rfl
  fl_one := by intro x u hu; simp at hu; subst hu; rfl
  fl_ow h := ⟨rfl, rfl, h⟩
instance : Fl Bool where
  fl n := [.bool n]
  fl_ok _ := True
  fl_len _ := rfl
  fl_one := by intro x u hu; simp at hu; subst hu; rfl
  fl_ow _ := ⟨rfl, rfl⟩
instance : Fl ByteArray where
  fl s := [.string s]
  fl_ok s := s.size ≤ 9223372036854775807
  fl_len _ := rfl
  fl_one := by intro x u hu; simp at hu; subst hu; rfl
  fl_ow h := ⟨rfl, rfl, by unfold maxLen; omega⟩

theorem flat_len {α : Type} [Fl α] (ys : List α) : (ys.flatMap Fl.fl).length = ys.length * Rp.size α := by
  induction ys with
  | nil => simp
  | cons y ys ih => rw [List.flatMap_cons, List.length_append, ih, Fl.fl_len, List.length_cons, Nat.add_mul]; omega
theorem flat_get {α : Type} [Fl α] (ys : List α) : ∀ (k : Nat) (h : k < ys.length) (j : Nat) (u : Value), (Fl.fl ys[k])[j]? = some u → (ys.flatMap Fl.fl)[k * Rp.size α + j]? = some u := by
  induction ys with
  | nil => intro k h; simp at h
  | cons y ys ih =>
    intro k h j u hu
    rw [List.flatMap_cons]
    cases k with
    | zero =>
      have hj : j < (Fl.fl y).length := (List.getElem?_eq_some_iff.1 hu).1
      rw [List.getElem?_append_left (by simpa using hj)]
      simpa using hu
    | succ k =>
      have := ih k (by simpa using h) j u (by simpa using hu)
      rw [List.getElem?_append_right (by rw [Fl.fl_len, Nat.succ_mul]; omega), Fl.fl_len, show (k + 1) * Rp.size α + j - Rp.size α = k * Rp.size α + j by rw [Nat.succ_mul]; omega]
      exact this

/-- A slice that grows by append: nil, or a row of the call's own from block 'base' on. -/
structure App {α : Type} [Fl α] (w : World) (base : Nat) (e : TypeId) (v : Value) (ys : List α) : Prop where
  row : w.ownsRow base e (Rp.size α) v ys.length (ys.flatMap Fl.fl)
  ok : ∀ y ∈ ys, Fl.fl_ok y
section
variable {α : Type} [Fl α] {w w' : World} {base : Nat} {e : TypeId} {v : Value} {ys : List α}
theorem App.nil (w : World) (base : Nat) (e : TypeId) : App w base e (.slice none 0 0) ([] : List α) := ⟨by simpa using World.ownsRow_nil w base e (Rp.size α), by simp⟩
theorem App.up (h : App w base e v ys) (he : Ext w w') : App w' base e v ys :=
  ⟨h.row.kept (row := none) ⟨he.below.os, he.below.tape, he.below.output, he.size, fun k hk _ => he.below.block k hk⟩ (by cases hv : v.ownBlock <;> simp), h.ok⟩
theorem App.own (h : App w base e v ys) : ∃ S, Own w S v ys ∧ S.Nodup ∧ (∀ b ∈ S, base ≤ b ∧ b < w.heap.size) := by
  obtain ⟨h1, h2⟩ := h.row
  rcases h2 with ⟨rfl, hn⟩ | ⟨g, cap, cur, rfl, hb, hg, hle, hm, hsz, htk⟩
  · have hy : ys = [] := List.eq_nil_of_length_eq_zero hn
    subst hy
    exact ⟨[], own_list.2 ⟨none, 0, rfl, Nat.le_refl _, by simp [maxLen], .inl ⟨rfl, rfl⟩⟩, by simp, by simp⟩
  · have hlt : g < w.heap.size := (Array.getElem?_eq_some_iff.1 hg).1
    refine ⟨[g], own_list.2 ⟨_, cap, rfl, hle, hm, .inr ⟨g, cur, e, List.replicate ys.length [], rfl, hg, by simp, by simp, fun k hk hk' => ?_⟩⟩, by simp, by simpa using ⟨hb, hlt⟩⟩
    refine ⟨Fl.fl ys[k], ?_, fun j u hu => ?_⟩
    · simpa using Fl.fl_ow (h.ok _ (List.getElem_mem hk))
    · have := flat_get ys k hk j u hu
      rw [← htk, List.getElem?_take] at this
      split at this
      · simpa using this
      · cases this
theorem App.rd (h : App w base e v ys) : Rd w v ys := by
  obtain ⟨S, ho, _, hb⟩ := h.own
  exact ho.rv fun b hbm => ⟨Nat.zero_le _, (hb b hbm).2⟩
theorem App.fresh {w0 : World} (h : App w w0.heap.size e v ys) : Fresh w0 w v ys := by
  obtain ⟨S, ho, hn, hb⟩ := h.own
  exact ⟨S, ho, hn, fun b hm => (hb b hm).1, fun b hm => (hb b hm).2⟩
theorem App.form (h : App w base e v ys) : ∃ A cap, v = .slice A ys.length cap := by
  rcases h.row.2 with ⟨rfl, hn⟩ | ⟨g, cap, cur, rfl, _⟩
  · exact ⟨none, 0, by rw [hn]⟩
  · exact ⟨_, cap, rfl⟩
theorem App.blk (h : App w base e v ys) : ∀ k, v.ownBlock = some k → base ≤ k := fun k hk => (h.row.lt k hk).1
theorem App.base_le (h : App w base e v ys) {base' : Nat} (hb : base' ≤ base) : App w base' e v ys := by
  refine ⟨⟨h.row.1, ?_⟩, h.ok⟩
  rcases h.row.2 with h2 | ⟨g, cap, cur, hv, hg, r⟩
  · exact .inl h2
  · exact .inr ⟨g, cap, cur, hv, by omega, r⟩
end
theorem Ext.thru {a w w' : World} (h : Ext a w) {row : Option Nat} (hg : w.grownBy w' row) (hr : ∀ k, row = some k → a.heap.size ≤ k) : Ext a w' := h.grown hg hr

/-- 'ys = append(ys, y)': the new element stands in a block of its own that has just been made. -/
theorem wpList_app {P : Program} {α : Type} [Fl α] {ops : Array Oper} {rest : List Oper} {o : Oper} {a : Act} {Q : Exit → Act → World → Prop} (hgd : o.guard = none) (s x : Operand) (t : TypeId)
    (ho : o.op = .call { callee := .builtin .append, args := #[s, x], argTypes := #[t, t] }) (e : TypeId) (ht : P.underlying t = some (.slice e))
    (hinfo : (P.info? e).map (fun i => (i.zero.map (fun z => z.cells.size), i.size, decide (i.bytes ≤ 256))) = some (some (Rp.size α), Rp.size α, true)) (hpos : 0 < Rp.size α)
    (w : World) (base : Nat) (v : Value) (ys : List α) (y : α) (hs : a.eval s = v) (h : App w base e v ys) (hy : Fl.fl_ok y) (te : TypeId)
    (hx : a.eval x = .slice (some ⟨w.heap.size, 0, none⟩) 1 1) (hn : ys.length ≤ 1048576) (hbase : base ≤ w.heap.size)
    (hK : ∀ v' w', App w' base e v' (ys ++ [y]) → (∀ w0, Ext w0 w → w0.heap.size ≤ base → Ext w0 w') → w.grownBy w' v.ownBlock → wpList P ops Q rest (a.put o.dst v') w') :
    wpList P ops Q (o :: rest) a (w.alloc (.cells (Fl.fl y).toArray te)) := by
  obtain ⟨i, hi, hzz⟩ := Option.map_eq_some_iff.1 hinfo
  simp only [Prod.mk.injEq, decide_eq_true_eq] at hzz
  obtain ⟨hz1, hsz, hby⟩ := hzz
  obtain ⟨z, hz, hzc⟩ := Option.map_eq_some_iff.1 hz1
  have hbytes : (ys.length + 1) * i.bytes ≤ 140737488355328 := by
    have : (ys.length + 1) * i.bytes ≤ 1048577 * 256 := Nat.mul_le_mul (by omega) hby
    omega
  refine wpList_append_own_at (w.alloc (.cells (Fl.fl y).toArray te)) hgd s x t ho base e i z (Rp.size α) i.bytes ht hi hz hsz rfl hzc hpos v ys.length (ys.flatMap Fl.fl) hs (h.row.alloc _)
    ⟨w.heap.size, 0, none⟩ 1 1 (Fl.fl y) hx (by rw [Fl.fl_len]; omega) (fun j u hu => ?_) (Fl.fl_one y) (by unfold maxLen; omega) hbytes (by simp; omega) ?_
  · have hcell : (w.alloc (.cells (Fl.fl y).toArray te)).heap[w.heap.size]? = some (.cells (Fl.fl y).toArray te (0, 0)) := heap_alloc_new w _
    rw [add_at, cell_of_cells hcell]
    simpa using hu
  · intro v' w' hrow hg _ _
    have hrow' : w'.ownsRow base e (Rp.size α) v' (ys ++ [y]).length ((ys ++ [y]).flatMap Fl.fl) := by
      simpa [List.flatMap_append] using hrow
    refine hK v' w' ⟨hrow', fun y' hy' => ?_⟩ (fun w0 he hb => (he.alloc _).grown hg fun k hk => by have := h.blk k hk; omega) ⟨hg.os, hg.tape, hg.output, by have := hg.size; simp at this; omega, fun k hk hne => ?_⟩
    · rcases List.mem_append.1 hy' with hm | hm
      · exact h.ok _ hm
      · simp at hm; subst hm; exact hy
    · rw [hg.block k (by simp; omega) hne]
      exact Below.heap_alloc w _ k hk
end Go.Proofs.YtfbbbgonapgfiaaDoor
