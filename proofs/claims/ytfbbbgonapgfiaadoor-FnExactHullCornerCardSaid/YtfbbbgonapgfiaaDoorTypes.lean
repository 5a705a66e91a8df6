/- The program's plain types as Lean structures, and how they lie in cells. Written by my types.py. No condition of its own. -/
import Derived.Test.YtfbbbgonapgfiaaDoorBase
namespace Go.Proofs.YtfbbbgonapgfiaaDoor
set_option linter.unusedSimpArgs false
set_option linter.unusedVariables false
open Go.RowKit Go.ChangeShapes Go.WideShapes Go.Deep

structure Span where
  early : Int
  late : Int
  deriving Inhabited
instance : Rp Span where
  size := 2
  agg := true
  rp w lo hi cs x := cs = [.int .i64 x.early, .int .i64 x.late] ∧ I64 x.early ∧ I64 x.late
  len := by rintro _ _ _ _ _ ⟨rfl, h0, h1⟩; rfl
  keep := by rintro _ _ _ _ _ _ ⟨rfl, h0, h1⟩ hk; exact ⟨rfl, h0, h1⟩
  more := by rintro _ _ _ _ _ _ _ ⟨rfl, h0, h1⟩ hl hh; exact ⟨rfl, h0, h1⟩
theorem Span.rv {w : World} {lo hi : Nat} {v : Value} {x : Span} : RV w lo hi v x ↔ v = .agg #[.int .i64 x.early, .int .i64 x.late] ∧ I64 x.early ∧ I64 x.late := by
  constructor
  · rintro ⟨_, ⟨rfl, h0, h1⟩, rfl⟩; exact ⟨rfl, h0, h1⟩
  · rintro ⟨rfl, h0, h1⟩; exact ⟨_, ⟨rfl, h0, h1⟩, rfl⟩
theorem Span.rd {w : World} {v : Value} {x : Span} : Rd w v x ↔ v = .agg #[.int .i64 x.early, .int .i64 x.late] ∧ I64 x.early ∧ I64 x.late := Span.rv
theorem Rd.atSpan {w : World} {xs : List Span} {A : Option Addr} {n cap : Nat} (h : Rd w (.slice A n cap) xs) (k : Nat) (hk : k < xs.length) :
    ∃ b o , A = some ⟨b, o, none⟩ ∧ b < w.heap.size ∧ w.cell? ⟨b, o + k * 2, none⟩ = some (.int .i64 xs[k].early) ∧ w.cell? ⟨b, o + k * 2 + 1, none⟩ = some (.int .i64 xs[k].late) ∧ Rd w (.agg #[.int .i64 xs[k].early, .int .i64 xs[k].late]) xs[k] ∧ I64 xs[k].early ∧ I64 xs[k].late := by
  obtain ⟨b, o, cs, rfl, hb, hr, hc⟩ := h.at_ k hk
  have hrd : Rd w (ofCells true cs) xs[k] := ⟨cs, hr, rfl⟩
  obtain ⟨rfl, h0, h1⟩ := hr
  have hrd' := Span.rd.1 hrd
  exact ⟨b, o, rfl, hb, hc 0 _ rfl, hc 1 _ rfl, hrd, h0, h1⟩

structure Table where
  slews : List Int
  loads : List Int
  values : List Int
  deriving Inhabited
instance : Rp Table where
  size := 3
  agg := true
  rp w lo hi cs x := ∃ v_slews v_loads v_values, cs = [v_slews, v_loads, v_values] ∧ RSl w lo hi v_slews x.slews ∧ RSl w lo hi v_loads x.loads ∧ RSl w lo hi v_values x.values
  len := by rintro _ _ _ _ _ ⟨v_slews, v_loads, v_values, rfl, h0, h1, h2⟩; rfl
  keep := by rintro _ _ _ _ _ _ ⟨v_slews, v_loads, v_values, rfl, h0, h1, h2⟩ hk; exact ⟨v_slews, v_loads, v_values, rfl, h0.keep hk, h1.keep hk, h2.keep hk⟩
  more := by rintro _ _ _ _ _ _ _ ⟨v_slews, v_loads, v_values, rfl, h0, h1, h2⟩ hl hh; exact ⟨v_slews, v_loads, v_values, rfl, h0.more hl hh, h1.more hl hh, h2.more hl hh⟩
theorem Table.rv {w : World} {lo hi : Nat} {v : Value} {x : Table} : RV w lo hi v x ↔ ∃ v_slews v_loads v_values, v = .agg #[v_slews, v_loads, v_values] ∧ RV w lo hi v_slews x.slews ∧ RV w lo hi v_loads x.loads ∧ RV w lo hi v_values x.values := by
  constructor
  · rintro ⟨_, ⟨v_slews, v_loads, v_values, rfl, h0, h1, h2⟩, rfl⟩; exact ⟨v_slews, v_loads, v_values, rfl, rv_list.2 h0, rv_list.2 h1, rv_list.2 h2⟩
  · rintro ⟨v_slews, v_loads, v_values, rfl, h0, h1, h2⟩; exact ⟨_, ⟨v_slews, v_loads, v_values, rfl, rv_list.1 h0, rv_list.1 h1, rv_list.1 h2⟩, rfl⟩
theorem Table.rd {w : World} {v : Value} {x : Table} : Rd w v x ↔ ∃ v_slews v_loads v_values, v = .agg #[v_slews, v_loads, v_values] ∧ Rd w v_slews x.slews ∧ Rd w v_loads x.loads ∧ Rd w v_values x.values := Table.rv
theorem Rd.atTable {w : World} {xs : List Table} {A : Option Addr} {n cap : Nat} (h : Rd w (.slice A n cap) xs) (k : Nat) (hk : k < xs.length) :
    ∃ b o v_slews v_loads v_values, A = some ⟨b, o, none⟩ ∧ b < w.heap.size ∧ w.cell? ⟨b, o + k * 3, none⟩ = some (v_slews) ∧ w.cell? ⟨b, o + k * 3 + 1, none⟩ = some (v_loads) ∧ w.cell? ⟨b, o + k * 3 + 2, none⟩ = some (v_values) ∧ Rd w (.agg #[v_slews, v_loads, v_values]) xs[k] ∧ Rd w v_slews xs[k].slews ∧ Rd w v_loads xs[k].loads ∧ Rd w v_values xs[k].values := by
  obtain ⟨b, o, cs, rfl, hb, hr, hc⟩ := h.at_ k hk
  have hrd : Rd w (ofCells true cs) xs[k] := ⟨cs, hr, rfl⟩
  obtain ⟨v_slews, v_loads, v_values, rfl, h0, h1, h2⟩ := hr
  have hrd' := Table.rd.1 hrd
  exact ⟨b, o, v_slews, v_loads, v_values, rfl, hb, hc 0 _ rfl, hc 1 _ rfl, hc 2 _ rfl, hrd, rv_list.2 h0, rv_list.2 h1, rv_list.2 h2⟩

structure Pin where
  name : ByteArray
  dir : Int
  cap : Int
  clock : Bool
  deriving Inhabited
instance : Rp Pin where
  size := 4
  agg := true
  rp w lo hi cs x := cs = [.string x.name, .int .i64 x.dir, .int .i64 x.cap, .bool x.clock] ∧ x.name.size ≤ maxLen ∧ I64 x.dir ∧ I64 x.cap
  len := by rintro _ _ _ _ _ ⟨rfl, h0, h1, h2⟩; rfl
  keep := by rintro _ _ _ _ _ _ ⟨rfl, h0, h1, h2⟩ hk; exact ⟨rfl, h0, h1, h2⟩
  more := by rintro _ _ _ _ _ _ _ ⟨rfl, h0, h1, h2⟩ hl hh; exact ⟨rfl, h0, h1, h2⟩
theorem Pin.rv {w : World} {lo hi : Nat} {v : Value} {x : Pin} : RV w lo hi v x ↔ v = .agg #[.string x.name, .int .i64 x.dir, .int .i64 x.cap, .bool x.clock] ∧ x.name.size ≤ 9223372036854775807 ∧ I64 x.dir ∧ I64 x.cap := by
  constructor
  · rintro ⟨_, ⟨rfl, h0, h1, h2⟩, rfl⟩; exact ⟨rfl, (by unfold maxLen at h0; omega), h1, h2⟩
  · rintro ⟨rfl, h0, h1, h2⟩; exact ⟨_, ⟨rfl, (by unfold maxLen; omega), h1, h2⟩, rfl⟩
theorem Pin.rd {w : World} {v : Value} {x : Pin} : Rd w v x ↔ v = .agg #[.string x.name, .int .i64 x.dir, .int .i64 x.cap, .bool x.clock] ∧ x.name.size ≤ 9223372036854775807 ∧ I64 x.dir ∧ I64 x.cap := Pin.rv
theorem Rd.atPin {w : World} {xs : List Pin} {A : Option Addr} {n cap : Nat} (h : Rd w (.slice A n cap) xs) (k : Nat) (hk : k < xs.length) :
    ∃ b o , A = some ⟨b, o, none⟩ ∧ b < w.heap.size ∧ w.cell? ⟨b, o + k * 4, none⟩ = some (.string xs[k].name) ∧ w.cell? ⟨b, o + k * 4 + 1, none⟩ = some (.int .i64 xs[k].dir) ∧ w.cell? ⟨b, o + k * 4 + 2, none⟩ = some (.int .i64 xs[k].cap) ∧ w.cell? ⟨b, o + k * 4 + 3, none⟩ = some (.bool xs[k].clock) ∧ Rd w (.agg #[.string xs[k].name, .int .i64 xs[k].dir, .int .i64 xs[k].cap, .bool xs[k].clock]) xs[k] ∧ xs[k].name.size ≤ 9223372036854775807 ∧ I64 xs[k].dir ∧ I64 xs[k].cap := by
  obtain ⟨b, o, cs, rfl, hb, hr, hc⟩ := h.at_ k hk
  have hrd : Rd w (ofCells true cs) xs[k] := ⟨cs, hr, rfl⟩
  obtain ⟨rfl, h0, h1, h2⟩ := hr
  have hrd' := Pin.rd.1 hrd
  exact ⟨b, o, rfl, hb, hc 0 _ rfl, hc 1 _ rfl, hc 2 _ rfl, hc 3 _ rfl, hrd, (by unfold maxLen at h0; omega), h1, h2⟩

structure Arc where
  kind : Int
  src : Int
  dst : Int
  sense : Int
  delay : List Table
  slew : List Table
  deriving Inhabited
instance : Rp Arc where
  size := 6
  agg := true
  rp w lo hi cs x := ∃ v_delay v_slew, cs = [.int .i64 x.kind, .int .i64 x.src, .int .i64 x.dst, .int .i64 x.sense, v_delay, v_slew] ∧ I64 x.kind ∧ I64 x.src ∧ I64 x.dst ∧ I64 x.sense ∧ RSl w lo hi v_delay x.delay ∧ RSl w lo hi v_slew x.slew
  len := by rintro _ _ _ _ _ ⟨v_delay, v_slew, rfl, h0, h1, h2, h3, h4, h5⟩; rfl
  keep := by rintro _ _ _ _ _ _ ⟨v_delay, v_slew, rfl, h0, h1, h2, h3, h4, h5⟩ hk; exact ⟨v_delay, v_slew, rfl, h0, h1, h2, h3, h4.keep hk, h5.keep hk⟩
  more := by rintro _ _ _ _ _ _ _ ⟨v_delay, v_slew, rfl, h0, h1, h2, h3, h4, h5⟩ hl hh; exact ⟨v_delay, v_slew, rfl, h0, h1, h2, h3, h4.more hl hh, h5.more hl hh⟩
theorem Arc.rv {w : World} {lo hi : Nat} {v : Value} {x : Arc} : RV w lo hi v x ↔ ∃ v_delay v_slew, v = .agg #[.int .i64 x.kind, .int .i64 x.src, .int .i64 x.dst, .int .i64 x.sense, v_delay, v_slew] ∧ I64 x.kind ∧ I64 x.src ∧ I64 x.dst ∧ I64 x.sense ∧ RV w lo hi v_delay x.delay ∧ RV w lo hi v_slew x.slew := by
  constructor
  · rintro ⟨_, ⟨v_delay, v_slew, rfl, h0, h1, h2, h3, h4, h5⟩, rfl⟩; exact ⟨v_delay, v_slew, rfl, h0, h1, h2, h3, rv_list.2 h4, rv_list.2 h5⟩
  · rintro ⟨v_delay, v_slew, rfl, h0, h1, h2, h3, h4, h5⟩; exact ⟨_, ⟨v_delay, v_slew, rfl, h0, h1, h2, h3, rv_list.1 h4, rv_list.1 h5⟩, rfl⟩
theorem Arc.rd {w : World} {v : Value} {x : Arc} : Rd w v x ↔ ∃ v_delay v_slew, v = .agg #[.int .i64 x.kind, .int .i64 x.src, .int .i64 x.dst, .int .i64 x.sense, v_delay, v_slew] ∧ I64 x.kind ∧ I64 x.src ∧ I64 x.dst ∧ I64 x.sense ∧ Rd w v_delay x.delay ∧ Rd w v_slew x.slew := Arc.rv
theorem Rd.atArc {w : World} {xs : List Arc} {A : Option Addr} {n cap : Nat} (h : Rd w (.slice A n cap) xs) (k : Nat) (hk : k < xs.length) :
    ∃ b o v_delay v_slew, A = some ⟨b, o, none⟩ ∧ b < w.heap.size ∧ w.cell? ⟨b, o + k * 6, none⟩ = some (.int .i64 xs[k].kind) ∧ w.cell? ⟨b, o + k * 6 + 1, none⟩ = some (.int .i64 xs[k].src) ∧ w.cell? ⟨b, o + k * 6 + 2, none⟩ = some (.int .i64 xs[k].dst) ∧ w.cell? ⟨b, o + k * 6 + 3, none⟩ = some (.int .i64 xs[k].sense) ∧ w.cell? ⟨b, o + k * 6 + 4, none⟩ = some (v_delay) ∧ w.cell? ⟨b, o + k * 6 + 5, none⟩ = some (v_slew) ∧ Rd w (.agg #[.int .i64 xs[k].kind, .int .i64 xs[k].src, .int .i64 xs[k].dst, .int .i64 xs[k].sense, v_delay, v_slew]) xs[k] ∧ I64 xs[k].kind ∧ I64 xs[k].src ∧ I64 xs[k].dst ∧ I64 xs[k].sense ∧ Rd w v_delay xs[k].delay ∧ Rd w v_slew xs[k].slew := by
  obtain ⟨b, o, cs, rfl, hb, hr, hc⟩ := h.at_ k hk
  have hrd : Rd w (ofCells true cs) xs[k] := ⟨cs, hr, rfl⟩
  obtain ⟨v_delay, v_slew, rfl, h0, h1, h2, h3, h4, h5⟩ := hr
  have hrd' := Arc.rd.1 hrd
  exact ⟨b, o, v_delay, v_slew, rfl, hb, hc 0 _ rfl, hc 1 _ rfl, hc 2 _ rfl, hc 3 _ rfl, hc 4 _ rfl, hc 5 _ rfl, hrd, h0, h1, h2, h3, rv_list.2 h4, rv_list.2 h5⟩

structure Cell where
  name : ByteArray
  kind : Int
  pins : List Pin
  arcs : List Arc
  truth : List Int
  leak : Int
  energy : Int
  deriving Inhabited
instance : Rp Cell where
  size := 7
  agg := true
  rp w lo hi cs x := ∃ v_pins v_arcs v_truth, cs = [.string x.name, .int .i64 x.kind, v_pins, v_arcs, v_truth, .int .i64 x.leak, .int .i64 x.energy] ∧ x.name.size ≤ maxLen ∧ I64 x.kind ∧ RSl w lo hi v_pins x.pins ∧ RSl w lo hi v_arcs x.arcs ∧ RSl w lo hi v_truth x.truth ∧ I64 x.leak ∧ I64 x.energy
  len := by rintro _ _ _ _ _ ⟨v_pins, v_arcs, v_truth, rfl, h0, h1, h2, h3, h4, h5, h6⟩; rfl
  keep := by rintro _ _ _ _ _ _ ⟨v_pins, v_arcs, v_truth, rfl, h0, h1, h2, h3, h4, h5, h6⟩ hk; exact ⟨v_pins, v_arcs, v_truth, rfl, h0, h1, h2.keep hk, h3.keep hk, h4.keep hk, h5, h6⟩
  more := by rintro _ _ _ _ _ _ _ ⟨v_pins, v_arcs, v_truth, rfl, h0, h1, h2, h3, h4, h5, h6⟩ hl hh; exact ⟨v_pins, v_arcs, v_truth, rfl, h0, h1, h2.more hl hh, h3.more hl hh, h4.more hl hh, h5, h6⟩
theorem Cell.rv {w : World} {lo hi : Nat} {v : Value} {x : Cell} : RV w lo hi v x ↔ ∃ v_pins v_arcs v_truth, v = .agg #[.string x.name, .int .i64 x.kind, v_pins, v_arcs, v_truth, .int .i64 x.leak, .int .i64 x.energy] ∧ x.name.size ≤ 9223372036854775807 ∧ I64 x.kind ∧ RV w lo hi v_pins x.pins ∧ RV w lo hi v_arcs x.arcs ∧ RV w lo hi v_truth x.truth ∧ I64 x.leak ∧ I64 x.energy := by
  constructor
  · rintro ⟨_, ⟨v_pins, v_arcs, v_truth, rfl, h0, h1, h2, h3, h4, h5, h6⟩, rfl⟩; exact ⟨v_pins, v_arcs, v_truth, rfl, (by unfold maxLen at h0; omega), h1, rv_list.2 h2, rv_list.2 h3, rv_list.2 h4, h5, h6⟩
  · rintro ⟨v_pins, v_arcs, v_truth, rfl, h0, h1, h2, h3, h4, h5, h6⟩; exact ⟨_, ⟨v_pins, v_arcs, v_truth, rfl, (by unfold maxLen; omega), h1, rv_list.1 h2, rv_list.1 h3, rv_list.1 h4, h5, h6⟩, rfl⟩
theorem Cell.rd {w : World} {v : Value} {x : Cell} : Rd w v x ↔ ∃ v_pins v_arcs v_truth, v = .agg #[.string x.name, .int .i64 x.kind, v_pins, v_arcs, v_truth, .int .i64 x.leak, .int .i64 x.energy] ∧ x.name.size ≤ 9223372036854775807 ∧ I64 x.kind ∧ Rd w v_pins x.pins ∧ Rd w v_arcs x.arcs ∧ Rd w v_truth x.truth ∧ I64 x.leak ∧ I64 x.energy := Cell.rv
theorem Rd.atCell {w : World} {xs : List Cell} {A : Option Addr} {n cap : Nat} (h : Rd w (.slice A n cap) xs) (k : Nat) (hk : k < xs.length) :
    ∃ b o v_pins v_arcs v_truth, A = some ⟨b, o, none⟩ ∧ b < w.heap.size ∧ w.cell? ⟨b, o + k * 7, none⟩ = some (.string xs[k].name) ∧ w.cell? ⟨b, o + k * 7 + 1, none⟩ = some (.int .i64 xs[k].kind) ∧ w.cell? ⟨b, o + k * 7 + 2, none⟩ = some (v_pins) ∧ w.cell? ⟨b, o + k * 7 + 3, none⟩ = some (v_arcs) ∧ w.cell? ⟨b, o + k * 7 + 4, none⟩ = some (v_truth) ∧ w.cell? ⟨b, o + k * 7 + 5, none⟩ = some (.int .i64 xs[k].leak) ∧ w.cell? ⟨b, o + k * 7 + 6, none⟩ = some (.int .i64 xs[k].energy) ∧ Rd w (.agg #[.string xs[k].name, .int .i64 xs[k].kind, v_pins, v_arcs, v_truth, .int .i64 xs[k].leak, .int .i64 xs[k].energy]) xs[k] ∧ xs[k].name.size ≤ 9223372036854775807 ∧ I64 xs[k].kind ∧ Rd w v_pins xs[k].pins ∧ Rd w v_arcs xs[k].arcs ∧ Rd w v_truth xs[k].truth ∧ I64 xs[k].leak ∧ I64 xs[k].energy := by
  obtain ⟨b, o, cs, rfl, hb, hr, hc⟩ := h.at_ k hk
  have hrd : Rd w (ofCells true cs) xs[k] := ⟨cs, hr, rfl⟩
  obtain ⟨v_pins, v_arcs, v_truth, rfl, h0, h1, h2, h3, h4, h5, h6⟩ := hr
  have hrd' := Cell.rd.1 hrd
  exact ⟨b, o, v_pins, v_arcs, v_truth, rfl, hb, hc 0 _ rfl, hc 1 _ rfl, hc 2 _ rfl, hc 3 _ rfl, hc 4 _ rfl, hc 5 _ rfl, hc 6 _ rfl, hrd, (by unfold maxLen at h0; omega), h1, rv_list.2 h2, rv_list.2 h3, rv_list.2 h4, h5, h6⟩

structure Library where
  cells : List Cell
  deriving Inhabited
instance : Rp Library where
  size := 1
  agg := true
  rp w lo hi cs x := ∃ v_cells, cs = [v_cells] ∧ RSl w lo hi v_cells x.cells
  len := by rintro _ _ _ _ _ ⟨v_cells, rfl, h0⟩; rfl
  keep := by rintro _ _ _ _ _ _ ⟨v_cells, rfl, h0⟩ hk; exact ⟨v_cells, rfl, h0.keep hk⟩
  more := by rintro _ _ _ _ _ _ _ ⟨v_cells, rfl, h0⟩ hl hh; exact ⟨v_cells, rfl, h0.more hl hh⟩
theorem Library.rv {w : World} {lo hi : Nat} {v : Value} {x : Library} : RV w lo hi v x ↔ ∃ v_cells, v = .agg #[v_cells] ∧ RV w lo hi v_cells x.cells := by
  constructor
  · rintro ⟨_, ⟨v_cells, rfl, h0⟩, rfl⟩; exact ⟨v_cells, rfl, rv_list.2 h0⟩
  · rintro ⟨v_cells, rfl, h0⟩; exact ⟨_, ⟨v_cells, rfl, rv_list.1 h0⟩, rfl⟩
theorem Library.rd {w : World} {v : Value} {x : Library} : Rd w v x ↔ ∃ v_cells, v = .agg #[v_cells] ∧ Rd w v_cells x.cells := Library.rv
theorem Rd.atLibrary {w : World} {xs : List Library} {A : Option Addr} {n cap : Nat} (h : Rd w (.slice A n cap) xs) (k : Nat) (hk : k < xs.length) :
    ∃ b o v_cells, A = some ⟨b, o, none⟩ ∧ b < w.heap.size ∧ w.cell? ⟨b, o + k, none⟩ = some (v_cells) ∧ Rd w (.agg #[v_cells]) xs[k] ∧ Rd w v_cells xs[k].cells := by
  obtain ⟨b, o, cs, rfl, hb, hr, hc⟩ := h.at_ k hk
  have hrd : Rd w (ofCells true cs) xs[k] := ⟨cs, hr, rfl⟩
  obtain ⟨v_cells, rfl, h0⟩ := hr
  have hrd' := Library.rd.1 hrd
  exact ⟨b, o, v_cells, rfl, hb, by simpa [show Rp.size Library = 1 from rfl] using hc 0 _ rfl, hrd, rv_list.2 h0⟩

structure Instance where
  name : ByteArray
  cell : Int
  nets : List Int
  deriving Inhabited
instance : Rp Instance where
  size := 3
  agg := true
  rp w lo hi cs x := ∃ v_nets, cs = [.string x.name, .int .i64 x.cell, v_nets] ∧ x.name.size ≤ maxLen ∧ I64 x.cell ∧ RSl w lo hi v_nets x.nets
  len := by rintro _ _ _ _ _ ⟨v_nets, rfl, h0, h1, h2⟩; rfl
  keep := by rintro _ _ _ _ _ _ ⟨v_nets, rfl, h0, h1, h2⟩ hk; exact ⟨v_nets, rfl, h0, h1, h2.keep hk⟩
  more := by rintro _ _ _ _ _ _ _ ⟨v_nets, rfl, h0, h1, h2⟩ hl hh; exact ⟨v_nets, rfl, h0, h1, h2.more hl hh⟩
theorem Instance.rv {w : World} {lo hi : Nat} {v : Value} {x : Instance} : RV w lo hi v x ↔ ∃ v_nets, v = .agg #[.string x.name, .int .i64 x.cell, v_nets] ∧ x.name.size ≤ 9223372036854775807 ∧ I64 x.cell ∧ RV w lo hi v_nets x.nets := by
  constructor
  · rintro ⟨_, ⟨v_nets, rfl, h0, h1, h2⟩, rfl⟩; exact ⟨v_nets, rfl, (by unfold maxLen at h0; omega), h1, rv_list.2 h2⟩
  · rintro ⟨v_nets, rfl, h0, h1, h2⟩; exact ⟨_, ⟨v_nets, rfl, (by unfold maxLen; omega), h1, rv_list.1 h2⟩, rfl⟩
theorem Instance.rd {w : World} {v : Value} {x : Instance} : Rd w v x ↔ ∃ v_nets, v = .agg #[.string x.name, .int .i64 x.cell, v_nets] ∧ x.name.size ≤ 9223372036854775807 ∧ I64 x.cell ∧ Rd w v_nets x.nets := Instance.rv
theorem Rd.atInstance {w : World} {xs : List Instance} {A : Option Addr} {n cap : Nat} (h : Rd w (.slice A n cap) xs) (k : Nat) (hk : k < xs.length) :
    ∃ b o v_nets, A = some ⟨b, o, none⟩ ∧ b < w.heap.size ∧ w.cell? ⟨b, o + k * 3, none⟩ = some (.string xs[k].name) ∧ w.cell? ⟨b, o + k * 3 + 1, none⟩ = some (.int .i64 xs[k].cell) ∧ w.cell? ⟨b, o + k * 3 + 2, none⟩ = some (v_nets) ∧ Rd w (.agg #[.string xs[k].name, .int .i64 xs[k].cell, v_nets]) xs[k] ∧ xs[k].name.size ≤ 9223372036854775807 ∧ I64 xs[k].cell ∧ Rd w v_nets xs[k].nets := by
  obtain ⟨b, o, cs, rfl, hb, hr, hc⟩ := h.at_ k hk
  have hrd : Rd w (ofCells true cs) xs[k] := ⟨cs, hr, rfl⟩
  obtain ⟨v_nets, rfl, h0, h1, h2⟩ := hr
  have hrd' := Instance.rd.1 hrd
  exact ⟨b, o, v_nets, rfl, hb, hc 0 _ rfl, hc 1 _ rfl, hc 2 _ rfl, hrd, (by unfold maxLen at h0; omega), h1, rv_list.2 h2⟩

structure Port where
  name : ByteArray
  dir : Int
  net : Int
  deriving Inhabited
instance : Rp Port where
  size := 3
  agg := true
  rp w lo hi cs x := cs = [.string x.name, .int .i64 x.dir, .int .i64 x.net] ∧ x.name.size ≤ maxLen ∧ I64 x.dir ∧ I64 x.net
  len := by rintro _ _ _ _ _ ⟨rfl, h0, h1, h2⟩; rfl
  keep := by rintro _ _ _ _ _ _ ⟨rfl, h0, h1, h2⟩ hk; exact ⟨rfl, h0, h1, h2⟩
  more := by rintro _ _ _ _ _ _ _ ⟨rfl, h0, h1, h2⟩ hl hh; exact ⟨rfl, h0, h1, h2⟩
theorem Port.rv {w : World} {lo hi : Nat} {v : Value} {x : Port} : RV w lo hi v x ↔ v = .agg #[.string x.name, .int .i64 x.dir, .int .i64 x.net] ∧ x.name.size ≤ 9223372036854775807 ∧ I64 x.dir ∧ I64 x.net := by
  constructor
  · rintro ⟨_, ⟨rfl, h0, h1, h2⟩, rfl⟩; exact ⟨rfl, (by unfold maxLen at h0; omega), h1, h2⟩
  · rintro ⟨rfl, h0, h1, h2⟩; exact ⟨_, ⟨rfl, (by unfold maxLen; omega), h1, h2⟩, rfl⟩
theorem Port.rd {w : World} {v : Value} {x : Port} : Rd w v x ↔ v = .agg #[.string x.name, .int .i64 x.dir, .int .i64 x.net] ∧ x.name.size ≤ 9223372036854775807 ∧ I64 x.dir ∧ I64 x.net := Port.rv
theorem Rd.atPort {w : World} {xs : List Port} {A : Option Addr} {n cap : Nat} (h : Rd w (.slice A n cap) xs) (k : Nat) (hk : k < xs.length) :
    ∃ b o , A = some ⟨b, o, none⟩ ∧ b < w.heap.size ∧ w.cell? ⟨b, o + k * 3, none⟩ = some (.string xs[k].name) ∧ w.cell? ⟨b, o + k * 3 + 1, none⟩ = some (.int .i64 xs[k].dir) ∧ w.cell? ⟨b, o + k * 3 + 2, none⟩ = some (.int .i64 xs[k].net) ∧ Rd w (.agg #[.string xs[k].name, .int .i64 xs[k].dir, .int .i64 xs[k].net]) xs[k] ∧ xs[k].name.size ≤ 9223372036854775807 ∧ I64 xs[k].dir ∧ I64 xs[k].net := by
  obtain ⟨b, o, cs, rfl, hb, hr, hc⟩ := h.at_ k hk
  have hrd : Rd w (ofCells true cs) xs[k] := ⟨cs, hr, rfl⟩
  obtain ⟨rfl, h0, h1, h2⟩ := hr
  have hrd' := Port.rd.1 hrd
  exact ⟨b, o, rfl, hb, hc 0 _ rfl, hc 1 _ rfl, hc 2 _ rfl, hrd, (by unfold maxLen at h0; omega), h1, h2⟩

structure Design where
  instances : List Instance
  nets : List ByteArray
  ports : List Port
  deriving Inhabited
instance : Rp Design where
  size := 3
  agg := true
  rp w lo hi cs x := ∃ v_instances v_nets v_ports, cs = [v_instances, v_nets, v_ports] ∧ RSl w lo hi v_instances x.instances ∧ RSl w lo hi v_nets x.nets ∧ RSl w lo hi v_ports x.ports
  len := by rintro _ _ _ _ _ ⟨v_instances, v_nets, v_ports, rfl, h0, h1, h2⟩; rfl
  keep := by rintro _ _ _ _ _ _ ⟨v_instances, v_nets, v_ports, rfl, h0, h1, h2⟩ hk; exact ⟨v_instances, v_nets, v_ports, rfl, h0.keep hk, h1.keep hk, h2.keep hk⟩
  more := by rintro _ _ _ _ _ _ _ ⟨v_instances, v_nets, v_ports, rfl, h0, h1, h2⟩ hl hh; exact ⟨v_instances, v_nets, v_ports, rfl, h0.more hl hh, h1.more hl hh, h2.more hl hh⟩
theorem Design.rv {w : World} {lo hi : Nat} {v : Value} {x : Design} : RV w lo hi v x ↔ ∃ v_instances v_nets v_ports, v = .agg #[v_instances, v_nets, v_ports] ∧ RV w lo hi v_instances x.instances ∧ RV w lo hi v_nets x.nets ∧ RV w lo hi v_ports x.ports := by
  constructor
  · rintro ⟨_, ⟨v_instances, v_nets, v_ports, rfl, h0, h1, h2⟩, rfl⟩; exact ⟨v_instances, v_nets, v_ports, rfl, rv_list.2 h0, rv_list.2 h1, rv_list.2 h2⟩
  · rintro ⟨v_instances, v_nets, v_ports, rfl, h0, h1, h2⟩; exact ⟨_, ⟨v_instances, v_nets, v_ports, rfl, rv_list.1 h0, rv_list.1 h1, rv_list.1 h2⟩, rfl⟩
theorem Design.rd {w : World} {v : Value} {x : Design} : Rd w v x ↔ ∃ v_instances v_nets v_ports, v = .agg #[v_instances, v_nets, v_ports] ∧ Rd w v_instances x.instances ∧ Rd w v_nets x.nets ∧ Rd w v_ports x.ports := Design.rv
theorem Rd.atDesign {w : World} {xs : List Design} {A : Option Addr} {n cap : Nat} (h : Rd w (.slice A n cap) xs) (k : Nat) (hk : k < xs.length) :
    ∃ b o v_instances v_nets v_ports, A = some ⟨b, o, none⟩ ∧ b < w.heap.size ∧ w.cell? ⟨b, o + k * 3, none⟩ = some (v_instances) ∧ w.cell? ⟨b, o + k * 3 + 1, none⟩ = some (v_nets) ∧ w.cell? ⟨b, o + k * 3 + 2, none⟩ = some (v_ports) ∧ Rd w (.agg #[v_instances, v_nets, v_ports]) xs[k] ∧ Rd w v_instances xs[k].instances ∧ Rd w v_nets xs[k].nets ∧ Rd w v_ports xs[k].ports := by
  obtain ⟨b, o, cs, rfl, hb, hr, hc⟩ := h.at_ k hk
  have hrd : Rd w (ofCells true cs) xs[k] := ⟨cs, hr, rfl⟩
  obtain ⟨v_instances, v_nets, v_ports, rfl, h0, h1, h2⟩ := hr
  have hrd' := Design.rd.1 hrd
  exact ⟨b, o, v_instances, v_nets, v_ports, rfl, hb, hc 0 _ rfl, hc 1 _ rfl, hc 2 _ rfl, hrd, rv_list.2 h0, rv_list.2 h1, rv_list.2 h2⟩

structure Wire where
  parent : List Int
  res : List Int
  cap : List Int
  sink : List Int
  deriving Inhabited
instance : Rp Wire where
  size := 4
  agg := true
  rp w lo hi cs x := ∃ v_parent v_res v_cap v_sink, cs = [v_parent, v_res, v_cap, v_sink] ∧ RSl w lo hi v_parent x.parent ∧ RSl w lo hi v_res x.res ∧ RSl w lo hi v_cap x.cap ∧ RSl w lo hi v_sink x.sink
  len := by rintro _ _ _ _ _ ⟨v_parent, v_res, v_cap, v_sink, rfl, h0, h1, h2, h3⟩; rfl
  keep := by rintro _ _ _ _ _ _ ⟨v_parent, v_res, v_cap, v_sink, rfl, h0, h1, h2, h3⟩ hk; exact ⟨v_parent, v_res, v_cap, v_sink, rfl, h0.keep hk, h1.keep hk, h2.keep hk, h3.keep hk⟩
  more := by rintro _ _ _ _ _ _ _ ⟨v_parent, v_res, v_cap, v_sink, rfl, h0, h1, h2, h3⟩ hl hh; exact ⟨v_parent, v_res, v_cap, v_sink, rfl, h0.more hl hh, h1.more hl hh, h2.more hl hh, h3.more hl hh⟩
theorem Wire.rv {w : World} {lo hi : Nat} {v : Value} {x : Wire} : RV w lo hi v x ↔ ∃ v_parent v_res v_cap v_sink, v = .agg #[v_parent, v_res, v_cap, v_sink] ∧ RV w lo hi v_parent x.parent ∧ RV w lo hi v_res x.res ∧ RV w lo hi v_cap x.cap ∧ RV w lo hi v_sink x.sink := by
  constructor
  · rintro ⟨_, ⟨v_parent, v_res, v_cap, v_sink, rfl, h0, h1, h2, h3⟩, rfl⟩; exact ⟨v_parent, v_res, v_cap, v_sink, rfl, rv_list.2 h0, rv_list.2 h1, rv_list.2 h2, rv_list.2 h3⟩
  · rintro ⟨v_parent, v_res, v_cap, v_sink, rfl, h0, h1, h2, h3⟩; exact ⟨_, ⟨v_parent, v_res, v_cap, v_sink, rfl, rv_list.1 h0, rv_list.1 h1, rv_list.1 h2, rv_list.1 h3⟩, rfl⟩
theorem Wire.rd {w : World} {v : Value} {x : Wire} : Rd w v x ↔ ∃ v_parent v_res v_cap v_sink, v = .agg #[v_parent, v_res, v_cap, v_sink] ∧ Rd w v_parent x.parent ∧ Rd w v_res x.res ∧ Rd w v_cap x.cap ∧ Rd w v_sink x.sink := Wire.rv
theorem Rd.atWire {w : World} {xs : List Wire} {A : Option Addr} {n cap : Nat} (h : Rd w (.slice A n cap) xs) (k : Nat) (hk : k < xs.length) :
    ∃ b o v_parent v_res v_cap v_sink, A = some ⟨b, o, none⟩ ∧ b < w.heap.size ∧ w.cell? ⟨b, o + k * 4, none⟩ = some (v_parent) ∧ w.cell? ⟨b, o + k * 4 + 1, none⟩ = some (v_res) ∧ w.cell? ⟨b, o + k * 4 + 2, none⟩ = some (v_cap) ∧ w.cell? ⟨b, o + k * 4 + 3, none⟩ = some (v_sink) ∧ Rd w (.agg #[v_parent, v_res, v_cap, v_sink]) xs[k] ∧ Rd w v_parent xs[k].parent ∧ Rd w v_res xs[k].res ∧ Rd w v_cap xs[k].cap ∧ Rd w v_sink xs[k].sink := by
  obtain ⟨b, o, cs, rfl, hb, hr, hc⟩ := h.at_ k hk
  have hrd : Rd w (ofCells true cs) xs[k] := ⟨cs, hr, rfl⟩
  obtain ⟨v_parent, v_res, v_cap, v_sink, rfl, h0, h1, h2, h3⟩ := hr
  have hrd' := Wire.rd.1 hrd
  exact ⟨b, o, v_parent, v_res, v_cap, v_sink, rfl, hb, hc 0 _ rfl, hc 1 _ rfl, hc 2 _ rfl, hc 3 _ rfl, hrd, rv_list.2 h0, rv_list.2 h1, rv_list.2 h2, rv_list.2 h3⟩

structure Block where
  library : Library
  design : Design
  wires : List Wire
  deriving Inhabited
instance : Rp Block where
  size := 5
  agg := true
  rp w lo hi cs x := ∃ v_library_cells v_design_instances v_design_nets v_design_ports v_wires, cs = [v_library_cells, v_design_instances, v_design_nets, v_design_ports, v_wires] ∧ RSl w lo hi v_library_cells x.library.cells ∧ RSl w lo hi v_design_instances x.design.instances ∧ RSl w lo hi v_design_nets x.design.nets ∧ RSl w lo hi v_design_ports x.design.ports ∧ RSl w lo hi v_wires x.wires
  len := by rintro _ _ _ _ _ ⟨v_library_cells, v_design_instances, v_design_nets, v_design_ports, v_wires, rfl, h0, h1, h2, h3, h4⟩; rfl
  keep := by rintro _ _ _ _ _ _ ⟨v_library_cells, v_design_instances, v_design_nets, v_design_ports, v_wires, rfl, h0, h1, h2, h3, h4⟩ hk; exact ⟨v_library_cells, v_design_instances, v_design_nets, v_design_ports, v_wires, rfl, h0.keep hk, h1.keep hk, h2.keep hk, h3.keep hk, h4.keep hk⟩
  more := by rintro _ _ _ _ _ _ _ ⟨v_library_cells, v_design_instances, v_design_nets, v_design_ports, v_wires, rfl, h0, h1, h2, h3, h4⟩ hl hh; exact ⟨v_library_cells, v_design_instances, v_design_nets, v_design_ports, v_wires, rfl, h0.more hl hh, h1.more hl hh, h2.more hl hh, h3.more hl hh, h4.more hl hh⟩
theorem Block.rv {w : World} {lo hi : Nat} {v : Value} {x : Block} : RV w lo hi v x ↔ ∃ v_library_cells v_design_instances v_design_nets v_design_ports v_wires, v = .agg #[v_library_cells, v_design_instances, v_design_nets, v_design_ports, v_wires] ∧ RV w lo hi v_library_cells x.library.cells ∧ RV w lo hi v_design_instances x.design.instances ∧ RV w lo hi v_design_nets x.design.nets ∧ RV w lo hi v_design_ports x.design.ports ∧ RV w lo hi v_wires x.wires := by
  constructor
  · rintro ⟨_, ⟨v_library_cells, v_design_instances, v_design_nets, v_design_ports, v_wires, rfl, h0, h1, h2, h3, h4⟩, rfl⟩; exact ⟨v_library_cells, v_design_instances, v_design_nets, v_design_ports, v_wires, rfl, rv_list.2 h0, rv_list.2 h1, rv_list.2 h2, rv_list.2 h3, rv_list.2 h4⟩
  · rintro ⟨v_library_cells, v_design_instances, v_design_nets, v_design_ports, v_wires, rfl, h0, h1, h2, h3, h4⟩; exact ⟨_, ⟨v_library_cells, v_design_instances, v_design_nets, v_design_ports, v_wires, rfl, rv_list.1 h0, rv_list.1 h1, rv_list.1 h2, rv_list.1 h3, rv_list.1 h4⟩, rfl⟩
theorem Block.rd {w : World} {v : Value} {x : Block} : Rd w v x ↔ ∃ v_library_cells v_design_instances v_design_nets v_design_ports v_wires, v = .agg #[v_library_cells, v_design_instances, v_design_nets, v_design_ports, v_wires] ∧ Rd w v_library_cells x.library.cells ∧ Rd w v_design_instances x.design.instances ∧ Rd w v_design_nets x.design.nets ∧ Rd w v_design_ports x.design.ports ∧ Rd w v_wires x.wires := Block.rv
theorem Rd.atBlock {w : World} {xs : List Block} {A : Option Addr} {n cap : Nat} (h : Rd w (.slice A n cap) xs) (k : Nat) (hk : k < xs.length) :
    ∃ b o v_library_cells v_design_instances v_design_nets v_design_ports v_wires, A = some ⟨b, o, none⟩ ∧ b < w.heap.size ∧ w.cell? ⟨b, o + k * 5, none⟩ = some (v_library_cells) ∧ w.cell? ⟨b, o + k * 5 + 1, none⟩ = some (v_design_instances) ∧ w.cell? ⟨b, o + k * 5 + 2, none⟩ = some (v_design_nets) ∧ w.cell? ⟨b, o + k * 5 + 3, none⟩ = some (v_design_ports) ∧ w.cell? ⟨b, o + k * 5 + 4, none⟩ = some (v_wires) ∧ Rd w (.agg #[v_library_cells, v_design_instances, v_design_nets, v_design_ports, v_wires]) xs[k] ∧ Rd w v_library_cells xs[k].library.cells ∧ Rd w v_design_instances xs[k].design.instances ∧ Rd w v_design_nets xs[k].design.nets ∧ Rd w v_design_ports xs[k].design.ports ∧ Rd w v_wires xs[k].wires := by
  obtain ⟨b, o, cs, rfl, hb, hr, hc⟩ := h.at_ k hk
  have hrd : Rd w (ofCells true cs) xs[k] := ⟨cs, hr, rfl⟩
  obtain ⟨v_library_cells, v_design_instances, v_design_nets, v_design_ports, v_wires, rfl, h0, h1, h2, h3, h4⟩ := hr
  have hrd' := Block.rd.1 hrd
  exact ⟨b, o, v_library_cells, v_design_instances, v_design_nets, v_design_ports, v_wires, rfl, hb, hc 0 _ rfl, hc 1 _ rfl, hc 2 _ rfl, hc 3 _ rfl, hc 4 _ rfl, hrd, rv_list.2 h0, rv_list.2 h1, rv_list.2 h2, rv_list.2 h3, rv_list.2 h4⟩

structure Corner where
  name : ByteArray
  cellEarly : Int
  cellLate : Int
  wireEarly : Int
  wireLate : Int
  deriving Inhabited
instance : Rp Corner where
  size := 5
  agg := true
  rp w lo hi cs x := cs = [.string x.name, .int .i64 x.cellEarly, .int .i64 x.cellLate, .int .i64 x.wireEarly, .int .i64 x.wireLate] ∧ x.name.size ≤ maxLen ∧ I64 x.cellEarly ∧ I64 x.cellLate ∧ I64 x.wireEarly ∧ I64 x.wireLate
  len := by rintro _ _ _ _ _ ⟨rfl, h0, h1, h2, h3, h4⟩; rfl
  keep := by rintro _ _ _ _ _ _ ⟨rfl, h0, h1, h2, h3, h4⟩ hk; exact ⟨rfl, h0, h1, h2, h3, h4⟩
  more := by rintro _ _ _ _ _ _ _ ⟨rfl, h0, h1, h2, h3, h4⟩ hl hh; exact ⟨rfl, h0, h1, h2, h3, h4⟩
theorem Corner.rv {w : World} {lo hi : Nat} {v : Value} {x : Corner} : RV w lo hi v x ↔ v = .agg #[.string x.name, .int .i64 x.cellEarly, .int .i64 x.cellLate, .int .i64 x.wireEarly, .int .i64 x.wireLate] ∧ x.name.size ≤ 9223372036854775807 ∧ I64 x.cellEarly ∧ I64 x.cellLate ∧ I64 x.wireEarly ∧ I64 x.wireLate := by
  constructor
  · rintro ⟨_, ⟨rfl, h0, h1, h2, h3, h4⟩, rfl⟩; exact ⟨rfl, (by unfold maxLen at h0; omega), h1, h2, h3, h4⟩
  · rintro ⟨rfl, h0, h1, h2, h3, h4⟩; exact ⟨_, ⟨rfl, (by unfold maxLen; omega), h1, h2, h3, h4⟩, rfl⟩
theorem Corner.rd {w : World} {v : Value} {x : Corner} : Rd w v x ↔ v = .agg #[.string x.name, .int .i64 x.cellEarly, .int .i64 x.cellLate, .int .i64 x.wireEarly, .int .i64 x.wireLate] ∧ x.name.size ≤ 9223372036854775807 ∧ I64 x.cellEarly ∧ I64 x.cellLate ∧ I64 x.wireEarly ∧ I64 x.wireLate := Corner.rv
theorem Rd.atCorner {w : World} {xs : List Corner} {A : Option Addr} {n cap : Nat} (h : Rd w (.slice A n cap) xs) (k : Nat) (hk : k < xs.length) :
    ∃ b o , A = some ⟨b, o, none⟩ ∧ b < w.heap.size ∧ w.cell? ⟨b, o + k * 5, none⟩ = some (.string xs[k].name) ∧ w.cell? ⟨b, o + k * 5 + 1, none⟩ = some (.int .i64 xs[k].cellEarly) ∧ w.cell? ⟨b, o + k * 5 + 2, none⟩ = some (.int .i64 xs[k].cellLate) ∧ w.cell? ⟨b, o + k * 5 + 3, none⟩ = some (.int .i64 xs[k].wireEarly) ∧ w.cell? ⟨b, o + k * 5 + 4, none⟩ = some (.int .i64 xs[k].wireLate) ∧ Rd w (.agg #[.string xs[k].name, .int .i64 xs[k].cellEarly, .int .i64 xs[k].cellLate, .int .i64 xs[k].wireEarly, .int .i64 xs[k].wireLate]) xs[k] ∧ xs[k].name.size ≤ 9223372036854775807 ∧ I64 xs[k].cellEarly ∧ I64 xs[k].cellLate ∧ I64 xs[k].wireEarly ∧ I64 xs[k].wireLate := by
  obtain ⟨b, o, cs, rfl, hb, hr, hc⟩ := h.at_ k hk
  have hrd : Rd w (ofCells true cs) xs[k] := ⟨cs, hr, rfl⟩
  obtain ⟨rfl, h0, h1, h2, h3, h4⟩ := hr
  have hrd' := Corner.rd.1 hrd
  exact ⟨b, o, rfl, hb, hc 0 _ rfl, hc 1 _ rfl, hc 2 _ rfl, hc 3 _ rfl, hc 4 _ rfl, hrd, (by unfold maxLen at h0; omega), h1, h2, h3, h4⟩

structure Source where
  node : Int
  arrival : Span
  slew : Span
  deriving Inhabited
instance : Rp Source where
  size := 5
  agg := true
  rp w lo hi cs x := cs = [.int .i64 x.node, .int .i64 x.arrival.early, .int .i64 x.arrival.late, .int .i64 x.slew.early, .int .i64 x.slew.late] ∧ I64 x.node ∧ I64 x.arrival.early ∧ I64 x.arrival.late ∧ I64 x.slew.early ∧ I64 x.slew.late
  len := by rintro _ _ _ _ _ ⟨rfl, h0, h1, h2, h3, h4⟩; rfl
  keep := by rintro _ _ _ _ _ _ ⟨rfl, h0, h1, h2, h3, h4⟩ hk; exact ⟨rfl, h0, h1, h2, h3, h4⟩
  more := by rintro _ _ _ _ _ _ _ ⟨rfl, h0, h1, h2, h3, h4⟩ hl hh; exact ⟨rfl, h0, h1, h2, h3, h4⟩
theorem Source.rv {w : World} {lo hi : Nat} {v : Value} {x : Source} : RV w lo hi v x ↔ v = .agg #[.int .i64 x.node, .int .i64 x.arrival.early, .int .i64 x.arrival.late, .int .i64 x.slew.early, .int .i64 x.slew.late] ∧ I64 x.node ∧ I64 x.arrival.early ∧ I64 x.arrival.late ∧ I64 x.slew.early ∧ I64 x.slew.late := by
  constructor
  · rintro ⟨_, ⟨rfl, h0, h1, h2, h3, h4⟩, rfl⟩; exact ⟨rfl, h0, h1, h2, h3, h4⟩
  · rintro ⟨rfl, h0, h1, h2, h3, h4⟩; exact ⟨_, ⟨rfl, h0, h1, h2, h3, h4⟩, rfl⟩
theorem Source.rd {w : World} {v : Value} {x : Source} : Rd w v x ↔ v = .agg #[.int .i64 x.node, .int .i64 x.arrival.early, .int .i64 x.arrival.late, .int .i64 x.slew.early, .int .i64 x.slew.late] ∧ I64 x.node ∧ I64 x.arrival.early ∧ I64 x.arrival.late ∧ I64 x.slew.early ∧ I64 x.slew.late := Source.rv
theorem Rd.atSource {w : World} {xs : List Source} {A : Option Addr} {n cap : Nat} (h : Rd w (.slice A n cap) xs) (k : Nat) (hk : k < xs.length) :
    ∃ b o , A = some ⟨b, o, none⟩ ∧ b < w.heap.size ∧ w.cell? ⟨b, o + k * 5, none⟩ = some (.int .i64 xs[k].node) ∧ w.cell? ⟨b, o + k * 5 + 1, none⟩ = some (.int .i64 xs[k].arrival.early) ∧ w.cell? ⟨b, o + k * 5 + 2, none⟩ = some (.int .i64 xs[k].arrival.late) ∧ w.cell? ⟨b, o + k * 5 + 3, none⟩ = some (.int .i64 xs[k].slew.early) ∧ w.cell? ⟨b, o + k * 5 + 4, none⟩ = some (.int .i64 xs[k].slew.late) ∧ Rd w (.agg #[.int .i64 xs[k].node, .int .i64 xs[k].arrival.early, .int .i64 xs[k].arrival.late, .int .i64 xs[k].slew.early, .int .i64 xs[k].slew.late]) xs[k] ∧ I64 xs[k].node ∧ I64 xs[k].arrival.early ∧ I64 xs[k].arrival.late ∧ I64 xs[k].slew.early ∧ I64 xs[k].slew.late := by
  obtain ⟨b, o, cs, rfl, hb, hr, hc⟩ := h.at_ k hk
  have hrd : Rd w (ofCells true cs) xs[k] := ⟨cs, hr, rfl⟩
  obtain ⟨rfl, h0, h1, h2, h3, h4⟩ := hr
  have hrd' := Source.rd.1 hrd
  exact ⟨b, o, rfl, hb, hc 0 _ rfl, hc 1 _ rfl, hc 2 _ rfl, hc 3 _ rfl, hc 4 _ rfl, hrd, h0, h1, h2, h3, h4⟩

structure Timing where
  reached : List Bool
  arrival : List Span
  slew : List Span
  deriving Inhabited
instance : Rp Timing where
  size := 3
  agg := true
  rp w lo hi cs x := ∃ v_reached v_arrival v_slew, cs = [v_reached, v_arrival, v_slew] ∧ RSl w lo hi v_reached x.reached ∧ RSl w lo hi v_arrival x.arrival ∧ RSl w lo hi v_slew x.slew
  len := by rintro _ _ _ _ _ ⟨v_reached, v_arrival, v_slew, rfl, h0, h1, h2⟩; rfl
  keep := by rintro _ _ _ _ _ _ ⟨v_reached, v_arrival, v_slew, rfl, h0, h1, h2⟩ hk; exact ⟨v_reached, v_arrival, v_slew, rfl, h0.keep hk, h1.keep hk, h2.keep hk⟩
  more := by rintro _ _ _ _ _ _ _ ⟨v_reached, v_arrival, v_slew, rfl, h0, h1, h2⟩ hl hh; exact ⟨v_reached, v_arrival, v_slew, rfl, h0.more hl hh, h1.more hl hh, h2.more hl hh⟩
theorem Timing.rv {w : World} {lo hi : Nat} {v : Value} {x : Timing} : RV w lo hi v x ↔ ∃ v_reached v_arrival v_slew, v = .agg #[v_reached, v_arrival, v_slew] ∧ RV w lo hi v_reached x.reached ∧ RV w lo hi v_arrival x.arrival ∧ RV w lo hi v_slew x.slew := by
  constructor
  · rintro ⟨_, ⟨v_reached, v_arrival, v_slew, rfl, h0, h1, h2⟩, rfl⟩; exact ⟨v_reached, v_arrival, v_slew, rfl, rv_list.2 h0, rv_list.2 h1, rv_list.2 h2⟩
  · rintro ⟨v_reached, v_arrival, v_slew, rfl, h0, h1, h2⟩; exact ⟨_, ⟨v_reached, v_arrival, v_slew, rfl, rv_list.1 h0, rv_list.1 h1, rv_list.1 h2⟩, rfl⟩
theorem Timing.rd {w : World} {v : Value} {x : Timing} : Rd w v x ↔ ∃ v_reached v_arrival v_slew, v = .agg #[v_reached, v_arrival, v_slew] ∧ Rd w v_reached x.reached ∧ Rd w v_arrival x.arrival ∧ Rd w v_slew x.slew := Timing.rv
theorem Rd.atTiming {w : World} {xs : List Timing} {A : Option Addr} {n cap : Nat} (h : Rd w (.slice A n cap) xs) (k : Nat) (hk : k < xs.length) :
    ∃ b o v_reached v_arrival v_slew, A = some ⟨b, o, none⟩ ∧ b < w.heap.size ∧ w.cell? ⟨b, o + k * 3, none⟩ = some (v_reached) ∧ w.cell? ⟨b, o + k * 3 + 1, none⟩ = some (v_arrival) ∧ w.cell? ⟨b, o + k * 3 + 2, none⟩ = some (v_slew) ∧ Rd w (.agg #[v_reached, v_arrival, v_slew]) xs[k] ∧ Rd w v_reached xs[k].reached ∧ Rd w v_arrival xs[k].arrival ∧ Rd w v_slew xs[k].slew := by
  obtain ⟨b, o, cs, rfl, hb, hr, hc⟩ := h.at_ k hk
  have hrd : Rd w (ofCells true cs) xs[k] := ⟨cs, hr, rfl⟩
  obtain ⟨v_reached, v_arrival, v_slew, rfl, h0, h1, h2⟩ := hr
  have hrd' := Timing.rd.1 hrd
  exact ⟨b, o, v_reached, v_arrival, v_slew, rfl, hb, hc 0 _ rfl, hc 1 _ rfl, hc 2 _ rfl, hrd, rv_list.2 h0, rv_list.2 h1, rv_list.2 h2⟩

structure Fraction where
  num : Int
  den : Int
  deriving Inhabited
instance : Rp Fraction where
  size := 2
  agg := true
  rp w lo hi cs x := cs = [.int .i64 x.num, .int .i64 x.den] ∧ I64 x.num ∧ I64 x.den
  len := by rintro _ _ _ _ _ ⟨rfl, h0, h1⟩; rfl
  keep := by rintro _ _ _ _ _ _ ⟨rfl, h0, h1⟩ hk; exact ⟨rfl, h0, h1⟩
  more := by rintro _ _ _ _ _ _ _ ⟨rfl, h0, h1⟩ hl hh; exact ⟨rfl, h0, h1⟩
theorem Fraction.rv {w : World} {lo hi : Nat} {v : Value} {x : Fraction} : RV w lo hi v x ↔ v = .agg #[.int .i64 x.num, .int .i64 x.den] ∧ I64 x.num ∧ I64 x.den := by
  constructor
  · rintro ⟨_, ⟨rfl, h0, h1⟩, rfl⟩; exact ⟨rfl, h0, h1⟩
  · rintro ⟨rfl, h0, h1⟩; exact ⟨_, ⟨rfl, h0, h1⟩, rfl⟩
theorem Fraction.rd {w : World} {v : Value} {x : Fraction} : Rd w v x ↔ v = .agg #[.int .i64 x.num, .int .i64 x.den] ∧ I64 x.num ∧ I64 x.den := Fraction.rv
theorem Rd.atFraction {w : World} {xs : List Fraction} {A : Option Addr} {n cap : Nat} (h : Rd w (.slice A n cap) xs) (k : Nat) (hk : k < xs.length) :
    ∃ b o , A = some ⟨b, o, none⟩ ∧ b < w.heap.size ∧ w.cell? ⟨b, o + k * 2, none⟩ = some (.int .i64 xs[k].num) ∧ w.cell? ⟨b, o + k * 2 + 1, none⟩ = some (.int .i64 xs[k].den) ∧ Rd w (.agg #[.int .i64 xs[k].num, .int .i64 xs[k].den]) xs[k] ∧ I64 xs[k].num ∧ I64 xs[k].den := by
  obtain ⟨b, o, cs, rfl, hb, hr, hc⟩ := h.at_ k hk
  have hrd : Rd w (ofCells true cs) xs[k] := ⟨cs, hr, rfl⟩
  obtain ⟨rfl, h0, h1⟩ := hr
  have hrd' := Fraction.rd.1 hrd
  exact ⟨b, o, rfl, hb, hc 0 _ rfl, hc 1 _ rfl, hrd, h0, h1⟩

structure Activity where
  high : Fraction
  density : Int
  deriving Inhabited
instance : Rp Activity where
  size := 3
  agg := true
  rp w lo hi cs x := cs = [.int .i64 x.high.num, .int .i64 x.high.den, .int .i64 x.density] ∧ I64 x.high.num ∧ I64 x.high.den ∧ I64 x.density
  len := by rintro _ _ _ _ _ ⟨rfl, h0, h1, h2⟩; rfl
  keep := by rintro _ _ _ _ _ _ ⟨rfl, h0, h1, h2⟩ hk; exact ⟨rfl, h0, h1, h2⟩
  more := by rintro _ _ _ _ _ _ _ ⟨rfl, h0, h1, h2⟩ hl hh; exact ⟨rfl, h0, h1, h2⟩
theorem Activity.rv {w : World} {lo hi : Nat} {v : Value} {x : Activity} : RV w lo hi v x ↔ v = .agg #[.int .i64 x.high.num, .int .i64 x.high.den, .int .i64 x.density] ∧ I64 x.high.num ∧ I64 x.high.den ∧ I64 x.density := by
  constructor
  · rintro ⟨_, ⟨rfl, h0, h1, h2⟩, rfl⟩; exact ⟨rfl, h0, h1, h2⟩
  · rintro ⟨rfl, h0, h1, h2⟩; exact ⟨_, ⟨rfl, h0, h1, h2⟩, rfl⟩
theorem Activity.rd {w : World} {v : Value} {x : Activity} : Rd w v x ↔ v = .agg #[.int .i64 x.high.num, .int .i64 x.high.den, .int .i64 x.density] ∧ I64 x.high.num ∧ I64 x.high.den ∧ I64 x.density := Activity.rv
theorem Rd.atActivity {w : World} {xs : List Activity} {A : Option Addr} {n cap : Nat} (h : Rd w (.slice A n cap) xs) (k : Nat) (hk : k < xs.length) :
    ∃ b o , A = some ⟨b, o, none⟩ ∧ b < w.heap.size ∧ w.cell? ⟨b, o + k * 3, none⟩ = some (.int .i64 xs[k].high.num) ∧ w.cell? ⟨b, o + k * 3 + 1, none⟩ = some (.int .i64 xs[k].high.den) ∧ w.cell? ⟨b, o + k * 3 + 2, none⟩ = some (.int .i64 xs[k].density) ∧ Rd w (.agg #[.int .i64 xs[k].high.num, .int .i64 xs[k].high.den, .int .i64 xs[k].density]) xs[k] ∧ I64 xs[k].high.num ∧ I64 xs[k].high.den ∧ I64 xs[k].density := by
  obtain ⟨b, o, cs, rfl, hb, hr, hc⟩ := h.at_ k hk
  have hrd : Rd w (ofCells true cs) xs[k] := ⟨cs, hr, rfl⟩
  obtain ⟨rfl, h0, h1, h2⟩ := hr
  have hrd' := Activity.rd.1 hrd
  exact ⟨b, o, rfl, hb, hc 0 _ rfl, hc 1 _ rfl, hc 2 _ rfl, hrd, h0, h1, h2⟩

structure Power where
  switching : Int
  internal : Int
  leakage : Int
  deriving Inhabited
instance : Rp Power where
  size := 3
  agg := true
  rp w lo hi cs x := cs = [.int .i64 x.switching, .int .i64 x.internal, .int .i64 x.leakage] ∧ I64 x.switching ∧ I64 x.internal ∧ I64 x.leakage
  len := by rintro _ _ _ _ _ ⟨rfl, h0, h1, h2⟩; rfl
  keep := by rintro _ _ _ _ _ _ ⟨rfl, h0, h1, h2⟩ hk; exact ⟨rfl, h0, h1, h2⟩
  more := by rintro _ _ _ _ _ _ _ ⟨rfl, h0, h1, h2⟩ hl hh; exact ⟨rfl, h0, h1, h2⟩
theorem Power.rv {w : World} {lo hi : Nat} {v : Value} {x : Power} : RV w lo hi v x ↔ v = .agg #[.int .i64 x.switching, .int .i64 x.internal, .int .i64 x.leakage] ∧ I64 x.switching ∧ I64 x.internal ∧ I64 x.leakage := by
  constructor
  · rintro ⟨_, ⟨rfl, h0, h1, h2⟩, rfl⟩; exact ⟨rfl, h0, h1, h2⟩
  · rintro ⟨rfl, h0, h1, h2⟩; exact ⟨_, ⟨rfl, h0, h1, h2⟩, rfl⟩
theorem Power.rd {w : World} {v : Value} {x : Power} : Rd w v x ↔ v = .agg #[.int .i64 x.switching, .int .i64 x.internal, .int .i64 x.leakage] ∧ I64 x.switching ∧ I64 x.internal ∧ I64 x.leakage := Power.rv
theorem Rd.atPower {w : World} {xs : List Power} {A : Option Addr} {n cap : Nat} (h : Rd w (.slice A n cap) xs) (k : Nat) (hk : k < xs.length) :
    ∃ b o , A = some ⟨b, o, none⟩ ∧ b < w.heap.size ∧ w.cell? ⟨b, o + k * 3, none⟩ = some (.int .i64 xs[k].switching) ∧ w.cell? ⟨b, o + k * 3 + 1, none⟩ = some (.int .i64 xs[k].internal) ∧ w.cell? ⟨b, o + k * 3 + 2, none⟩ = some (.int .i64 xs[k].leakage) ∧ Rd w (.agg #[.int .i64 xs[k].switching, .int .i64 xs[k].internal, .int .i64 xs[k].leakage]) xs[k] ∧ I64 xs[k].switching ∧ I64 xs[k].internal ∧ I64 xs[k].leakage := by
  obtain ⟨b, o, cs, rfl, hb, hr, hc⟩ := h.at_ k hk
  have hrd : Rd w (ofCells true cs) xs[k] := ⟨cs, hr, rfl⟩
  obtain ⟨rfl, h0, h1, h2⟩ := hr
  have hrd' := Power.rd.1 hrd
  exact ⟨b, o, rfl, hb, hc 0 _ rfl, hc 1 _ rfl, hc 2 _ rfl, hrd, h0, h1, h2⟩

structure Violation where
  place : Int
  kind : Int
  slack : Int
  deriving Inhabited
instance : Rp Violation where
  size := 3
  agg := true
  rp w lo hi cs x := cs = [.int .i64 x.place, .int .i64 x.kind, .int .i64 x.slack] ∧ I64 x.place ∧ I64 x.kind ∧ I64 x.slack
  len := by rintro _ _ _ _ _ ⟨rfl, h0, h1, h2⟩; rfl
  keep := by rintro _ _ _ _ _ _ ⟨rfl, h0, h1, h2⟩ hk; exact ⟨rfl, h0, h1, h2⟩
  more := by rintro _ _ _ _ _ _ _ ⟨rfl, h0, h1, h2⟩ hl hh; exact ⟨rfl, h0, h1, h2⟩
theorem Violation.rv {w : World} {lo hi : Nat} {v : Value} {x : Violation} : RV w lo hi v x ↔ v = .agg #[.int .i64 x.place, .int .i64 x.kind, .int .i64 x.slack] ∧ I64 x.place ∧ I64 x.kind ∧ I64 x.slack := by
  constructor
  · rintro ⟨_, ⟨rfl, h0, h1, h2⟩, rfl⟩; exact ⟨rfl, h0, h1, h2⟩
  · rintro ⟨rfl, h0, h1, h2⟩; exact ⟨_, ⟨rfl, h0, h1, h2⟩, rfl⟩
theorem Violation.rd {w : World} {v : Value} {x : Violation} : Rd w v x ↔ v = .agg #[.int .i64 x.place, .int .i64 x.kind, .int .i64 x.slack] ∧ I64 x.place ∧ I64 x.kind ∧ I64 x.slack := Violation.rv
theorem Rd.atViolation {w : World} {xs : List Violation} {A : Option Addr} {n cap : Nat} (h : Rd w (.slice A n cap) xs) (k : Nat) (hk : k < xs.length) :
    ∃ b o , A = some ⟨b, o, none⟩ ∧ b < w.heap.size ∧ w.cell? ⟨b, o + k * 3, none⟩ = some (.int .i64 xs[k].place) ∧ w.cell? ⟨b, o + k * 3 + 1, none⟩ = some (.int .i64 xs[k].kind) ∧ w.cell? ⟨b, o + k * 3 + 2, none⟩ = some (.int .i64 xs[k].slack) ∧ Rd w (.agg #[.int .i64 xs[k].place, .int .i64 xs[k].kind, .int .i64 xs[k].slack]) xs[k] ∧ I64 xs[k].place ∧ I64 xs[k].kind ∧ I64 xs[k].slack := by
  obtain ⟨b, o, cs, rfl, hb, hr, hc⟩ := h.at_ k hk
  have hrd : Rd w (ofCells true cs) xs[k] := ⟨cs, hr, rfl⟩
  obtain ⟨rfl, h0, h1, h2⟩ := hr
  have hrd' := Violation.rd.1 hrd
  exact ⟨b, o, rfl, hb, hc 0 _ rfl, hc 1 _ rfl, hc 2 _ rfl, hrd, h0, h1, h2⟩

structure Waiver where
  place : Int
  kind : Int
  floor : Int
  day : Int
  who : ByteArray
  deriving Inhabited
instance : Rp Waiver where
  size := 5
  agg := true
  rp w lo hi cs x := cs = [.int .i64 x.place, .int .i64 x.kind, .int .i64 x.floor, .int .i64 x.day, .string x.who] ∧ I64 x.place ∧ I64 x.kind ∧ I64 x.floor ∧ I64 x.day ∧ x.who.size ≤ maxLen
  len := by rintro _ _ _ _ _ ⟨rfl, h0, h1, h2, h3, h4⟩; rfl
  keep := by rintro _ _ _ _ _ _ ⟨rfl, h0, h1, h2, h3, h4⟩ hk; exact ⟨rfl, h0, h1, h2, h3, h4⟩
  more := by rintro _ _ _ _ _ _ _ ⟨rfl, h0, h1, h2, h3, h4⟩ hl hh; exact ⟨rfl, h0, h1, h2, h3, h4⟩
theorem Waiver.rv {w : World} {lo hi : Nat} {v : Value} {x : Waiver} : RV w lo hi v x ↔ v = .agg #[.int .i64 x.place, .int .i64 x.kind, .int .i64 x.floor, .int .i64 x.day, .string x.who] ∧ I64 x.place ∧ I64 x.kind ∧ I64 x.floor ∧ I64 x.day ∧ x.who.size ≤ 9223372036854775807 := by
  constructor
  · rintro ⟨_, ⟨rfl, h0, h1, h2, h3, h4⟩, rfl⟩; exact ⟨rfl, h0, h1, h2, h3, (by unfold maxLen at h4; omega)⟩
  · rintro ⟨rfl, h0, h1, h2, h3, h4⟩; exact ⟨_, ⟨rfl, h0, h1, h2, h3, (by unfold maxLen; omega)⟩, rfl⟩
theorem Waiver.rd {w : World} {v : Value} {x : Waiver} : Rd w v x ↔ v = .agg #[.int .i64 x.place, .int .i64 x.kind, .int .i64 x.floor, .int .i64 x.day, .string x.who] ∧ I64 x.place ∧ I64 x.kind ∧ I64 x.floor ∧ I64 x.day ∧ x.who.size ≤ 9223372036854775807 := Waiver.rv
theorem Rd.atWaiver {w : World} {xs : List Waiver} {A : Option Addr} {n cap : Nat} (h : Rd w (.slice A n cap) xs) (k : Nat) (hk : k < xs.length) :
    ∃ b o , A = some ⟨b, o, none⟩ ∧ b < w.heap.size ∧ w.cell? ⟨b, o + k * 5, none⟩ = some (.int .i64 xs[k].place) ∧ w.cell? ⟨b, o + k * 5 + 1, none⟩ = some (.int .i64 xs[k].kind) ∧ w.cell? ⟨b, o + k * 5 + 2, none⟩ = some (.int .i64 xs[k].floor) ∧ w.cell? ⟨b, o + k * 5 + 3, none⟩ = some (.int .i64 xs[k].day) ∧ w.cell? ⟨b, o + k * 5 + 4, none⟩ = some (.string xs[k].who) ∧ Rd w (.agg #[.int .i64 xs[k].place, .int .i64 xs[k].kind, .int .i64 xs[k].floor, .int .i64 xs[k].day, .string xs[k].who]) xs[k] ∧ I64 xs[k].place ∧ I64 xs[k].kind ∧ I64 xs[k].floor ∧ I64 xs[k].day ∧ xs[k].who.size ≤ 9223372036854775807 := by
  obtain ⟨b, o, cs, rfl, hb, hr, hc⟩ := h.at_ k hk
  have hrd : Rd w (ofCells true cs) xs[k] := ⟨cs, hr, rfl⟩
  obtain ⟨rfl, h0, h1, h2, h3, h4⟩ := hr
  have hrd' := Waiver.rd.1 hrd
  exact ⟨b, o, rfl, hb, hc 0 _ rfl, hc 1 _ rfl, hc 2 _ rfl, hc 3 _ rfl, hc 4 _ rfl, hrd, h0, h1, h2, h3, (by unfold maxLen at h4; omega)⟩

end Go.Proofs.YtfbbbgonapgfiaaDoor
