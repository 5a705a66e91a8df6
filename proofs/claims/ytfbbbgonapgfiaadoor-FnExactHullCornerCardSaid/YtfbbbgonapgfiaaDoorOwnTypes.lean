/- The program's plain types in memory of a call's own. Written by my types.py. No condition of its own. -/
import Derived.Test.YtfbbbgonapgfiaaDoorTypes
import Derived.Test.YtfbbbgonapgfiaaDoorOwn
namespace Go.Proofs.YtfbbbgonapgfiaaDoor
set_option linter.unusedSimpArgs false
set_option linter.unusedVariables false
open Go.RowKit Go.ChangeShapes Go.WideShapes Go.Deep

instance : Ow Span where
  ow w S cs x := cs = [.int .i64 x.early, .int .i64 x.late] ∧ S = [] ∧ I64 x.early ∧ I64 x.late
  ow_rp := by rintro _ _ _ _ _ _ ⟨rfl, rfl, h0, h1⟩ hS; exact ⟨rfl, h0, h1⟩
  ow_keep := by rintro _ _ _ _ _ ⟨rfl, rfl, h0, h1⟩ hk; exact ⟨rfl, rfl, h0, h1⟩
theorem Span.own {w : World} {S : List Nat} {v : Value} {x : Span} : Own w S v x ↔ v = .agg #[.int .i64 x.early, .int .i64 x.late] ∧ S = [] ∧ I64 x.early ∧ I64 x.late := by
  constructor
  · rintro ⟨_, ⟨rfl, rfl, h0, h1⟩, rfl⟩; exact ⟨rfl, rfl, h0, h1⟩
  · rintro ⟨rfl, rfl, h0, h1⟩; exact ⟨_, ⟨rfl, rfl, h0, h1⟩, rfl⟩
theorem Span.ext_ {x y : Span} (h0 : x.early = y.early) (h1 : x.late = y.late) : x = y := by cases x; cases y; simp_all

instance : Ow Table where
  ow w S cs x := ∃ v_slews v_loads v_values S_slews S_loads S_values, cs = [v_slews, v_loads, v_values] ∧ S = S_slews ++ S_loads ++ S_values ∧ OSl w S_slews v_slews x.slews ∧ OSl w S_loads v_loads x.loads ∧ OSl w S_values v_values x.values
  ow_rp := by rintro _ _ _ _ _ _ ⟨v_slews, v_loads, v_values, S_slews, S_loads, S_values, rfl, rfl, h0, h1, h2⟩ hS; exact ⟨v_slews, v_loads, v_values, rfl, h0.rsl (fun b hb => hS b (by simp [hb])), h1.rsl (fun b hb => hS b (by simp [hb])), h2.rsl (fun b hb => hS b (by simp [hb]))⟩
  ow_keep := by rintro _ _ _ _ _ ⟨v_slews, v_loads, v_values, S_slews, S_loads, S_values, rfl, rfl, h0, h1, h2⟩ hk; exact ⟨v_slews, v_loads, v_values, _, _, _, rfl, rfl, h0.keep (fun b hb => hk b (by simp [hb])), h1.keep (fun b hb => hk b (by simp [hb])), h2.keep (fun b hb => hk b (by simp [hb]))⟩
theorem Table.own {w : World} {S : List Nat} {v : Value} {x : Table} : Own w S v x ↔ ∃ v_slews v_loads v_values S_slews S_loads S_values, v = .agg #[v_slews, v_loads, v_values] ∧ S = S_slews ++ S_loads ++ S_values ∧ Own w S_slews v_slews x.slews ∧ Own w S_loads v_loads x.loads ∧ Own w S_values v_values x.values := by
  constructor
  · rintro ⟨_, ⟨v_slews, v_loads, v_values, S_slews, S_loads, S_values, rfl, rfl, h0, h1, h2⟩, rfl⟩; exact ⟨v_slews, v_loads, v_values, _, _, _, rfl, rfl, own_list.2 h0, own_list.2 h1, own_list.2 h2⟩
  · rintro ⟨v_slews, v_loads, v_values, S_slews, S_loads, S_values, rfl, rfl, h0, h1, h2⟩; exact ⟨_, ⟨v_slews, v_loads, v_values, _, _, _, rfl, rfl, own_list.1 h0, own_list.1 h1, own_list.1 h2⟩, rfl⟩
theorem Table.ext_ {x y : Table} (h0 : x.slews = y.slews) (h1 : x.loads = y.loads) (h2 : x.values = y.values) : x = y := by cases x; cases y; simp_all

instance : Ow Pin where
  ow w S cs x := cs = [.string x.name, .int .i64 x.dir, .int .i64 x.cap, .bool x.clock] ∧ S = [] ∧ x.name.size ≤ maxLen ∧ I64 x.dir ∧ I64 x.cap
  ow_rp := by rintro _ _ _ _ _ _ ⟨rfl, rfl, h0, h1, h2⟩ hS; exact ⟨rfl, h0, h1, h2⟩
  ow_keep := by rintro _ _ _ _ _ ⟨rfl, rfl, h0, h1, h2⟩ hk; exact ⟨rfl, rfl, h0, h1, h2⟩
theorem Pin.own {w : World} {S : List Nat} {v : Value} {x : Pin} : Own w S v x ↔ v = .agg #[.string x.name, .int .i64 x.dir, .int .i64 x.cap, .bool x.clock] ∧ S = [] ∧ x.name.size ≤ 9223372036854775807 ∧ I64 x.dir ∧ I64 x.cap := by
  constructor
  · rintro ⟨_, ⟨rfl, rfl, h0, h1, h2⟩, rfl⟩; exact ⟨rfl, rfl, (by unfold maxLen at h0; omega), h1, h2⟩
  · rintro ⟨rfl, rfl, h0, h1, h2⟩; exact ⟨_, ⟨rfl, rfl, (by unfold maxLen; omega), h1, h2⟩, rfl⟩
theorem Pin.ext_ {x y : Pin} (h0 : x.name = y.name) (h1 : x.dir = y.dir) (h2 : x.cap = y.cap) (h3 : x.clock = y.clock) : x = y := by cases x; cases y; simp_all

instance : Ow Arc where
  ow w S cs x := ∃ v_delay v_slew S_delay S_slew, cs = [.int .i64 x.kind, .int .i64 x.src, .int .i64 x.dst, .int .i64 x.sense, v_delay, v_slew] ∧ S = S_delay ++ S_slew ∧ I64 x.kind ∧ I64 x.src ∧ I64 x.dst ∧ I64 x.sense ∧ OSl w S_delay v_delay x.delay ∧ OSl w S_slew v_slew x.slew
  ow_rp := by rintro _ _ _ _ _ _ ⟨v_delay, v_slew, S_delay, S_slew, rfl, rfl, h0, h1, h2, h3, h4, h5⟩ hS; exact ⟨v_delay, v_slew, rfl, h0, h1, h2, h3, h4.rsl (fun b hb => hS b (by simp [hb])), h5.rsl (fun b hb => hS b (by simp [hb]))⟩
  ow_keep := by rintro _ _ _ _ _ ⟨v_delay, v_slew, S_delay, S_slew, rfl, rfl, h0, h1, h2, h3, h4, h5⟩ hk; exact ⟨v_delay, v_slew, _, _, rfl, rfl, h0, h1, h2, h3, h4.keep (fun b hb => hk b (by simp [hb])), h5.keep (fun b hb => hk b (by simp [hb]))⟩
theorem Arc.own {w : World} {S : List Nat} {v : Value} {x : Arc} : Own w S v x ↔ ∃ v_delay v_slew S_delay S_slew, v = .agg #[.int .i64 x.kind, .int .i64 x.src, .int .i64 x.dst, .int .i64 x.sense, v_delay, v_slew] ∧ S = S_delay ++ S_slew ∧ I64 x.kind ∧ I64 x.src ∧ I64 x.dst ∧ I64 x.sense ∧ Own w S_delay v_delay x.delay ∧ Own w S_slew v_slew x.slew := by
  constructor
  · rintro ⟨_, ⟨v_delay, v_slew, S_delay, S_slew, rfl, rfl, h0, h1, h2, h3, h4, h5⟩, rfl⟩; exact ⟨v_delay, v_slew, _, _, rfl, rfl, h0, h1, h2, h3, own_list.2 h4, own_list.2 h5⟩
  · rintro ⟨v_delay, v_slew, S_delay, S_slew, rfl, rfl, h0, h1, h2, h3, h4, h5⟩; exact ⟨_, ⟨v_delay, v_slew, _, _, rfl, rfl, h0, h1, h2, h3, own_list.1 h4, own_list.1 h5⟩, rfl⟩
theorem Arc.ext_ {x y : Arc} (h0 : x.kind = y.kind) (h1 : x.src = y.src) (h2 : x.dst = y.dst) (h3 : x.sense = y.sense) (h4 : x.delay = y.delay) (h5 : x.slew = y.slew) : x = y := by cases x; cases y; simp_all

instance : Ow Cell where
  ow w S cs x := ∃ v_pins v_arcs v_truth S_pins S_arcs S_truth, cs = [.string x.name, .int .i64 x.kind, v_pins, v_arcs, v_truth, .int .i64 x.leak, .int .i64 x.energy] ∧ S = S_pins ++ S_arcs ++ S_truth ∧ x.name.size ≤ maxLen ∧ I64 x.kind ∧ OSl w S_pins v_pins x.pins ∧ OSl w S_arcs v_arcs x.arcs ∧ OSl w S_truth v_truth x.truth ∧ I64 x.leak ∧ I64 x.energy
  ow_rp := by rintro _ _ _ _ _ _ ⟨v_pins, v_arcs, v_truth, S_pins, S_arcs, S_truth, rfl, rfl, h0, h1, h2, h3, h4, h5, h6⟩ hS; exact ⟨v_pins, v_arcs, v_truth, rfl, h0, h1, h2.rsl (fun b hb => hS b (by simp [hb])), h3.rsl (fun b hb => hS b (by simp [hb])), h4.rsl (fun b hb => hS b (by simp [hb])), h5, h6⟩
  ow_keep := by rintro _ _ _ _ _ ⟨v_pins, v_arcs, v_truth, S_pins, S_arcs, S_truth, rfl, rfl, h0, h1, h2, h3, h4, h5, h6⟩ hk; exact ⟨v_pins, v_arcs, v_truth, _, _, _, rfl, rfl, h0, h1, h2.keep (fun b hb => hk b (by simp [hb])), h3.keep (fun b hb => hk b (by simp [hb])), h4.keep (fun b hb => hk b (by simp [hb])), h5, h6⟩
theorem Cell.own {w : World} {S : List Nat} {v : Value} {x : Cell} : Own w S v x ↔ ∃ v_pins v_arcs v_truth S_pins S_arcs S_truth, v = .agg #[.string x.name, .int .i64 x.kind, v_pins, v_arcs, v_truth, .int .i64 x.leak, .int .i64 x.energy] ∧ S = S_pins ++ S_arcs ++ S_truth ∧ x.name.size ≤ 9223372036854775807 ∧ I64 x.kind ∧ Own w S_pins v_pins x.pins ∧ Own w S_arcs v_arcs x.arcs ∧ Own w S_truth v_truth x.truth ∧ I64 x.leak ∧ I64 x.energy := by
  constructor
  · rintro ⟨_, ⟨v_pins, v_arcs, v_truth, S_pins, S_arcs, S_truth, rfl, rfl, h0, h1, h2, h3, h4, h5, h6⟩, rfl⟩; exact ⟨v_pins, v_arcs, v_truth, _, _, _, rfl, rfl, (by unfold maxLen at h0; omega), h1, own_list.2 h2, own_list.2 h3, own_list.2 h4, h5, h6⟩
  · rintro ⟨v_pins, v_arcs, v_truth, S_pins, S_arcs, S_truth, rfl, rfl, h0, h1, h2, h3, h4, h5, h6⟩; exact ⟨_, ⟨v_pins, v_arcs, v_truth, _, _, _, rfl, rfl, (by unfold maxLen; omega), h1, own_list.1 h2, own_list.1 h3, own_list.1 h4, h5, h6⟩, rfl⟩
theorem Cell.ext_ {x y : Cell} (h0 : x.name = y.name) (h1 : x.kind = y.kind) (h2 : x.pins = y.pins) (h3 : x.arcs = y.arcs) (h4 : x.truth = y.truth) (h5 : x.leak = y.leak) (h6 : x.energy = y.energy) : x = y := by cases x; cases y; simp_all

instance : Ow Library where
  ow w S cs x := ∃ v_cells S_cells, cs = [v_cells] ∧ S = S_cells ∧ OSl w S_cells v_cells x.cells
  ow_rp := by rintro _ _ _ _ _ _ ⟨v_cells, S_cells, rfl, rfl, h0⟩ hS; exact ⟨v_cells, rfl, h0.rsl (fun b hb => hS b (by simp [hb]))⟩
  ow_keep := by rintro _ _ _ _ _ ⟨v_cells, S_cells, rfl, rfl, h0⟩ hk; exact ⟨v_cells, _, rfl, rfl, h0.keep (fun b hb => hk b (by simp [hb]))⟩
theorem Library.own {w : World} {S : List Nat} {v : Value} {x : Library} : Own w S v x ↔ ∃ v_cells S_cells, v = .agg #[v_cells] ∧ S = S_cells ∧ Own w S_cells v_cells x.cells := by
  constructor
  · rintro ⟨_, ⟨v_cells, S_cells, rfl, rfl, h0⟩, rfl⟩; exact ⟨v_cells, _, rfl, rfl, own_list.2 h0⟩
  · rintro ⟨v_cells, S_cells, rfl, rfl, h0⟩; exact ⟨_, ⟨v_cells, _, rfl, rfl, own_list.1 h0⟩, rfl⟩
theorem Library.ext_ {x y : Library} (h0 : x.cells = y.cells) : x = y := by cases x; cases y; simp_all

instance : Ow Instance where
  ow w S cs x := ∃ v_nets S_nets, cs = [.string x.name, .int .i64 x.cell, v_nets] ∧ S = S_nets ∧ x.name.size ≤ maxLen ∧ I64 x.cell ∧ OSl w S_nets v_nets x.nets
  ow_rp := by rintro _ _ _ _ _ _ ⟨v_nets, S_nets, rfl, rfl, h0, h1, h2⟩ hS; exact ⟨v_nets, rfl, h0, h1, h2.rsl (fun b hb => hS b (by simp [hb]))⟩
  ow_keep := by rintro _ _ _ _ _ ⟨v_nets, S_nets, rfl, rfl, h0, h1, h2⟩ hk; exact ⟨v_nets, _, rfl, rfl, h0, h1, h2.keep (fun b hb => hk b (by simp [hb]))⟩
theorem Instance.own {w : World} {S : List Nat} {v : Value} {x : Instance} : Own w S v x ↔ ∃ v_nets S_nets, v = .agg #[.string x.name, .int .i64 x.cell, v_nets] ∧ S = S_nets ∧ x.name.size ≤ 9223372036854775807 ∧ I64 x.cell ∧ Own w S_nets v_nets x.nets := by
  constructor
  · rintro ⟨_, ⟨v_nets, S_nets, rfl, rfl, h0, h1, h2⟩, rfl⟩; exact ⟨v_nets, _, rfl, rfl, (by unfold maxLen at h0; omega), h1, own_list.2 h2⟩
  · rintro ⟨v_nets, S_nets, rfl, rfl, h0, h1, h2⟩; exact ⟨_, ⟨v_nets, _, rfl, rfl, (by unfold maxLen; omega), h1, own_list.1 h2⟩, rfl⟩
theorem Instance.ext_ {x y : Instance} (h0 : x.name = y.name) (h1 : x.cell = y.cell) (h2 : x.nets = y.nets) : x = y := by cases x; cases y; simp_all

instance : Ow Port where
  ow w S cs x := cs = [.string x.name, .int .i64 x.dir, .int .i64 x.net] ∧ S = [] ∧ x.name.size ≤ maxLen ∧ I64 x.dir ∧ I64 x.net
  ow_rp := by rintro _ _ _ _ _ _ ⟨rfl, rfl, h0, h1, h2⟩ hS; exact ⟨rfl, h0, h1, h2⟩
  ow_keep := by rintro _ _ _ _ _ ⟨rfl, rfl, h0, h1, h2⟩ hk; exact ⟨rfl, rfl, h0, h1, h2⟩
theorem Port.own {w : World} {S : List Nat} {v : Value} {x : Port} : Own w S v x ↔ v = .agg #[.string x.name, .int .i64 x.dir, .int .i64 x.net] ∧ S = [] ∧ x.name.size ≤ 9223372036854775807 ∧ I64 x.dir ∧ I64 x.net := by
  constructor
  · rintro ⟨_, ⟨rfl, rfl, h0, h1, h2⟩, rfl⟩; exact ⟨rfl, rfl, (by unfold maxLen at h0; omega), h1, h2⟩
  · rintro ⟨rfl, rfl, h0, h1, h2⟩; exact ⟨_, ⟨rfl, rfl, (by unfold maxLen; omega), h1, h2⟩, rfl⟩
theorem Port.ext_ {x y : Port} (h0 : x.name = y.name) (h1 : x.dir = y.dir) (h2 : x.net = y.net) : x = y := by cases x; cases y; simp_all

instance : Ow Design where
  ow w S cs x := ∃ v_instances v_nets v_ports S_instances S_nets S_ports, cs = [v_instances, v_nets, v_ports] ∧ S = S_instances ++ S_nets ++ S_ports ∧ OSl w S_instances v_instances x.instances ∧ OSl w S_nets v_nets x.nets ∧ OSl w S_ports v_ports x.ports
  ow_rp := by rintro _ _ _ _ _ _ ⟨v_instances, v_nets, v_ports, S_instances, S_nets, S_ports, rfl, rfl, h0, h1, h2⟩ hS; exact ⟨v_instances, v_nets, v_ports, rfl, h0.rsl (fun b hb => hS b (by simp [hb])), h1.rsl (fun b hb => hS b (by simp [hb])), h2.rsl (fun b hb => hS b (by simp [hb]))⟩
  ow_keep := by rintro _ _ _ _ _ ⟨v_instances, v_nets, v_ports, S_instances, S_nets, S_ports, rfl, rfl, h0, h1, h2⟩ hk; exact ⟨v_instances, v_nets, v_ports, _, _, _, rfl, rfl, h0.keep (fun b hb => hk b (by simp [hb])), h1.keep (fun b hb => hk b (by simp [hb])), h2.keep (fun b hb => hk b (by simp [hb]))⟩
theorem Design.own {w : World} {S : List Nat} {v : Value} {x : Design} : Own w S v x ↔ ∃ v_instances v_nets v_ports S_instances S_nets S_ports, v = .agg #[v_instances, v_nets, v_ports] ∧ S = S_instances ++ S_nets ++ S_ports ∧ Own w S_instances v_instances x.instances ∧ Own w S_nets v_nets x.nets ∧ Own w S_ports v_ports x.ports := by
  constructor
  · rintro ⟨_, ⟨v_instances, v_nets, v_ports, S_instances, S_nets, S_ports, rfl, rfl, h0, h1, h2⟩, rfl⟩; exact ⟨v_instances, v_nets, v_ports, _, _, _, rfl, rfl, own_list.2 h0, own_list.2 h1, own_list.2 h2⟩
  · rintro ⟨v_instances, v_nets, v_ports, S_instances, S_nets, S_ports, rfl, rfl, h0, h1, h2⟩; exact ⟨_, ⟨v_instances, v_nets, v_ports, _, _, _, rfl, rfl, own_list.1 h0, own_list.1 h1, own_list.1 h2⟩, rfl⟩
theorem Design.ext_ {x y : Design} (h0 : x.instances = y.instances) (h1 : x.nets = y.nets) (h2 : x.ports = y.ports) : x = y := by cases x; cases y; simp_all

instance : Ow Wire where
  ow w S cs x := ∃ v_parent v_res v_cap v_sink S_parent S_res S_cap S_sink, cs = [v_parent, v_res, v_cap, v_sink] ∧ S = S_parent ++ S_res ++ S_cap ++ S_sink ∧ OSl w S_parent v_parent x.parent ∧ OSl w S_res v_res x.res ∧ OSl w S_cap v_cap x.cap ∧ OSl w S_sink v_sink x.sink
  ow_rp := by rintro _ _ _ _ _ _ ⟨v_parent, v_res, v_cap, v_sink, S_parent, S_res, S_cap, S_sink, rfl, rfl, h0, h1, h2, h3⟩ hS; exact ⟨v_parent, v_res, v_cap, v_sink, rfl, h0.rsl (fun b hb => hS b (by simp [hb])), h1.rsl (fun b hb => hS b (by simp [hb])), h2.rsl (fun b hb => hS b (by simp [hb])), h3.rsl (fun b hb => hS b (by simp [hb]))⟩
  ow_keep := by rintro _ _ _ _ _ ⟨v_parent, v_res, v_cap, v_sink, S_parent, S_res, S_cap, S_sink, rfl, rfl, h0, h1, h2, h3⟩ hk; exact ⟨v_parent, v_res, v_cap, v_sink, _, _, _, _, rfl, rfl, h0.keep (fun b hb => hk b (by simp [hb])), h1.keep (fun b hb => hk b (by simp [hb])), h2.keep (fun b hb => hk b (by simp [hb])), h3.keep (fun b hb => hk b (by simp [hb]))⟩
theorem Wire.own {w : World} {S : List Nat} {v : Value} {x : Wire} : Own w S v x ↔ ∃ v_parent v_res v_cap v_sink S_parent S_res S_cap S_sink, v = .agg #[v_parent, v_res, v_cap, v_sink] ∧ S = S_parent ++ S_res ++ S_cap ++ S_sink ∧ Own w S_parent v_parent x.parent ∧ Own w S_res v_res x.res ∧ Own w S_cap v_cap x.cap ∧ Own w S_sink v_sink x.sink := by
  constructor
  · rintro ⟨_, ⟨v_parent, v_res, v_cap, v_sink, S_parent, S_res, S_cap, S_sink, rfl, rfl, h0, h1, h2, h3⟩, rfl⟩; exact ⟨v_parent, v_res, v_cap, v_sink, _, _, _, _, rfl, rfl, own_list.2 h0, own_list.2 h1, own_list.2 h2, own_list.2 h3⟩
  · rintro ⟨v_parent, v_res, v_cap, v_sink, S_parent, S_res, S_cap, S_sink, rfl, rfl, h0, h1, h2, h3⟩; exact ⟨_, ⟨v_parent, v_res, v_cap, v_sink, _, _, _, _, rfl, rfl, own_list.1 h0, own_list.1 h1, own_list.1 h2, own_list.1 h3⟩, rfl⟩
theorem Wire.ext_ {x y : Wire} (h0 : x.parent = y.parent) (h1 : x.res = y.res) (h2 : x.cap = y.cap) (h3 : x.sink = y.sink) : x = y := by cases x; cases y; simp_all

instance : Ow Block where
  ow w S cs x := ∃ v_library_cells v_design_instances v_design_nets v_design_ports v_wires S_library_cells S_design_instances S_design_nets S_design_ports S_wires, cs = [v_library_cells, v_design_instances, v_design_nets, v_design_ports, v_wires] ∧ S = S_library_cells ++ S_design_instances ++ S_design_nets ++ S_design_ports ++ S_wires ∧ OSl w S_library_cells v_library_cells x.library.cells ∧ OSl w S_design_instances v_design_instances x.design.instances ∧ OSl w S_design_nets v_design_nets x.design.nets ∧ OSl w S_design_ports v_design_ports x.design.ports ∧ OSl w S_wires v_wires x.wires
  ow_rp := by rintro _ _ _ _ _ _ ⟨v_library_cells, v_design_instances, v_design_nets, v_design_ports, v_wires, S_library_cells, S_design_instances, S_design_nets, S_design_ports, S_wires, rfl, rfl, h0, h1, h2, h3, h4⟩ hS; exact ⟨v_library_cells, v_design_instances, v_design_nets, v_design_ports, v_wires, rfl, h0.rsl (fun b hb => hS b (by simp [hb])), h1.rsl (fun b hb => hS b (by simp [hb])), h2.rsl (fun b hb => hS b (by simp [hb])), h3.rsl (fun b hb => hS b (by simp [hb])), h4.rsl (fun b hb => hS b (by simp [hb]))⟩
  ow_keep := by rintro _ _ _ _ _ ⟨v_library_cells, v_design_instances, v_design_nets, v_design_ports, v_wires, S_library_cells, S_design_instances, S_design_nets, S_design_ports, S_wires, rfl, rfl, h0, h1, h2, h3, h4⟩ hk; exact ⟨v_library_cells, v_design_instances, v_design_nets, v_design_ports, v_wires, _, _, _, _, _, rfl, rfl, h0.keep (fun b hb => hk b (by simp [hb])), h1.keep (fun b hb => hk b (by simp [hb])), h2.keep (fun b hb => hk b (by simp [hb])), h3.keep (fun b hb => hk b (by simp [hb])), h4.keep (fun b hb => hk b (by simp [hb]))⟩
theorem Block.own {w : World} {S : List Nat} {v : Value} {x : Block} : Own w S v x ↔ ∃ v_library_cells v_design_instances v_design_nets v_design_ports v_wires S_library_cells S_design_instances S_design_nets S_design_ports S_wires, v = .agg #[v_library_cells, v_design_instances, v_design_nets, v_design_ports, v_wires] ∧ S = S_library_cells ++ S_design_instances ++ S_design_nets ++ S_design_ports ++ S_wires ∧ Own w S_library_cells v_library_cells x.library.cells ∧ Own w S_design_instances v_design_instances x.design.instances ∧ Own w S_design_nets v_design_nets x.design.nets ∧ Own w S_design_ports v_design_ports x.design.ports ∧ Own w S_wires v_wires x.wires := by
  constructor
  · rintro ⟨_, ⟨v_library_cells, v_design_instances, v_design_nets, v_design_ports, v_wires, S_library_cells, S_design_instances, S_design_nets, S_design_ports, S_wires, rfl, rfl, h0, h1, h2, h3, h4⟩, rfl⟩; exact ⟨v_library_cells, v_design_instances, v_design_nets, v_design_ports, v_wires, _, _, _, _, _, rfl, rfl, own_list.2 h0, own_list.2 h1, own_list.2 h2, own_list.2 h3, own_list.2 h4⟩
  · rintro ⟨v_library_cells, v_design_instances, v_design_nets, v_design_ports, v_wires, S_library_cells, S_design_instances, S_design_nets, S_design_ports, S_wires, rfl, rfl, h0, h1, h2, h3, h4⟩; exact ⟨_, ⟨v_library_cells, v_design_instances, v_design_nets, v_design_ports, v_wires, _, _, _, _, _, rfl, rfl, own_list.1 h0, own_list.1 h1, own_list.1 h2, own_list.1 h3, own_list.1 h4⟩, rfl⟩
theorem Block.ext_ {x y : Block} (h0 : x.library = y.library) (h1 : x.design = y.design) (h2 : x.wires = y.wires) : x = y := by cases x; cases y; simp_all

instance : Ow Corner where
  ow w S cs x := cs = [.string x.name, .int .i64 x.cellEarly, .int .i64 x.cellLate, .int .i64 x.wireEarly, .int .i64 x.wireLate] ∧ S = [] ∧ x.name.size ≤ maxLen ∧ I64 x.cellEarly ∧ I64 x.cellLate ∧ I64 x.wireEarly ∧ I64 x.wireLate
  ow_rp := by rintro _ _ _ _ _ _ ⟨rfl, rfl, h0, h1, h2, h3, h4⟩ hS; exact ⟨rfl, h0, h1, h2, h3, h4⟩
  ow_keep := by rintro _ _ _ _ _ ⟨rfl, rfl, h0, h1, h2, h3, h4⟩ hk; exact ⟨rfl, rfl, h0, h1, h2, h3, h4⟩
theorem Corner.own {w : World} {S : List Nat} {v : Value} {x : Corner} : Own w S v x ↔ v = .agg #[.string x.name, .int .i64 x.cellEarly, .int .i64 x.cellLate, .int .i64 x.wireEarly, .int .i64 x.wireLate] ∧ S = [] ∧ x.name.size ≤ 9223372036854775807 ∧ I64 x.cellEarly ∧ I64 x.cellLate ∧ I64 x.wireEarly ∧ I64 x.wireLate := by
  constructor
  · rintro ⟨_, ⟨rfl, rfl, h0, h1, h2, h3, h4⟩, rfl⟩; exact ⟨rfl, rfl, (by unfold maxLen at h0; omega), h1, h2, h3, h4⟩
  · rintro ⟨rfl, rfl, h0, h1, h2, h3, h4⟩; exact ⟨_, ⟨rfl, rfl, (by unfold maxLen; omega), h1, h2, h3, h4⟩, rfl⟩
theorem Corner.ext_ {x y : Corner} (h0 : x.name = y.name) (h1 : x.cellEarly = y.cellEarly) (h2 : x.cellLate = y.cellLate) (h3 : x.wireEarly = y.wireEarly) (h4 : x.wireLate = y.wireLate) : x = y := by cases x; cases y; simp_all

instance : Ow Source where
  ow w S cs x := cs = [.int .i64 x.node, .int .i64 x.arrival.early, .int .i64 x.arrival.late, .int .i64 x.slew.early, .int .i64 x.slew.late] ∧ S = [] ∧ I64 x.node ∧ I64 x.arrival.early ∧ I64 x.arrival.late ∧ I64 x.slew.early ∧ I64 x.slew.late
  ow_rp := by rintro _ _ _ _ _ _ ⟨rfl, rfl, h0, h1, h2, h3, h4⟩ hS; exact ⟨rfl, h0, h1, h2, h3, h4⟩
  ow_keep := by rintro _ _ _ _ _ ⟨rfl, rfl, h0, h1, h2, h3, h4⟩ hk; exact ⟨rfl, rfl, h0, h1, h2, h3, h4⟩
theorem Source.own {w : World} {S : List Nat} {v : Value} {x : Source} : Own w S v x ↔ v = .agg #[.int .i64 x.node, .int .i64 x.arrival.early, .int .i64 x.arrival.late, .int .i64 x.slew.early, .int .i64 x.slew.late] ∧ S = [] ∧ I64 x.node ∧ I64 x.arrival.early ∧ I64 x.arrival.late ∧ I64 x.slew.early ∧ I64 x.slew.late := by
  constructor
  · rintro ⟨_, ⟨rfl, rfl, h0, h1, h2, h3, h4⟩, rfl⟩; exact ⟨rfl, rfl, h0, h1, h2, h3, h4⟩
  · rintro ⟨rfl, rfl, h0, h1, h2, h3, h4⟩; exact ⟨_, ⟨rfl, rfl, h0, h1, h2, h3, h4⟩, rfl⟩
theorem Source.ext_ {x y : Source} (h0 : x.node = y.node) (h1 : x.arrival = y.arrival) (h2 : x.slew = y.slew) : x = y := by cases x; cases y; simp_all

instance : Ow Timing where
  ow w S cs x := ∃ v_reached v_arrival v_slew S_reached S_arrival S_slew, cs = [v_reached, v_arrival, v_slew] ∧ S = S_reached ++ S_arrival ++ S_slew ∧ OSl w S_reached v_reached x.reached ∧ OSl w S_arrival v_arrival x.arrival ∧ OSl w S_slew v_slew x.slew
  ow_rp := by rintro _ _ _ _ _ _ ⟨v_reached, v_arrival, v_slew, S_reached, S_arrival, S_slew, rfl, rfl, h0, h1, h2⟩ hS; exact ⟨v_reached, v_arrival, v_slew, rfl, h0.rsl (fun b hb => hS b (by simp [hb])), h1.rsl (fun b hb => hS b (by simp [hb])), h2.rsl (fun b hb => hS b (by simp [hb]))⟩
  ow_keep := by rintro _ _ _ _ _ ⟨v_reached, v_arrival, v_slew, S_reached, S_arrival, S_slew, rfl, rfl, h0, h1, h2⟩ hk; exact ⟨v_reached, v_arrival, v_slew, _, _, _, rfl, rfl, h0.keep (fun b hb => hk b (by simp [hb])), h1.keep (fun b hb => hk b (by simp [hb])), h2.keep (fun b hb => hk b (by simp [hb]))⟩
theorem Timing.own {w : World} {S : List Nat} {v : Value} {x : Timing} : Own w S v x ↔ ∃ v_reached v_arrival v_slew S_reached S_arrival S_slew, v = .agg #[v_reached, v_arrival, v_slew] ∧ S = S_reached ++ S_arrival ++ S_slew ∧ Own w S_reached v_reached x.reached ∧ Own w S_arrival v_arrival x.arrival ∧ Own w S_slew v_slew x.slew := by
  constructor
  · rintro ⟨_, ⟨v_reached, v_arrival, v_slew, S_reached, S_arrival, S_slew, rfl, rfl, h0, h1, h2⟩, rfl⟩; exact ⟨v_reached, v_arrival, v_slew, _, _, _, rfl, rfl, own_list.2 h0, own_list.2 h1, own_list.2 h2⟩
  · rintro ⟨v_reached, v_arrival, v_slew, S_reached, S_arrival, S_slew, rfl, rfl, h0, h1, h2⟩; exact ⟨_, ⟨v_reached, v_arrival, v_slew, _, _, _, rfl, rfl, own_list.1 h0, own_list.1 h1, own_list.1 h2⟩, rfl⟩
theorem Timing.ext_ {x y : Timing} (h0 : x.reached = y.reached) (h1 : x.arrival = y.arrival) (h2 : x.slew = y.slew) : x = y := by cases x; cases y; simp_all

instance : Ow Fraction where
  ow w S cs x := cs = [.int .i64 x.num, .int .i64 x.den] ∧ S = [] ∧ I64 x.num ∧ I64 x.den
  ow_rp := by rintro _ _ _ _ _ _ ⟨rfl, rfl, h0, h1⟩ hS; exact ⟨rfl, h0, h1⟩
  ow_keep := by rintro _ _ _ _ _ ⟨rfl, rfl, h0, h1⟩ hk; exact ⟨rfl, rfl, h0, h1⟩
theorem Fraction.own {w : World} {S : List Nat} {v : Value} {x : Fraction} : Own w S v x ↔ v = .agg #[.int .i64 x.num, .int .i64 x.den] ∧ S = [] ∧ I64 x.num ∧ I64 x.den := by
  constructor
  · rintro ⟨_, ⟨rfl, rfl, h0, h1⟩, rfl⟩; exact ⟨rfl, rfl, h0, h1⟩
  · rintro ⟨rfl, rfl, h0, h1⟩; exact ⟨_, ⟨rfl, rfl, h0, h1⟩, rfl⟩
theorem Fraction.ext_ {x y : Fraction} (h0 : x.num = y.num) (h1 : x.den = y.den) : x = y := by cases x; cases y; simp_all

instance : Ow Activity where
  ow w S cs x := cs = [.int .i64 x.high.num, .int .i64 x.high.den, .int .i64 x.density] ∧ S = [] ∧ I64 x.high.num ∧ I64 x.high.den ∧ I64 x.density
  ow_rp := by rintro _ _ _ _ _ _ ⟨rfl, rfl, h0, h1, h2⟩ hS; exact ⟨rfl, h0, h1, h2⟩
  ow_keep := by rintro _ _ _ _ _ ⟨rfl, rfl, h0, h1, h2⟩ hk; exact ⟨rfl, rfl, h0, h1, h2⟩
theorem Activity.own {w : World} {S : List Nat} {v : Value} {x : Activity} : Own w S v x ↔ v = .agg #[.int .i64 x.high.num, .int .i64 x.high.den, .int .i64 x.density] ∧ S = [] ∧ I64 x.high.num ∧ I64 x.high.den ∧ I64 x.density := by
  constructor
  · rintro ⟨_, ⟨rfl, rfl, h0, h1, h2⟩, rfl⟩; exact ⟨rfl, rfl, h0, h1, h2⟩
  · rintro ⟨rfl, rfl, h0, h1, h2⟩; exact ⟨_, ⟨rfl, rfl, h0, h1, h2⟩, rfl⟩
theorem Activity.ext_ {x y : Activity} (h0 : x.high = y.high) (h1 : x.density = y.density) : x = y := by cases x; cases y; simp_all

instance : Ow Power where
  ow w S cs x := cs = [.int .i64 x.switching, .int .i64 x.internal, .int .i64 x.leakage] ∧ S = [] ∧ I64 x.switching ∧ I64 x.internal ∧ I64 x.leakage
  ow_rp := by rintro _ _ _ _ _ _ ⟨rfl, rfl, h0, h1, h2⟩ hS; exact ⟨rfl, h0, h1, h2⟩
  ow_keep := by rintro _ _ _ _ _ ⟨rfl, rfl, h0, h1, h2⟩ hk; exact ⟨rfl, rfl, h0, h1, h2⟩
theorem Power.own {w : World} {S : List Nat} {v : Value} {x : Power} : Own w S v x ↔ v = .agg #[.int .i64 x.switching, .int .i64 x.internal, .int .i64 x.leakage] ∧ S = [] ∧ I64 x.switching ∧ I64 x.internal ∧ I64 x.leakage := by
  constructor
  · rintro ⟨_, ⟨rfl, rfl, h0, h1, h2⟩, rfl⟩; exact ⟨rfl, rfl, h0, h1, h2⟩
  · rintro ⟨rfl, rfl, h0, h1, h2⟩; exact ⟨_, ⟨rfl, rfl, h0, h1, h2⟩, rfl⟩
theorem Power.ext_ {x y : Power} (h0 : x.switching = y.switching) (h1 : x.internal = y.internal) (h2 : x.leakage = y.leakage) : x = y := by cases x; cases y; simp_all

instance : Ow Violation where
  ow w S cs x := cs = [.int .i64 x.place, .int .i64 x.kind, .int .i64 x.slack] ∧ S = [] ∧ I64 x.place ∧ I64 x.kind ∧ I64 x.slack
  ow_rp := by rintro _ _ _ _ _ _ ⟨rfl, rfl, h0, h1, h2⟩ hS; exact ⟨rfl, h0, h1, h2⟩
  ow_keep := by rintro _ _ _ _ _ ⟨rfl, rfl, h0, h1, h2⟩ hk; exact ⟨rfl, rfl, h0, h1, h2⟩
theorem Violation.own {w : World} {S : List Nat} {v : Value} {x : Violation} : Own w S v x ↔ v = .agg #[.int .i64 x.place, .int .i64 x.kind, .int .i64 x.slack] ∧ S = [] ∧ I64 x.place ∧ I64 x.kind ∧ I64 x.slack := by
  constructor
  · rintro ⟨_, ⟨rfl, rfl, h0, h1, h2⟩, rfl⟩; exact ⟨rfl, rfl, h0, h1, h2⟩
  · rintro ⟨rfl, rfl, h0, h1, h2⟩; exact ⟨_, ⟨rfl, rfl, h0, h1, h2⟩, rfl⟩
theorem Violation.ext_ {x y : Violation} (h0 : x.place = y.place) (h1 : x.kind = y.kind) (h2 : x.slack = y.slack) : x = y := by cases x; cases y; simp_all

instance : Ow Waiver where
  ow w S cs x := cs = [.int .i64 x.place, .int .i64 x.kind, .int .i64 x.floor, .int .i64 x.day, .string x.who] ∧ S = [] ∧ I64 x.place ∧ I64 x.kind ∧ I64 x.floor ∧ I64 x.day ∧ x.who.size ≤ maxLen
  ow_rp := by rintro _ _ _ _ _ _ ⟨rfl, rfl, h0, h1, h2, h3, h4⟩ hS; exact ⟨rfl, h0, h1, h2, h3, h4⟩
  ow_keep := by rintro _ _ _ _ _ ⟨rfl, rfl, h0, h1, h2, h3, h4⟩ hk; exact ⟨rfl, rfl, h0, h1, h2, h3, h4⟩
theorem Waiver.own {w : World} {S : List Nat} {v : Value} {x : Waiver} : Own w S v x ↔ v = .agg #[.int .i64 x.place, .int .i64 x.kind, .int .i64 x.floor, .int .i64 x.day, .string x.who] ∧ S = [] ∧ I64 x.place ∧ I64 x.kind ∧ I64 x.floor ∧ I64 x.day ∧ x.who.size ≤ 9223372036854775807 := by
  constructor
  · rintro ⟨_, ⟨rfl, rfl, h0, h1, h2, h3, h4⟩, rfl⟩; exact ⟨rfl, rfl, h0, h1, h2, h3, (by unfold maxLen at h4; omega)⟩
  · rintro ⟨rfl, rfl, h0, h1, h2, h3, h4⟩; exact ⟨_, ⟨rfl, rfl, h0, h1, h2, h3, (by unfold maxLen; omega)⟩, rfl⟩
theorem Waiver.ext_ {x y : Waiver} (h0 : x.place = y.place) (h1 : x.kind = y.kind) (h2 : x.floor = y.floor) (h3 : x.day = y.day) (h4 : x.who = y.who) : x = y := by cases x; cases y; simp_all

end Go.Proofs.YtfbbbgonapgfiaaDoor
