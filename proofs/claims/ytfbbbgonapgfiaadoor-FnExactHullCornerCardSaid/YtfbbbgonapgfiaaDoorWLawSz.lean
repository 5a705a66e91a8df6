/- The walks of the law's own helpers. Written by my laws.py. No condition of its own. -/
import Derived.Test.YtfbbbgonapgfiaaDoorTypes
import Derived.Test.YtfbbbgonapgfiaaDoorProg
namespace Go.Proofs.YtfbbbgonapgfiaaDoor
set_option linter.unusedSimpArgs false
set_option linter.unusedVariables false
open Go.RowKit

/-- What a size count leaves: at least what it began with less the bulk, or -1. -/
def SzOk (l : Int) (m : Nat) (r : Int) : Prop := ((m : Int) ≤ l ∧ r = l - m) ∨ (l < m ∧ r = -1)


def bulkSInt (xs : List Int) : Nat := xs.length

def bulkSBool (xs : List Bool) : Nat := xs.length

def bulkSStr (xs : List ByteArray) : Nat := xs.length + (xs.map fun x => x.size).sum

theorem bulkSStr_step (xs : List ByteArray) (k : Nat) (hk : k < xs.length) : ((xs.take (k + 1)).map fun x => x.size).sum = ((xs.take k).map fun x => x.size).sum + xs[k].size := by
  rw [List.take_succ_eq_append_getElem hk, List.map_append, List.sum_append]; simp
theorem bulkSStr_le (xs : List ByteArray) (k : Nat) : ((xs.take k).map fun x => x.size).sum ≤ (xs.map fun x => x.size).sum := by
  conv => rhs; rw [← List.take_append_drop k xs]
  rw [List.map_append, List.sum_append]; omega

def bulkSpan (x : Span) : Nat := 0

def bulkSSpan (xs : List Span) : Nat := xs.length

def bulkTable (x : Table) : Nat := bulkSInt x.slews + bulkSInt x.loads + bulkSInt x.values

def bulkSTable (xs : List Table) : Nat := xs.length + (xs.map fun x => bulkTable x).sum

theorem bulkSTable_step (xs : List Table) (k : Nat) (hk : k < xs.length) : ((xs.take (k + 1)).map fun x => bulkTable x).sum = ((xs.take k).map fun x => bulkTable x).sum + bulkTable xs[k] := by
  rw [List.take_succ_eq_append_getElem hk, List.map_append, List.sum_append]; simp
theorem bulkSTable_le (xs : List Table) (k : Nat) : ((xs.take k).map fun x => bulkTable x).sum ≤ (xs.map fun x => bulkTable x).sum := by
  conv => rhs; rw [← List.take_append_drop k xs]
  rw [List.map_append, List.sum_append]; omega

def bulkPin (x : Pin) : Nat := x.name.size

def bulkSPin (xs : List Pin) : Nat := xs.length + (xs.map fun x => bulkPin x).sum

theorem bulkSPin_step (xs : List Pin) (k : Nat) (hk : k < xs.length) : ((xs.take (k + 1)).map fun x => bulkPin x).sum = ((xs.take k).map fun x => bulkPin x).sum + bulkPin xs[k] := by
  rw [List.take_succ_eq_append_getElem hk, List.map_append, List.sum_append]; simp
theorem bulkSPin_le (xs : List Pin) (k : Nat) : ((xs.take k).map fun x => bulkPin x).sum ≤ (xs.map fun x => bulkPin x).sum := by
  conv => rhs; rw [← List.take_append_drop k xs]
  rw [List.map_append, List.sum_append]; omega

def bulkArc (x : Arc) : Nat := bulkSTable x.delay + bulkSTable x.slew

def bulkSArc (xs : List Arc) : Nat := xs.length + (xs.map fun x => bulkArc x).sum

theorem bulkSArc_step (xs : List Arc) (k : Nat) (hk : k < xs.length) : ((xs.take (k + 1)).map fun x => bulkArc x).sum = ((xs.take k).map fun x => bulkArc x).sum + bulkArc xs[k] := by
  rw [List.take_succ_eq_append_getElem hk, List.map_append, List.sum_append]; simp
theorem bulkSArc_le (xs : List Arc) (k : Nat) : ((xs.take k).map fun x => bulkArc x).sum ≤ (xs.map fun x => bulkArc x).sum := by
  conv => rhs; rw [← List.take_append_drop k xs]
  rw [List.map_append, List.sum_append]; omega

def bulkCell (x : Cell) : Nat := x.name.size + bulkSPin x.pins + bulkSArc x.arcs + bulkSInt x.truth

def bulkSCell (xs : List Cell) : Nat := xs.length + (xs.map fun x => bulkCell x).sum

theorem bulkSCell_step (xs : List Cell) (k : Nat) (hk : k < xs.length) : ((xs.take (k + 1)).map fun x => bulkCell x).sum = ((xs.take k).map fun x => bulkCell x).sum + bulkCell xs[k] := by
  rw [List.take_succ_eq_append_getElem hk, List.map_append, List.sum_append]; simp
theorem bulkSCell_le (xs : List Cell) (k : Nat) : ((xs.take k).map fun x => bulkCell x).sum ≤ (xs.map fun x => bulkCell x).sum := by
  conv => rhs; rw [← List.take_append_drop k xs]
  rw [List.map_append, List.sum_append]; omega

def bulkLibrary (x : Library) : Nat := bulkSCell x.cells

def bulkSLibrary (xs : List Library) : Nat := xs.length + (xs.map fun x => bulkLibrary x).sum

theorem bulkSLibrary_step (xs : List Library) (k : Nat) (hk : k < xs.length) : ((xs.take (k + 1)).map fun x => bulkLibrary x).sum = ((xs.take k).map fun x => bulkLibrary x).sum + bulkLibrary xs[k] := by
  rw [List.take_succ_eq_append_getElem hk, List.map_append, List.sum_append]; simp
theorem bulkSLibrary_le (xs : List Library) (k : Nat) : ((xs.take k).map fun x => bulkLibrary x).sum ≤ (xs.map fun x => bulkLibrary x).sum := by
  conv => rhs; rw [← List.take_append_drop k xs]
  rw [List.map_append, List.sum_append]; omega

def bulkInstance (x : Instance) : Nat := x.name.size + bulkSInt x.nets

def bulkSInstance (xs : List Instance) : Nat := xs.length + (xs.map fun x => bulkInstance x).sum

theorem bulkSInstance_step (xs : List Instance) (k : Nat) (hk : k < xs.length) : ((xs.take (k + 1)).map fun x => bulkInstance x).sum = ((xs.take k).map fun x => bulkInstance x).sum + bulkInstance xs[k] := by
  rw [List.take_succ_eq_append_getElem hk, List.map_append, List.sum_append]; simp
theorem bulkSInstance_le (xs : List Instance) (k : Nat) : ((xs.take k).map fun x => bulkInstance x).sum ≤ (xs.map fun x => bulkInstance x).sum := by
  conv => rhs; rw [← List.take_append_drop k xs]
  rw [List.map_append, List.sum_append]; omega

def bulkPort (x : Port) : Nat := x.name.size

def bulkSPort (xs : List Port) : Nat := xs.length + (xs.map fun x => bulkPort x).sum

theorem bulkSPort_step (xs : List Port) (k : Nat) (hk : k < xs.length) : ((xs.take (k + 1)).map fun x => bulkPort x).sum = ((xs.take k).map fun x => bulkPort x).sum + bulkPort xs[k] := by
  rw [List.take_succ_eq_append_getElem hk, List.map_append, List.sum_append]; simp
theorem bulkSPort_le (xs : List Port) (k : Nat) : ((xs.take k).map fun x => bulkPort x).sum ≤ (xs.map fun x => bulkPort x).sum := by
  conv => rhs; rw [← List.take_append_drop k xs]
  rw [List.map_append, List.sum_append]; omega

def bulkDesign (x : Design) : Nat := bulkSInstance x.instances + bulkSStr x.nets + bulkSPort x.ports

def bulkSDesign (xs : List Design) : Nat := xs.length + (xs.map fun x => bulkDesign x).sum

theorem bulkSDesign_step (xs : List Design) (k : Nat) (hk : k < xs.length) : ((xs.take (k + 1)).map fun x => bulkDesign x).sum = ((xs.take k).map fun x => bulkDesign x).sum + bulkDesign xs[k] := by
  rw [List.take_succ_eq_append_getElem hk, List.map_append, List.sum_append]; simp
theorem bulkSDesign_le (xs : List Design) (k : Nat) : ((xs.take k).map fun x => bulkDesign x).sum ≤ (xs.map fun x => bulkDesign x).sum := by
  conv => rhs; rw [← List.take_append_drop k xs]
  rw [List.map_append, List.sum_append]; omega

def bulkWire (x : Wire) : Nat := bulkSInt x.parent + bulkSInt x.res + bulkSInt x.cap + bulkSInt x.sink

def bulkSWire (xs : List Wire) : Nat := xs.length + (xs.map fun x => bulkWire x).sum

theorem bulkSWire_step (xs : List Wire) (k : Nat) (hk : k < xs.length) : ((xs.take (k + 1)).map fun x => bulkWire x).sum = ((xs.take k).map fun x => bulkWire x).sum + bulkWire xs[k] := by
  rw [List.take_succ_eq_append_getElem hk, List.map_append, List.sum_append]; simp
theorem bulkSWire_le (xs : List Wire) (k : Nat) : ((xs.take k).map fun x => bulkWire x).sum ≤ (xs.map fun x => bulkWire x).sum := by
  conv => rhs; rw [← List.take_append_drop k xs]
  rw [List.map_append, List.sum_append]; omega

def bulkBlock (x : Block) : Nat := bulkLibrary x.library + bulkDesign x.design + bulkSWire x.wires

def bulkSBlock (xs : List Block) : Nat := xs.length + (xs.map fun x => bulkBlock x).sum

theorem bulkSBlock_step (xs : List Block) (k : Nat) (hk : k < xs.length) : ((xs.take (k + 1)).map fun x => bulkBlock x).sum = ((xs.take k).map fun x => bulkBlock x).sum + bulkBlock xs[k] := by
  rw [List.take_succ_eq_append_getElem hk, List.map_append, List.sum_append]; simp
theorem bulkSBlock_le (xs : List Block) (k : Nat) : ((xs.take k).map fun x => bulkBlock x).sum ≤ (xs.map fun x => bulkBlock x).sum := by
  conv => rhs; rw [← List.take_append_drop k xs]
  rw [List.map_append, List.sum_append]; omega

def bulkCorner (x : Corner) : Nat := x.name.size

set_option maxRecDepth 100000 in
set_option maxHeartbeats 1000000 in
theorem w_szCorner (v : Value) (x : Corner) (l : Int) (w : World) (hv : Rd w v x) (h0 : 0 ≤ l) (h1 : l ≤ 1048576) :
    Calls Tryd.prog 8 #[v, .int .i64 l] w fun e w' => ∃ r, e = .returned (.int .i64 r) ∧ SzOk l (bulkCorner x) r ∧ Ext w w' := by
  obtain ⟨rfl, h_name, h_cellEarly, h_cellLate, h_wireEarly, h_wireLate⟩ := Corner.rd.1 hv
  clear hv
  go_enter Tryd.func8, Tryd.ntmps8
  go_wp2
  all_goals go_ret
  all_goals refine ⟨_, rfl, ?_, (by (repeat (first | with_reducible exact Ext.refl _ | with_reducible assumption | with_reducible refine Ext.drew ?_ | with_reducible refine Ext.drewN ?_ _ | with_reducible refine Ext.alloc ?_ _ | ((with_reducible refine Ext.setCell ?_ ?_ _); rotate_left; focus (first | omega | (simp; done) | (simp; omega))) | with_reducible refine Ext.trans ?_ (by with_reducible assumption))))⟩
  all_goals (unfold SzOk bulkCorner; omega)

def bulkSCorner (xs : List Corner) : Nat := xs.length + (xs.map fun x => bulkCorner x).sum

theorem bulkSCorner_step (xs : List Corner) (k : Nat) (hk : k < xs.length) : ((xs.take (k + 1)).map fun x => bulkCorner x).sum = ((xs.take k).map fun x => bulkCorner x).sum + bulkCorner xs[k] := by
  rw [List.take_succ_eq_append_getElem hk, List.map_append, List.sum_append]; simp
theorem bulkSCorner_le (xs : List Corner) (k : Nat) : ((xs.take k).map fun x => bulkCorner x).sum ≤ (xs.map fun x => bulkCorner x).sum := by
  conv => rhs; rw [← List.take_append_drop k xs]
  rw [List.map_append, List.sum_append]; omega

set_option maxRecDepth 100000 in
set_option maxHeartbeats 1000000 in
theorem w_szSCorner (v : Value) (xs : List Corner) (l : Int) (w : World) (hv : Rd w v xs) (h0 : 0 ≤ l) (h1 : l ≤ 1048576) :
    Calls Tryd.prog 15 #[v, .int .i64 l] w fun e w' => ∃ r, e = .returned (.int .i64 r) ∧ SzOk l (bulkSCorner xs) r ∧ Ext w w' := by
  obtain ⟨A, cap, rfl, hcap, hmax⟩ := hv.form
  have Hv := Lib.hid hv; clear hv
  go_enter Tryd.func15, Tryd.ntmps15
  go_wp2
  · go_ret; refine ⟨_, rfl, ?_, (by (repeat (first | with_reducible exact Ext.refl _ | with_reducible assumption | with_reducible refine Ext.drew ?_ | with_reducible refine Ext.drewN ?_ _ | with_reducible refine Ext.alloc ?_ _ | ((with_reducible refine Ext.setCell ?_ ?_ _); rotate_left; focus (first | omega | (simp; done) | (simp; omega))) | with_reducible refine Ext.trans ?_ (by with_reducible assumption))))⟩; unfold SzOk bulkSCorner; omega
  · go_loopw [5, 1] (fun i u wr => ∃ k : Nat, ∃ l2 : Int, k ≤ xs.length ∧ i = .int .i64 k ∧ u = .int .i64 l2 ∧ 0 ≤ l2 ∧ l2 ≤ 1048576 ∧ Ext w wr ∧ Hid (l2 = l - xs.length - ((xs.take k).map fun x => bulkCorner x).sum)) (fun i _ _ => xs.length - (intOf i).toNat)
    case atStart => exact ⟨0, l - xs.length, by omega, rfl, rfl, by omega, by omega, Ext.refl _, by unfold Hid; simp⟩
    case round =>
      obtain ⟨k, l2, hk, rfl, rfl, hl0, hl1, hb, Hs⟩ := hrel
      by_cases hlt : k < xs.length
      · obtain ⟨b, o, rfl, hbl, g0, g1, g2, g3, g4, grd, f0, f1, f2, f3, f4⟩ := Rd.atCorner (Hv.out.up hb) k hlt
        have hst := Lib.hid (bulkSCorner_step xs k hlt); have hle := Lib.hid (bulkSCorner_le xs (k + 1))
        go_wp2_with (go_at_call 8; refine (w_szCorner _ _ _ _ grd (by omega) (by omega)).mono ?_; rintro e w1 ⟨r, rfl, hr, hb1⟩; have hr := Lib.hid hr)
        · go_ret; refine ⟨_, rfl, ?_, (by (repeat (first | with_reducible exact Ext.refl _ | with_reducible assumption | with_reducible refine Ext.drew ?_ | with_reducible refine Ext.drewN ?_ _ | with_reducible refine Ext.alloc ?_ _ | ((with_reducible refine Ext.setCell ?_ ?_ _); rotate_left; focus (first | omega | (simp; done) | (simp; omega))) | with_reducible refine Ext.trans ?_ (by with_reducible assumption))))⟩; have h1 := hst.out; have h2 := hle.out; have h3 := Hs.out; have := hr.out; unfold SzOk at this; unfold SzOk bulkSCorner; omega
        · go_roundw
          case rel => exact ⟨k + 1, _, by omega, by go_num, rfl, by omega, by have := hr.out; unfold SzOk at this; omega, (by (repeat (first | with_reducible exact Ext.refl _ | with_reducible assumption | with_reducible refine Ext.drew ?_ | with_reducible refine Ext.drewN ?_ _ | with_reducible refine Ext.alloc ?_ _ | ((with_reducible refine Ext.setCell ?_ ?_ _); rotate_left; focus (first | omega | (simp; done) | (simp; omega))) | with_reducible refine Ext.trans ?_ (by with_reducible assumption)))), by have h1 := hst.out; have h3 := Hs.out; have := hr.out; unfold SzOk at this; unfold Hid; omega⟩
          case measure => simp [intOf]; omega
      · go_wp2
        go_ret
        refine ⟨_, rfl, ?_, (by (repeat (first | with_reducible exact Ext.refl _ | with_reducible assumption | with_reducible refine Ext.drew ?_ | with_reducible refine Ext.drewN ?_ _ | with_reducible refine Ext.alloc ?_ _ | ((with_reducible refine Ext.setCell ?_ ?_ _); rotate_left; focus (first | omega | (simp; done) | (simp; omega))) | with_reducible refine Ext.trans ?_ (by with_reducible assumption))))⟩
        have h3 := Hs.out
        rw [List.take_of_length_le (by omega)] at h3
        unfold SzOk bulkSCorner; omega

def bulkSource (x : Source) : Nat := 0

def bulkSSource (xs : List Source) : Nat := xs.length

def bulkTiming (x : Timing) : Nat := bulkSBool x.reached + bulkSSpan x.arrival + bulkSSpan x.slew

def bulkSTiming (xs : List Timing) : Nat := xs.length + (xs.map fun x => bulkTiming x).sum

theorem bulkSTiming_step (xs : List Timing) (k : Nat) (hk : k < xs.length) : ((xs.take (k + 1)).map fun x => bulkTiming x).sum = ((xs.take k).map fun x => bulkTiming x).sum + bulkTiming xs[k] := by
  rw [List.take_succ_eq_append_getElem hk, List.map_append, List.sum_append]; simp
theorem bulkSTiming_le (xs : List Timing) (k : Nat) : ((xs.take k).map fun x => bulkTiming x).sum ≤ (xs.map fun x => bulkTiming x).sum := by
  conv => rhs; rw [← List.take_append_drop k xs]
  rw [List.map_append, List.sum_append]; omega

def bulkFraction (x : Fraction) : Nat := 0

def bulkSFraction (xs : List Fraction) : Nat := xs.length

def bulkActivity (x : Activity) : Nat := 0

def bulkSActivity (xs : List Activity) : Nat := xs.length

def bulkPower (x : Power) : Nat := 0

def bulkSPower (xs : List Power) : Nat := xs.length

def bulkViolation (x : Violation) : Nat := 0

def bulkSViolation (xs : List Violation) : Nat := xs.length

def bulkWaiver (x : Waiver) : Nat := x.who.size

def bulkSWaiver (xs : List Waiver) : Nat := xs.length + (xs.map fun x => bulkWaiver x).sum

theorem bulkSWaiver_step (xs : List Waiver) (k : Nat) (hk : k < xs.length) : ((xs.take (k + 1)).map fun x => bulkWaiver x).sum = ((xs.take k).map fun x => bulkWaiver x).sum + bulkWaiver xs[k] := by
  rw [List.take_succ_eq_append_getElem hk, List.map_append, List.sum_append]; simp
theorem bulkSWaiver_le (xs : List Waiver) (k : Nat) : ((xs.take k).map fun x => bulkWaiver x).sum ≤ (xs.map fun x => bulkWaiver x).sum := by
  conv => rhs; rw [← List.take_append_drop k xs]
  rw [List.map_append, List.sum_append]; omega

end Go.Proofs.YtfbbbgonapgfiaaDoor
