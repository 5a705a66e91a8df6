/- The walk of the law on HullCorner. No condition. -/
import Derived.Test.YtfbbbgonapgfiaaDoorWHull
import Derived.Test.YtfbbbgonapgfiaaDoorWLawCorner
namespace Go.Proofs.YtfbbbgonapgfiaaDoor
set_option linter.unusedSimpArgs false
set_option linter.unusedVariables false
open Go.RowKit

def inC (n : Int) : Prop := 0 ≤ n ∧ n ≤ 5000
theorem hullTo_in (nm : ByteArray) (l : List Corner) (hl : ∀ x ∈ l, inC x.cellEarly ∧ inC x.cellLate ∧ inC x.wireEarly ∧ inC x.wireLate) :
    ∀ o : Corner, inC o.cellEarly ∧ inC o.cellLate ∧ inC o.wireEarly ∧ inC o.wireLate →
      inC (hullTo nm o l).cellEarly ∧ inC (hullTo nm o l).cellLate ∧ inC (hullTo nm o l).wireEarly ∧ inC (hullTo nm o l).wireLate := by
  induction l with
  | nil => intro o h; exact h
  | cons a l ih =>
    intro o h
    refine ih (fun x hx => hl x (by simp [hx])) (hullStep nm o a) ?_
    have ha := hl a (by simp)
    unfold inC at *
    unfold hullStep
    simp only
    omega
theorem hullTo_nm (nm : ByteArray) (l : List Corner) (h : 0 < l.length) : ∀ o : Corner, (hullTo nm o l).name = nm := by
  cases l with
  | nil => simp at h
  | cons a l => intro o; exact hullTo_name nm l (hullStep nm o a) rfl
theorem HullR.rd {xs : List Corner} {nm : ByteArray} {r : Corner} {c : Int} (h : HullR xs nm r c) (w : World) : Rd w (cornerV r) r ∧ I64 c := by
  rcases h with ⟨a, rfl, rfl⟩ | ⟨a, b, rfl, rfl⟩ | ⟨a, b, rfl, rfl⟩
  · exact ⟨Corner.rd.2 ⟨rfl, by decide, .mk (by decide) (by decide), .mk (by decide) (by decide), .mk (by decide) (by decide), .mk (by decide) (by decide)⟩, .mk (by decide) (by decide)⟩
  · exact ⟨Corner.rd.2 ⟨rfl, by decide, .mk (by decide) (by decide), .mk (by decide) (by decide), .mk (by decide) (by decide), .mk (by decide) (by decide)⟩, .mk (by decide) (by decide)⟩
  · have hall : ∀ x ∈ xs, inC x.cellEarly ∧ inC x.cellLate ∧ inC x.wireEarly ∧ inC x.wireLate := by
      intro x hx
      obtain ⟨k, hk, rfl⟩ := List.getElem_of_mem hx
      have := a.2.2.1 k hk
      unfold CornerP FactorsP at this
      unfold inC
      omega
    have h0 := hullTo_in nm xs hall (xs.headD zeroCorner) (by
      cases xs with
      | nil => have := a.1; simp at this
      | cons b l => exact hall b (by simp))
    have hn := hullTo_nm nm xs a.1 (xs.headD zeroCorner)
    generalize hullTo nm (xs.headD zeroCorner) xs = o at *
    unfold inC at h0
    refine ⟨Corner.rd.2 ⟨rfl, by rw [hn]; have := b.2.1; omega, .mk (by omega) (by omega), .mk (by omega) (by omega), .mk (by omega) (by omega), .mk (by omega) (by omega)⟩, .mk (by omega) (by omega)⟩

set_option maxRecDepth 100000 in
set_option maxHeartbeats 1000000 in
theorem w_FnExactHullCorner (v : Value) (xs : List Corner) (u : Value) (nm : ByteArray) (w : World) (hv : Rd w v xs) (hu : Rd w u nm) :
    Calls Tryd.prog 6 #[v, u] w fun e w' => e = .returned (.bool true) ∧ Ext w w' := by
  obtain ⟨A, cap, rfl, hcap, hmax⟩ := hv.form
  have Hv := Lib.hid hv; clear hv
  have Hu := Lib.hid hu
  obtain ⟨rfl, hs⟩ := rd_str.1 hu
  clear hu
  have tok1 : True := trivial
  have tok2 : True := trivial
  go_enter Tryd.func6, Tryd.ntmps6
  go_wp2_with (go_at_call 15; refine (w_szSCorner _ xs _ _ (Hv.out.up (by (repeat (first | with_reducible exact Ext.refl _ | with_reducible assumption | with_reducible refine Ext.drew ?_ | with_reducible refine Ext.drewN ?_ _ | with_reducible refine Ext.alloc ?_ _ | ((with_reducible refine Ext.setCell ?_ ?_ _); rotate_left; focus (first | omega | (simp; done) | (simp; omega))) | with_reducible refine Ext.trans ?_ (by with_reducible assumption))))) (by omega) (by omega)).mono ?_; rintro e w1 ⟨r1, rfl, hr1, he⟩; have hr1 := Lib.hid hr1)
  · go_ret
    exact ⟨rfl, (by (repeat (first | with_reducible exact Ext.refl _ | with_reducible assumption | with_reducible refine Ext.drew ?_ | with_reducible refine Ext.drewN ?_ _ | with_reducible refine Ext.alloc ?_ _ | ((with_reducible refine Ext.setCell ?_ ?_ _); rotate_left; focus (first | omega | (simp; done) | (simp; omega))) | with_reducible refine Ext.trans ?_ (by with_reducible assumption))))⟩
  · go_ret
    exact ⟨rfl, (by (repeat (first | with_reducible exact Ext.refl _ | with_reducible assumption | with_reducible refine Ext.drew ?_ | with_reducible refine Ext.drewN ?_ _ | with_reducible refine Ext.alloc ?_ _ | ((with_reducible refine Ext.setCell ?_ ?_ _); rotate_left; focus (first | omega | (simp; done) | (simp; omega))) | with_reducible refine Ext.trans ?_ (by with_reducible assumption))))⟩
  · have hk : bulkSCorner xs ≤ 1048576 := by have := hr1.out; unfold SzOk at this; omega
    have hl : xs.length ≤ 1048576 := by unfold bulkSCorner at hk; omega
    go_wp2_with (first
      | (go_at_call 17; have _t := tok1; refine (w_toSCorner _ xs _ (Hv.out.up (by (repeat (first | with_reducible exact Ext.refl _ | with_reducible assumption | with_reducible refine Ext.drew ?_ | with_reducible refine Ext.drewN ?_ _ | with_reducible refine Ext.alloc ?_ _ | ((with_reducible refine Ext.setCell ?_ ?_ _); rotate_left; focus (first | omega | (simp; done) | (simp; omega))) | with_reducible refine Ext.trans ?_ (by with_reducible assumption))))) hk).mono ?_; rintro e w2 ⟨u2, S2, rfl, ho2, hn2, he2⟩; clear tok1; have hd2 := Lib.hid (Fresh.rd ⟨S2, ho2, hn2⟩))
      | (go_at_call 20; refine (w_sHullCorner _ _ xs nm _ (hd2.out.up (by (repeat (first | with_reducible exact Ext.refl _ | with_reducible assumption | with_reducible refine Ext.drew ?_ | with_reducible refine Ext.drewN ?_ _ | with_reducible refine Ext.alloc ?_ _ | ((with_reducible refine Ext.setCell ?_ ?_ _); rotate_left; focus (first | omega | (simp; done) | (simp; omega))) | with_reducible refine Ext.trans ?_ (by with_reducible assumption))))) (Hu.out.up (by (repeat (first | with_reducible exact Ext.refl _ | with_reducible assumption | with_reducible refine Ext.drew ?_ | with_reducible refine Ext.drewN ?_ _ | with_reducible refine Ext.alloc ?_ _ | ((with_reducible refine Ext.setCell ?_ ?_ _); rotate_left; focus (first | omega | (simp; done) | (simp; omega))) | with_reducible refine Ext.trans ?_ (by with_reducible assumption)))))).mono ?_; rintro e w3 ⟨⟨a, ca, hra, rfl⟩, he3⟩; simp only [cornerV]; have Hra := Lib.hid hra; clear hra)
      | (go_at_call 17; have _t := tok2; refine (w_toSCorner _ xs _ (Hv.out.up (by (repeat (first | with_reducible exact Ext.refl _ | with_reducible assumption | with_reducible refine Ext.drew ?_ | with_reducible refine Ext.drewN ?_ _ | with_reducible refine Ext.alloc ?_ _ | ((with_reducible refine Ext.setCell ?_ ?_ _); rotate_left; focus (first | omega | (simp; done) | (simp; omega))) | with_reducible refine Ext.trans ?_ (by with_reducible assumption))))) hk).mono ?_; rintro e w4 ⟨u4, S4, rfl, ho4, hn4, he4⟩; clear tok2; have hd4 := Lib.hid (Fresh.rd ⟨S4, ho4, hn4⟩); have hz_he4 := he4.size; (try simp at hz_he4); obtain ⟨hl_he4_0, hf_he4_0⟩ := he4.loc (w3.heap.size) (by first | omega | (simp; done) | (simp; omega)))
      | (go_at_call 21; refine (w_HullCorner _ _ xs nm _ (hd4.out.up (by (repeat (first | with_reducible exact Ext.refl _ | with_reducible assumption | with_reducible refine Ext.drew ?_ | with_reducible refine Ext.drewN ?_ _ | with_reducible refine Ext.alloc ?_ _ | ((with_reducible refine Ext.setCell ?_ ?_ _); rotate_left; focus (first | omega | (simp; done) | (simp; omega))) | with_reducible refine Ext.trans ?_ (by with_reducible assumption))))) (Hu.out.up (by (repeat (first | with_reducible exact Ext.refl _ | with_reducible assumption | with_reducible refine Ext.drew ?_ | with_reducible refine Ext.drewN ?_ _ | with_reducible refine Ext.alloc ?_ _ | ((with_reducible refine Ext.setCell ?_ ?_ _); rotate_left; focus (first | omega | (simp; done) | (simp; omega))) | with_reducible refine Ext.trans ?_ (by with_reducible assumption))))) hl).mono ?_; rintro e w5 ⟨⟨a', ca', hra, rfl⟩, he5⟩; obtain ⟨rfl, rfl⟩ := HullR.det hra Hra.out; clear hra; simp only [cornerV]; have hz_he5 := he5.size; (try simp at hz_he5); obtain ⟨hl_he5_0, hf_he5_0⟩ := he5.loc (w3.heap.size) (by first | omega | (simp; done) | (simp; omega)); have hlt5 : w3.heap.size < w5.heap.size := (by omega))
      | (go_at_call 22; refine (w_eqCorner _ _ a' a' _ (Hra.out.rd _).1 (Hra.out.rd _).1).mono ?_; rintro e w7 ⟨rfl, he7⟩)
      | (go_at_call 17; refine (w_toSCorner _ xs _ (Hv.out.up (by (repeat (first | with_reducible exact Ext.refl _ | with_reducible assumption | with_reducible refine Ext.drew ?_ | with_reducible refine Ext.drewN ?_ _ | with_reducible refine Ext.alloc ?_ _ | ((with_reducible refine Ext.setCell ?_ ?_ _); rotate_left; focus (first | omega | (simp; done) | (simp; omega))) | with_reducible refine Ext.trans ?_ (by with_reducible assumption))))) hk).mono ?_; rintro e w6 ⟨u6, S6, rfl, ho6, hn6, he6⟩; have hd6 := Lib.hid (Fresh.rd ⟨S6, ho6, hn6⟩))
      | (go_at_call 19; refine (w_eqSCorner _ _ xs xs _ (hd4.out.up (by (repeat (first | with_reducible exact Ext.refl _ | with_reducible assumption | with_reducible refine Ext.drew ?_ | with_reducible refine Ext.drewN ?_ _ | with_reducible refine Ext.alloc ?_ _ | ((with_reducible refine Ext.setCell ?_ ?_ _); rotate_left; focus (first | omega | (simp; done) | (simp; omega))) | with_reducible refine Ext.trans ?_ (by with_reducible assumption))))) (hd6.out.up (by (repeat (first | with_reducible exact Ext.refl _ | with_reducible assumption | with_reducible refine Ext.drew ?_ | with_reducible refine Ext.drewN ?_ _ | with_reducible refine Ext.alloc ?_ _ | ((with_reducible refine Ext.setCell ?_ ?_ _); rotate_left; focus (first | omega | (simp; done) | (simp; omega))) | with_reducible refine Ext.trans ?_ (by with_reducible assumption)))))).mono ?_; rintro e w8 ⟨rfl, he8⟩))
    · go_ret
      exact ⟨rfl, (by (repeat (first | with_reducible exact Ext.refl _ | with_reducible assumption | with_reducible refine Ext.drew ?_ | with_reducible refine Ext.drewN ?_ _ | with_reducible refine Ext.alloc ?_ _ | ((with_reducible refine Ext.setCell ?_ ?_ _); rotate_left; focus (first | omega | (simp; done) | (simp; omega))) | with_reducible refine Ext.trans ?_ (by with_reducible assumption))))⟩
    · exfalso
      have hh : ¬ tf True = true := by assumption
      exact hh (tf_mk trivial)
end Go.Proofs.YtfbbbgonapgfiaaDoor
