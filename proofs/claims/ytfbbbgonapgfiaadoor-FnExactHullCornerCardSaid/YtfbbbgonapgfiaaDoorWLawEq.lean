/- The walks of the law's own helpers. Written by my laws.py. No condition of its own. -/
import Derived.Test.YtfbbbgonapgfiaaDoorOwnTypes
import Derived.Test.YtfbbbgonapgfiaaDoorProg
namespace Go.Proofs.YtfbbbgonapgfiaaDoor
set_option linter.unusedSimpArgs false
set_option linter.unusedVariables false
open Go.RowKit



set_option maxRecDepth 100000 in
set_option maxHeartbeats 1000000 in
theorem w_eqSInt (v u : Value) (xs ys : List Int) (w : World) (hv : Rd w v xs) (hu : Rd w u ys) :
    Calls Tryd.prog 25 #[v, u] w fun e w' => e = .returned (.bool (tf (xs = ys))) ∧ Ext w w' := by
  obtain ⟨A, cap, rfl, hcap, hmax⟩ := hv.form
  obtain ⟨A', cap', rfl, hcap', hmax'⟩ := hu.form
  have Hv := Lib.hid hv; clear hv
  have Hu := Lib.hid hu; clear hu
  by_cases hn : xs.length = ys.length
  · have hne : ((xs.length : Int) != (ys.length : Int)) = false := by simp [hn]
    have Hn := Lib.hid hn; clear hn
    go_enter Tryd.func25, Tryd.ntmps25
    go_wp2
    go_loopw [5] (fun i wr => ∃ k : Nat, k ≤ xs.length ∧ i = .int .i64 k ∧ Ext w wr ∧ Hid (∀ j (h : j < xs.length) (h' : j < ys.length), j < k → xs[j] = ys[j])) (fun i _ => xs.length - (intOf i).toNat)
    case atStart => exact ⟨0, by omega, rfl, Ext.refl _, fun _ _ _ h => by omega⟩
    case round =>
      obtain ⟨k, hk, rfl, hb, Hs⟩ := hrel
      by_cases hlt : k < xs.length
      · have hlt' : k < ys.length := by have := Hn.out; omega
        obtain ⟨b, o, rfl, hbl, g0, gi⟩ := Rd.atInt (Hv.out.up hb) k hlt
        obtain ⟨b', o', rfl, hbl', g0', gi'⟩ := Rd.atInt (Hu.out.up hb) k hlt'
        go_wp2
        go_quiet (fail)
        go_wp2
        · go_ret
          refine ⟨ret_bool (tf_mk_not ?_).symm, (by (repeat (first | with_reducible exact Ext.refl _ | with_reducible assumption | with_reducible refine Ext.drew ?_ | with_reducible refine Ext.drewN ?_ _ | with_reducible refine Ext.alloc ?_ _ | ((with_reducible refine Ext.setCell ?_ ?_ _); rotate_left; focus (first | omega | (simp; done) | (simp; omega))) | with_reducible refine Ext.trans ?_ (by with_reducible assumption))))⟩
          intro hxy
          have hh : (xs[k] != ys[k]) = true := by assumption
          have he : xs[k] = ys[k] := by subst hxy; rfl
          rw [he] at hh; simp at hh
        · have hh : (xs[k] != ys[k]) = false := by assumption
          have hh : xs[k] = ys[k] := by simpa using hh
          have hh := Lib.hid hh
          go_roundw
          case rel => exact ⟨k + 1, by omega, by go_num, (by (repeat (first | with_reducible exact Ext.refl _ | with_reducible assumption | with_reducible refine Ext.drew ?_ | with_reducible refine Ext.drewN ?_ _ | with_reducible refine Ext.alloc ?_ _ | ((with_reducible refine Ext.setCell ?_ ?_ _); rotate_left; focus (first | omega | (simp; done) | (simp; omega))) | with_reducible refine Ext.trans ?_ (by with_reducible assumption)))), fun j h h' hj => by
            rcases Nat.lt_or_ge j k with hjk | hjk
            · exact Hs.out j h h' hjk
            · obtain rfl : j = k := by omega
              exact hh.out⟩
          case measure => simp [intOf]; omega
      · go_wp2
        go_ret
        refine ⟨ret_bool (tf_mk ?_).symm, (by (repeat (first | with_reducible exact Ext.refl _ | with_reducible assumption | with_reducible refine Ext.drew ?_ | with_reducible refine Ext.drewN ?_ _ | with_reducible refine Ext.alloc ?_ _ | ((with_reducible refine Ext.setCell ?_ ?_ _); rotate_left; focus (first | omega | (simp; done) | (simp; omega))) | with_reducible refine Ext.trans ?_ (by with_reducible assumption))))⟩
        exact List.ext_getElem Hn.out fun j h h' => Hs.out j h h' (by omega)
  · have hne : ((xs.length : Int) != (ys.length : Int)) = true := by simp; omega
    have Hn := Lib.hid hn; clear hn
    go_enter Tryd.func25, Tryd.ntmps25
    go_wp2
    go_ret
    exact ⟨ret_bool (tf_mk_not fun h => Hn.out (by rw [h])).symm, (by (repeat (first | with_reducible exact Ext.refl _ | with_reducible assumption | with_reducible refine Ext.drew ?_ | with_reducible refine Ext.drewN ?_ _ | with_reducible refine Ext.alloc ?_ _ | ((with_reducible refine Ext.setCell ?_ ?_ _); rotate_left; focus (first | omega | (simp; done) | (simp; omega))) | with_reducible refine Ext.trans ?_ (by with_reducible assumption))))⟩

set_option maxRecDepth 100000 in
set_option maxHeartbeats 1000000 in
theorem w_eqCorner (v u : Value) (x y : Corner) (w : World) (hv : Rd w v x) (hu : Rd w u y) :
    Calls Tryd.prog 22 #[v, u] w fun e w' => e = .returned (.bool (tf (x = y))) ∧ Ext w w' := by
  obtain ⟨rfl, h_name, h_cellEarly, h_cellLate, h_wireEarly, h_wireLate⟩ := Corner.rd.1 hv
  obtain ⟨rfl, h'_name, h'_cellEarly, h'_cellLate, h'_wireEarly, h'_wireLate⟩ := Corner.rd.1 hu
  clear hv hu
  go_enter Tryd.func22, Tryd.ntmps22
  go_wp2
  · go_ret; refine ⟨ret_bool (tf_mk_not ?_).symm, (by (repeat (first | with_reducible exact Ext.refl _ | with_reducible assumption | with_reducible refine Ext.drew ?_ | with_reducible refine Ext.drewN ?_ _ | with_reducible refine Ext.alloc ?_ _ | ((with_reducible refine Ext.setCell ?_ ?_ _); rotate_left; focus (first | omega | (simp; done) | (simp; omega))) | with_reducible refine Ext.trans ?_ (by with_reducible assumption))))⟩; intro hxy; have hh : (!x.name.toList == y.name.toList) = true := (by assumption); rw [hxy] at hh; simp [tf_mk] at hh
  · go_ret; refine ⟨ret_bool (tf_mk_not ?_).symm, (by (repeat (first | with_reducible exact Ext.refl _ | with_reducible assumption | with_reducible refine Ext.drew ?_ | with_reducible refine Ext.drewN ?_ _ | with_reducible refine Ext.alloc ?_ _ | ((with_reducible refine Ext.setCell ?_ ?_ _); rotate_left; focus (first | omega | (simp; done) | (simp; omega))) | with_reducible refine Ext.trans ?_ (by with_reducible assumption))))⟩; intro hxy; have hh : (x.cellEarly != y.cellEarly) = true := (by assumption); rw [hxy] at hh; simp [tf_mk] at hh
  · go_ret; refine ⟨ret_bool (tf_mk_not ?_).symm, (by (repeat (first | with_reducible exact Ext.refl _ | with_reducible assumption | with_reducible refine Ext.drew ?_ | with_reducible refine Ext.drewN ?_ _ | with_reducible refine Ext.alloc ?_ _ | ((with_reducible refine Ext.setCell ?_ ?_ _); rotate_left; focus (first | omega | (simp; done) | (simp; omega))) | with_reducible refine Ext.trans ?_ (by with_reducible assumption))))⟩; intro hxy; have hh : (x.cellLate != y.cellLate) = true := (by assumption); rw [hxy] at hh; simp [tf_mk] at hh
  · go_ret; refine ⟨ret_bool (tf_mk_not ?_).symm, (by (repeat (first | with_reducible exact Ext.refl _ | with_reducible assumption | with_reducible refine Ext.drew ?_ | with_reducible refine Ext.drewN ?_ _ | with_reducible refine Ext.alloc ?_ _ | ((with_reducible refine Ext.setCell ?_ ?_ _); rotate_left; focus (first | omega | (simp; done) | (simp; omega))) | with_reducible refine Ext.trans ?_ (by with_reducible assumption))))⟩; intro hxy; have hh : (x.wireEarly != y.wireEarly) = true := (by assumption); rw [hxy] at hh; simp [tf_mk] at hh
  · go_ret; refine ⟨ret_bool (tf_mk_not ?_).symm, (by (repeat (first | with_reducible exact Ext.refl _ | with_reducible assumption | with_reducible refine Ext.drew ?_ | with_reducible refine Ext.drewN ?_ _ | with_reducible refine Ext.alloc ?_ _ | ((with_reducible refine Ext.setCell ?_ ?_ _); rotate_left; focus (first | omega | (simp; done) | (simp; omega))) | with_reducible refine Ext.trans ?_ (by with_reducible assumption))))⟩; intro hxy; have hh : (x.wireLate != y.wireLate) = true := (by assumption); rw [hxy] at hh; simp [tf_mk] at hh
  · go_ret; refine ⟨ret_bool (tf_mk (Corner.ext_ ?_ ?_ ?_ ?_ ?_)).symm, (by (repeat (first | with_reducible exact Ext.refl _ | with_reducible assumption | with_reducible refine Ext.drew ?_ | with_reducible refine Ext.drewN ?_ _ | with_reducible refine Ext.alloc ?_ _ | ((with_reducible refine Ext.setCell ?_ ?_ _); rotate_left; focus (first | omega | (simp; done) | (simp; omega))) | with_reducible refine Ext.trans ?_ (by with_reducible assumption))))⟩
    · have hh : (!x.name.toList == y.name.toList) = false := (by assumption); exact ba_ext (by simpa using hh)
    · have hh : (x.cellEarly != y.cellEarly) = false := (by assumption); simpa using hh
    · have hh : (x.cellLate != y.cellLate) = false := (by assumption); simpa using hh
    · have hh : (x.wireEarly != y.wireEarly) = false := (by assumption); simpa using hh
    · have hh : (x.wireLate != y.wireLate) = false := (by assumption); simpa using hh

set_option maxRecDepth 100000 in
set_option maxHeartbeats 1000000 in
theorem w_eqSCorner (v u : Value) (xs ys : List Corner) (w : World) (hv : Rd w v xs) (hu : Rd w u ys) :
    Calls Tryd.prog 19 #[v, u] w fun e w' => e = .returned (.bool (tf (xs = ys))) ∧ Ext w w' := by
  obtain ⟨A, cap, rfl, hcap, hmax⟩ := hv.form
  obtain ⟨A', cap', rfl, hcap', hmax'⟩ := hu.form
  have Hv := Lib.hid hv; clear hv
  have Hu := Lib.hid hu; clear hu
  by_cases hn : xs.length = ys.length
  · have hne : ((xs.length : Int) != (ys.length : Int)) = false := by simp [hn]
    have Hn := Lib.hid hn; clear hn
    go_enter Tryd.func19, Tryd.ntmps19
    go_wp2
    go_loopw [5] (fun i wr => ∃ k : Nat, k ≤ xs.length ∧ i = .int .i64 k ∧ Ext w wr ∧ Hid (∀ j (h : j < xs.length) (h' : j < ys.length), j < k → xs[j] = ys[j])) (fun i _ => xs.length - (intOf i).toNat)
    case atStart => exact ⟨0, by omega, rfl, Ext.refl _, fun _ _ _ h => by omega⟩
    case round =>
      obtain ⟨k, hk, rfl, hb, Hs⟩ := hrel
      by_cases hlt : k < xs.length
      · have hlt' : k < ys.length := by have := Hn.out; omega
        obtain ⟨b, o, rfl, hbl, g0, g1, g2, g3, g4, grd, f0, f1, f2, f3, f4⟩ := Rd.atCorner (Hv.out.up hb) k hlt
        obtain ⟨b', o', rfl, hbl', g0', g1', g2', g3', g4', grd', f0', f1', f2', f3', f4'⟩ := Rd.atCorner (Hu.out.up hb) k hlt'
        go_wp2
        go_still_tail 8, (by kernel_rfl)
        go_wp2_with (go_at_call 22; refine (w_eqCorner _ _ _ _ _ (grd.up (by (repeat (first | with_reducible exact Ext.refl _ | with_reducible assumption | with_reducible refine Ext.drew ?_ | with_reducible refine Ext.drewN ?_ _ | with_reducible refine Ext.alloc ?_ _ | ((with_reducible refine Ext.setCell ?_ ?_ _); rotate_left; focus (first | omega | (simp; done) | (simp; omega))) | with_reducible refine Ext.trans ?_ (by with_reducible assumption))))) (grd'.up (by (repeat (first | with_reducible exact Ext.refl _ | with_reducible assumption | with_reducible refine Ext.drew ?_ | with_reducible refine Ext.drewN ?_ _ | with_reducible refine Ext.alloc ?_ _ | ((with_reducible refine Ext.setCell ?_ ?_ _); rotate_left; focus (first | omega | (simp; done) | (simp; omega))) | with_reducible refine Ext.trans ?_ (by with_reducible assumption)))))).mono ?_; rintro e w1 ⟨rfl, hb1⟩)
        · go_ret
          refine ⟨ret_bool (tf_mk_not ?_).symm, (by (repeat (first | with_reducible exact Ext.refl _ | with_reducible assumption | with_reducible refine Ext.drew ?_ | with_reducible refine Ext.drewN ?_ _ | with_reducible refine Ext.alloc ?_ _ | ((with_reducible refine Ext.setCell ?_ ?_ _); rotate_left; focus (first | omega | (simp; done) | (simp; omega))) | with_reducible refine Ext.trans ?_ (by with_reducible assumption))))⟩
          intro hxy
          have hh : (!tf (xs[k] = ys[k])) = true := by assumption
          have he : xs[k] = ys[k] := by subst hxy; rfl
          rw [tf_mk he] at hh; cases hh
        · have hh : (!tf (xs[k] = ys[k])) = false := by assumption
          have hh : xs[k] = ys[k] := tf_iff.1 (by simpa using hh)
          have hh := Lib.hid hh
          go_roundw
          case rel => exact ⟨k + 1, by omega, by go_num, (by (repeat (first | with_reducible exact Ext.refl _ | with_reducible assumption | with_reducible refine Ext.drew ?_ | with_reducible refine Ext.drewN ?_ _ | with_reducible refine Ext.alloc ?_ _ | ((with_reducible refine Ext.setCell ?_ ?_ _); rotate_left; focus (first | omega | (simp; done) | (simp; omega))) | with_reducible refine Ext.trans ?_ (by with_reducible assumption)))), fun j h h' hj => by
            rcases Nat.lt_or_ge j k with hjk | hjk
            · exact Hs.out j h h' hjk
            · obtain rfl : j = k := by omega
              exact hh.out⟩
          case measure => simp [intOf]; omega
      · go_wp2
        go_ret
        refine ⟨ret_bool (tf_mk ?_).symm, (by (repeat (first | with_reducible exact Ext.refl _ | with_reducible assumption | with_reducible refine Ext.drew ?_ | with_reducible refine Ext.drewN ?_ _ | with_reducible refine Ext.alloc ?_ _ | ((with_reducible refine Ext.setCell ?_ ?_ _); rotate_left; focus (first | omega | (simp; done) | (simp; omega))) | with_reducible refine Ext.trans ?_ (by with_reducible assumption))))⟩
        exact List.ext_getElem Hn.out fun j h h' => Hs.out j h h' (by omega)
  · have hne : ((xs.length : Int) != (ys.length : Int)) = true := by simp; omega
    have Hn := Lib.hid hn; clear hn
    go_enter Tryd.func19, Tryd.ntmps19
    go_wp2
    go_ret
    exact ⟨ret_bool (tf_mk_not fun h => Hn.out (by rw [h])).symm, (by (repeat (first | with_reducible exact Ext.refl _ | with_reducible assumption | with_reducible refine Ext.drew ?_ | with_reducible refine Ext.drewN ?_ _ | with_reducible refine Ext.alloc ?_ _ | ((with_reducible refine Ext.setCell ?_ ?_ _); rotate_left; focus (first | omega | (simp; done) | (simp; omega))) | with_reducible refine Ext.trans ?_ (by with_reducible assumption))))⟩

end Go.Proofs.YtfbbbgonapgfiaaDoor
