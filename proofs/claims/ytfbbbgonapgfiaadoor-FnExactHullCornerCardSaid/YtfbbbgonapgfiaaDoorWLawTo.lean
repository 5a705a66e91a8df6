/- The walks of the law's own helpers. Written by my laws.py. No condition of its own. -/
import Derived.Test.YtfbbbgonapgfiaaDoorOwnTypes
import Derived.Test.YtfbbbgonapgfiaaDoorWLawSz
namespace Go.Proofs.YtfbbbgonapgfiaaDoor
set_option linter.unusedSimpArgs false
set_option linter.unusedVariables false
open Go.RowKit


set_option maxRecDepth 100000 in
set_option maxHeartbeats 1000000 in
theorem w_toCorner (v : Value) (x : Corner) (w : World) (hv : Rd w v x) (hbk : bulkCorner x ≤ 1048576) :
    Calls Tryd.prog 10 #[v] w fun e w' => ∃ u S, e = .returned u ∧ Own w' S u x ∧ News w w' S ∧ Ext w w' := by
  obtain ⟨rfl, h_name, h_cellEarly, h_cellLate, h_wireEarly, h_wireLate⟩ := Corner.rd.1 hv
  clear hv
  clear hbk
  go_enter Tryd.func10, Tryd.ntmps10
  go_wp2
  exact bodyPost_ret (v := .agg #[.string x.name, .int .i64 x.cellEarly, .int .i64 x.cellLate, .int .i64 x.wireEarly, .int .i64 x.wireLate]) (by simp [results, Tryd.results10, go_sem]) rfl ⟨_, [], rfl, Corner.own.2 ⟨rfl, rfl, h_name, h_cellEarly, h_cellLate, h_wireEarly, h_wireLate⟩, News.nil _ _, (by (repeat (first | with_reducible exact Ext.refl _ | with_reducible assumption | with_reducible refine Ext.drew ?_ | with_reducible refine Ext.drewN ?_ _ | with_reducible refine Ext.alloc ?_ _ | ((with_reducible refine Ext.setCell ?_ ?_ _); rotate_left; focus (first | omega | (simp; done) | (simp; omega))) | with_reducible refine Ext.trans ?_ (by with_reducible assumption))))⟩

set_option maxRecDepth 100000 in
set_option maxHeartbeats 1000000 in
theorem w_toSCorner (v : Value) (xs : List Corner) (w : World) (hv : Rd w v xs) (hbk : bulkSCorner xs ≤ 1048576) :
    Calls Tryd.prog 17 #[v] w fun e w' => ∃ u S, e = .returned u ∧ Own w' S u xs ∧ News w w' S ∧ Ext w w' := by
  obtain ⟨A, cap, rfl, hcap, hmax⟩ := hv.form
  have Hv := Lib.hid hv; clear hv
  have hlen : xs.length ≤ 1048576 := by unfold bulkSCorner at hbk; omega
  obtain ⟨C, hC, hmk⟩ := make_law (P := Tryd.prog) 38 26 5 Tryd.underlying38 (by kernel_rfl) xs.length hlen
  have HC := Lib.hid hC; clear hC
  have Hbk := Lib.hid hbk; clear hbk
  go_enter Tryd.func17, Tryd.ntmps17
  go_wp2
  go_loopw [4] (fun i wr => ∃ k : Nat, k ≤ xs.length ∧ i = .int .i64 k ∧ Filled w 26 xs.length xs k wr) (fun i _ => xs.length - (intOf i).toNat)
  case atStart => exact ⟨0, by omega, rfl, Filled.start w 26 xs.length xs C HC.out⟩
  case round =>
    obtain ⟨k, hk, rfl, HF⟩ := hrel
    by_cases hlt : k < xs.length
    · obtain ⟨b, o, rfl, hbl, g0, g1, g2, g3, g4, grd, f0, f1, f2, f3, f4⟩ := Rd.atCorner (Hv.out.up HF.ext) k hlt
      have hst := bulkSCorner_step xs k hlt; have hle := bulkSCorner_le xs (k + 1); have hbk1 : bulkCorner xs[k] ≤ 1048576 := (by have := Hbk.out; unfold bulkSCorner at this; omega); clear hst hle
      go_wp2_with (go_at_call 10; refine (w_toCorner _ _ _ grd hbk1).mono ?_; rintro e w1 ⟨u, S, rfl, ho, hn, he1⟩; obtain ⟨rfl, rfl, hp_0, hp_1, hp_2, hp_3, hp_4⟩ := Corner.own.1 ho; have HF1 := HF.up he1; obtain ⟨⟨z0, hz0⟩, hq0⟩ := (HF1).cell (k * 5) (by show _ < xs.length * 5; omega); obtain ⟨⟨z1, hz1⟩, hq1⟩ := (HF1).cell (k * 5 + 1) (by show _ < xs.length * 5; omega); obtain ⟨⟨z2, hz2⟩, hq2⟩ := (HF1).cell (k * 5 + 2) (by show _ < xs.length * 5; omega); obtain ⟨⟨z3, hz3⟩, hq3⟩ := (HF1).cell (k * 5 + 3) (by show _ < xs.length * 5; omega); obtain ⟨⟨z4, hz4⟩, hq4⟩ := (HF1).cell (k * 5 + 4) (by show _ < xs.length * 5; omega))
      obtain ⟨cs, hcs, hcv⟩ := ho
      obtain rfl : cs = [.string xs[k].name, .int .i64 xs[k].cellEarly, .int .i64 xs[k].cellLate, .int .i64 xs[k].wireEarly, .int .i64 xs[k].wireLate] := by injection hcv with hcv; injection hcv with hcv; exact hcv.symm
      go_roundw
      case rel =>
        have hst := HF.step he1 hlt (Nat.le_refl _) hcs hn
        simp only [show Rp.size Corner = 5 from rfl, putCells, Nat.add_assoc, Nat.reduceAdd] at hst
        exact ⟨k + 1, by omega, by go_num, hst⟩
      case measure => simp [intOf]; omega
    · obtain rfl : k = xs.length := by omega
      go_wp2
      go_ret
      obtain ⟨S, ho, hn⟩ := HF.done rfl (by unfold maxLen; omega)
      exact ⟨_, S, rfl, ho, hn, HF.ext⟩

set_option maxRecDepth 100000 in
set_option maxHeartbeats 1000000 in
theorem w_toPower (v : Value) (x : Power) (w : World) (hv : Rd w v x) :
    Calls Tryd.prog 13 #[v] w fun e w' => ∃ u S, e = .returned u ∧ Own w' S u x ∧ News w w' S ∧ Ext w w' := by
  obtain ⟨rfl, h_switching, h_internal, h_leakage⟩ := Power.rd.1 hv
  clear hv
  go_enter Tryd.func13, Tryd.ntmps13
  go_wp2
  exact bodyPost_ret (v := .agg #[.int .i64 x.switching, .int .i64 x.internal, .int .i64 x.leakage]) (by simp [results, Tryd.results13, go_sem]) rfl ⟨_, [], rfl, Power.own.2 ⟨rfl, rfl, h_switching, h_internal, h_leakage⟩, News.nil _ _, (by (repeat (first | with_reducible exact Ext.refl _ | with_reducible assumption | with_reducible refine Ext.drew ?_ | with_reducible refine Ext.drewN ?_ _ | with_reducible refine Ext.alloc ?_ _ | ((with_reducible refine Ext.setCell ?_ ?_ _); rotate_left; focus (first | omega | (simp; done) | (simp; omega))) | with_reducible refine Ext.trans ?_ (by with_reducible assumption))))⟩

end Go.Proofs.YtfbbbgonapgfiaaDoor
