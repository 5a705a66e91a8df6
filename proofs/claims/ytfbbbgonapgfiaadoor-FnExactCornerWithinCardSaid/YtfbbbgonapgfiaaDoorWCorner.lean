/- The walks of the functions on corners, on both sides. Conditions: what a value of the type always meets. -/
import Derived.Test.YtfbbbgonapgfiaaDoorWNames
import Derived.Test.YtfbbbgonapgfiaaDoorOwnTypes
namespace Go.Proofs.YtfbbbgonapgfiaaDoor
set_option linter.unusedSimpArgs false
set_option linter.unusedVariables false
open Go.RowKit

set_option maxRecDepth 100000 in
set_option maxHeartbeats 1000000 in
theorem w_areFactors (a b : Int) (w : World) :
    Calls Tryd.prog 43 #[.int .i64 a, .int .i64 b] w fun e w' => e = .returned (.bool (tf (FactorsP a b))) ∧ w' = w := by
  go_enter Tryd.func43, Tryd.ntmps43
  go_wp2
  all_goals go_ret
  all_goals refine ⟨ret_bool (tf_eq ?_), rfl⟩
  all_goals unfold FactorsP
  all_goals (try simp only [Bool.not_eq_true', Bool.not_eq_false', decide_eq_true_eq, decide_eq_false_iff_not, bne_iff_ne, beq_iff_eq, Bool.not_eq_true, Bool.not_eq_false, Bool.and_eq_true, Bool.or_eq_true, Bool.and_eq_false_iff, Bool.or_eq_false_iff, tf_iff, tf_not, withinB_iff, withinB_not] at *)
  all_goals (first | (simp; done) | (simp; intros; omega) | (intros; omega) | (simp_all; done) | (simp_all; intros; omega))

set_option maxRecDepth 100000 in
set_option maxHeartbeats 1000000 in
theorem w_IsCorner (v : Value) (x : Corner) (w : World) (hv : Rd w v x) :
    Calls Tryd.prog 31 #[v] w fun e w' => e = .returned (.bool (tf (CornerP x))) ∧ Ext w w' := by
  obtain ⟨rfl, hs, _⟩ := Corner.rd.1 hv
  clear hv
  go_enter Tryd.func31, Tryd.ntmps31
  go_wp2_with (first
    | (go_at_call 41; refine (w_isName _ _ hs).mono ?_; rintro e w_he ⟨rfl, he⟩; have hz_he := he.size; (try simp at hz_he); obtain ⟨hl_he_0, hf_he_0⟩ := he.loc (w.heap.size) (by first | omega | (simp; done) | (simp; omega)))
    | (go_at_call 43; refine (w_areFactors _ _ _).mono ?_; rintro e w' ⟨rfl, rfl⟩))
  all_goals go_ret
  all_goals refine ⟨ret_bool (tf_eq ?_), (by (repeat (first | exact Ext.refl _ | assumption | refine Ext.drew ?_ | refine Ext.drewN ?_ _ | refine Ext.alloc ?_ _ | refine Ext.setCell ?_ (by first | omega | (simp; done) | (simp; omega)) _ | refine Ext.trans ?_ (by assumption))))⟩
  all_goals unfold CornerP
  all_goals (try simp only [Bool.not_eq_true', Bool.not_eq_false', decide_eq_true_eq, decide_eq_false_iff_not, bne_iff_ne, beq_iff_eq, Bool.not_eq_true, Bool.not_eq_false, Bool.and_eq_true, Bool.or_eq_true, Bool.and_eq_false_iff, Bool.or_eq_false_iff, tf_iff, tf_not, withinB_iff, withinB_not] at *)
  all_goals simp_all

set_option maxRecDepth 100000 in
set_option maxHeartbeats 1000000 in
theorem w_isWithin (v u : Value) (x y : Corner) (w : World) (hv : Rd w v x) (hu : Rd w u y) :
    Calls Tryd.prog 32 #[v, u] w fun e w' => e = .returned (.bool (tf (CornerInP x y))) ∧ Ext w w' := by
  obtain ⟨rfl, _⟩ := Corner.rd.1 hv
  obtain ⟨rfl, _⟩ := Corner.rd.1 hu
  clear hv hu
  go_enter Tryd.func32, Tryd.ntmps32
  go_wp2
  all_goals go_ret
  all_goals refine ⟨ret_bool (tf_eq ?_), (by (repeat (first | exact Ext.refl _ | assumption | refine Ext.drew ?_ | refine Ext.drewN ?_ _ | refine Ext.alloc ?_ _ | refine Ext.setCell ?_ (by first | omega | (simp; done) | (simp; omega)) _ | refine Ext.trans ?_ (by assumption))))⟩
  all_goals unfold CornerInP
  all_goals (try simp only [Bool.not_eq_true', Bool.not_eq_false', decide_eq_true_eq, decide_eq_false_iff_not, bne_iff_ne, beq_iff_eq, Bool.not_eq_true, Bool.not_eq_false, Bool.and_eq_true, Bool.or_eq_true, Bool.and_eq_false_iff, Bool.or_eq_false_iff, tf_iff, tf_not, withinB_iff, withinB_not] at *)
  all_goals (first | (simp; done) | (simp; intros; omega) | (intros; omega) | (simp_all; done) | (simp_all; intros; omega))

set_option maxRecDepth 100000 in
set_option maxHeartbeats 1000000 in
theorem w_CornerWithin (v u : Value) (x y : Corner) (w : World) (hv : Rd w v x) (hu : Rd w u y) :
    Calls Tryd.prog 11 #[v, u] w fun e w' => e = .returned (.bool (tf (CornerWithinP x y))) ∧ Ext w w' := by
  have Hv := Lib.hid hv; have Hu := Lib.hid hu
  obtain ⟨rfl, _⟩ := Corner.rd.1 hv
  obtain ⟨rfl, _⟩ := Corner.rd.1 hu
  clear hv hu
  go_enter Tryd.func11, Tryd.ntmps11
  have tok : True := trivial
  go_wp2_with (first
    | (go_at_call 31; have _t := tok; refine (w_IsCorner _ x _ (Hv.out.up (by (repeat (first | exact Ext.refl _ | assumption | refine Ext.drew ?_ | refine Ext.drewN ?_ _ | refine Ext.alloc ?_ _ | refine Ext.setCell ?_ (by first | omega | (simp; done) | (simp; omega)) _ | refine Ext.trans ?_ (by assumption)))))).mono ?_; rintro e w1 ⟨rfl, he⟩; clear tok; have hz := he.size; (try simp at hz); obtain ⟨hl0, hf0⟩ := he.loc w.heap.size (by first | omega | (simp; done) | (simp; omega)); obtain ⟨hl1, hf1⟩ := he.loc (w.heap.size + 1) (by first | omega | (simp; done) | (simp; omega)))
    | (go_at_call 31; refine (w_IsCorner _ y _ (Hu.out.up (by (repeat (first | exact Ext.refl _ | assumption | refine Ext.drew ?_ | refine Ext.drewN ?_ _ | refine Ext.alloc ?_ _ | refine Ext.setCell ?_ (by first | omega | (simp; done) | (simp; omega)) _ | refine Ext.trans ?_ (by assumption)))))).mono ?_; rintro e w2 ⟨rfl, he2⟩; have hz2 := he2.size; (try simp at hz2); obtain ⟨hm0, hg0⟩ := he2.loc w.heap.size (by first | omega | (simp; done) | (simp; omega)); obtain ⟨hm1, hg1⟩ := he2.loc (w.heap.size + 1) (by first | omega | (simp; done) | (simp; omega)))
    | (go_at_call 32; refine (w_isWithin _ _ x y _ (Hv.out.up (by (repeat (first | exact Ext.refl _ | assumption | refine Ext.drew ?_ | refine Ext.drewN ?_ _ | refine Ext.alloc ?_ _ | refine Ext.setCell ?_ (by first | omega | (simp; done) | (simp; omega)) _ | refine Ext.trans ?_ (by assumption))))) (Hu.out.up (by (repeat (first | exact Ext.refl _ | assumption | refine Ext.drew ?_ | refine Ext.drewN ?_ _ | refine Ext.alloc ?_ _ | refine Ext.setCell ?_ (by first | omega | (simp; done) | (simp; omega)) _ | refine Ext.trans ?_ (by assumption)))))).mono ?_; rintro e w3 ⟨rfl, he3⟩))
  all_goals go_ret
  all_goals refine ⟨ret_bool (tf_eq ?_), (by (repeat (first | exact Ext.refl _ | assumption | refine Ext.drew ?_ | refine Ext.drewN ?_ _ | refine Ext.alloc ?_ _ | refine Ext.setCell ?_ (by first | omega | (simp; done) | (simp; omega)) _ | refine Ext.trans ?_ (by assumption))))⟩
  all_goals unfold CornerWithinP
  all_goals (try simp only [Bool.not_eq_true', Bool.not_eq_false', decide_eq_true_eq, decide_eq_false_iff_not, bne_iff_ne, beq_iff_eq, Bool.not_eq_true, Bool.not_eq_false, Bool.and_eq_true, Bool.or_eq_true, Bool.and_eq_false_iff, Bool.or_eq_false_iff, tf_iff, tf_not, withinB_iff, withinB_not] at *)
  all_goals (first | (simp; done) | (simp; intros; omega) | (intros; omega) | (simp_all; done) | (simp_all; intros; omega))

def limAt (x : Corner) (j : Nat) : Prop := (j = 0 → 100 ≤ x.cellEarly ∧ x.cellEarly ≤ 5000) ∧ (j = 1 → 100 ≤ x.cellLate ∧ x.cellLate ≤ 5000) ∧ (j = 2 → 100 ≤ x.wireEarly ∧ x.wireEarly ≤ 5000) ∧ (j = 3 → 100 ≤ x.wireLate ∧ x.wireLate ≤ 5000)

theorem lim_step {x : Corner} {k : Nat} (h : ∀ j, j < k → limAt x j) (hk : limAt x k) : ∀ j, j < k + 1 → limAt x j := by
  intro j hj
  rcases Nat.lt_or_ge j k with h1 | h1
  · exact h j h1
  · obtain rfl : j = k := by omega
    exact hk

set_option maxRecDepth 100000 in
set_option maxHeartbeats 1000000 in
theorem w_sIsCorner (v : Value) (x : Corner) (w : World) (hv : Rd w v x) :
    Calls Tryd.prog 29 #[v] w fun e w' => e = .returned (.bool (tf (CornerP x))) ∧ Ext w w' := by
  obtain ⟨rfl, hs, _⟩ := Corner.rd.1 hv
  clear hv
  go_enter Tryd.func29, Tryd.ntmps29
  go_wp2
  go_loop [4] (fun i => ∃ k : Nat, k ≤ 4 ∧ i = .int .i64 k ∧ Hid (∀ j, j < k → limAt x j)) (fun i => 4 - (intOf i).toNat)
  case atStart => exact ⟨0, by omega, rfl, fun _ h => by omega⟩
  case round =>
    obtain ⟨k, hk, rfl, H⟩ := hrel
    by_cases hlt : k < 4
    · have hcs : k = 0 ∨ k = 1 ∨ k = 2 ∨ k = 3 := by omega
      rcases hcs with hk0 | hk0 | hk0 | hk0
      all_goals
        obtain rfl := hk0
        go_wp2_with (go_at_call 33; refine (w_l01In _ _ _ _).mono ?_; rintro e w' ⟨rfl, rfl⟩)
        · go_ret
          refine ⟨ret_bool (tf_mk_not fun hn => ?_).symm, (by (repeat (first | exact Ext.refl _ | assumption | refine Ext.drew ?_ | refine Ext.drewN ?_ _ | refine Ext.alloc ?_ _ | refine Ext.setCell ?_ (by first | omega | (simp; done) | (simp; omega)) _ | refine Ext.trans ?_ (by assumption))))⟩
          unfold CornerP FactorsP at hn
          (try simp only [Bool.not_eq_true', Bool.not_eq_false', decide_eq_true_eq, decide_eq_false_iff_not, bne_iff_ne, beq_iff_eq, Bool.not_eq_true, Bool.not_eq_false, Bool.and_eq_true, Bool.or_eq_true, Bool.and_eq_false_iff, Bool.or_eq_false_iff, tf_iff, tf_not, withinB_iff, withinB_not] at *)
          omega
        · have hg := fun j hj => H.out j hj
          clear H
          go_round
          case rel => first | exact ⟨0 + 1, by omega, rfl, lim_step hg (by unfold limAt; (try simp only [Bool.not_eq_true', Bool.not_eq_false', decide_eq_true_eq, decide_eq_false_iff_not, bne_iff_ne, beq_iff_eq, Bool.not_eq_true, Bool.not_eq_false, Bool.and_eq_true, Bool.or_eq_true, Bool.and_eq_false_iff, Bool.or_eq_false_iff, tf_iff, tf_not, withinB_iff, withinB_not] at *); omega)⟩ | exact ⟨1 + 1, by omega, rfl, lim_step hg (by unfold limAt; (try simp only [Bool.not_eq_true', Bool.not_eq_false', decide_eq_true_eq, decide_eq_false_iff_not, bne_iff_ne, beq_iff_eq, Bool.not_eq_true, Bool.not_eq_false, Bool.and_eq_true, Bool.or_eq_true, Bool.and_eq_false_iff, Bool.or_eq_false_iff, tf_iff, tf_not, withinB_iff, withinB_not] at *); omega)⟩ | exact ⟨2 + 1, by omega, rfl, lim_step hg (by unfold limAt; (try simp only [Bool.not_eq_true', Bool.not_eq_false', decide_eq_true_eq, decide_eq_false_iff_not, bne_iff_ne, beq_iff_eq, Bool.not_eq_true, Bool.not_eq_false, Bool.and_eq_true, Bool.or_eq_true, Bool.and_eq_false_iff, Bool.or_eq_false_iff, tf_iff, tf_not, withinB_iff, withinB_not] at *); omega)⟩ | exact ⟨3 + 1, by omega, rfl, lim_step hg (by unfold limAt; (try simp only [Bool.not_eq_true', Bool.not_eq_false', decide_eq_true_eq, decide_eq_false_iff_not, bne_iff_ne, beq_iff_eq, Bool.not_eq_true, Bool.not_eq_false, Bool.and_eq_true, Bool.or_eq_true, Bool.and_eq_false_iff, Bool.or_eq_false_iff, tf_iff, tf_not, withinB_iff, withinB_not] at *); omega)⟩
          case measure => simp [intOf]
    · obtain rfl : k = 4 := by omega
      have l0 := H.out 0 (by omega)
      have l1 := H.out 1 (by omega)
      have l2 := H.out 2 (by omega)
      have l3 := H.out 3 (by omega)
      have HL := Lib.hid (And.intro l0 (And.intro l1 (And.intro l2 l3)))
      clear l0 l1 l2 l3
      go_wp2_with (go_at_call 40; refine (w_l03Name _ _ hs).mono ?_; rintro e w' ⟨rfl, rfl⟩)
      all_goals go_ret
      all_goals refine ⟨ret_bool (tf_eq ?_), (by (repeat (first | exact Ext.refl _ | assumption | refine Ext.drew ?_ | refine Ext.drewN ?_ _ | refine Ext.alloc ?_ _ | refine Ext.setCell ?_ (by first | omega | (simp; done) | (simp; omega)) _ | refine Ext.trans ?_ (by assumption))))⟩
      all_goals have HL := HL.out
      all_goals unfold CornerP FactorsP
      all_goals unfold limAt at HL
      all_goals (try simp only [Bool.not_eq_true', Bool.not_eq_false', decide_eq_true_eq, decide_eq_false_iff_not, bne_iff_ne, beq_iff_eq, Bool.not_eq_true, Bool.not_eq_false, Bool.and_eq_true, Bool.or_eq_true, Bool.and_eq_false_iff, Bool.or_eq_false_iff, tf_iff, tf_not, withinB_iff, withinB_not] at *)
      all_goals (first | (simp; done) | (simp [*]; omega) | (simp; intros; omega) | simp_all)

set_option maxRecDepth 100000 in
set_option maxHeartbeats 1000000 in
theorem w_l27Within (v u : Value) (x y : Corner) (w : World) (hv : Rd w v x) (hu : Rd w u y) :
    Calls Tryd.prog 30 #[v, u] w fun e w' => e = .returned (.bool (tf (CornerInP x y))) ∧ Ext w w' := by
  obtain ⟨rfl, _⟩ := Corner.rd.1 hv
  obtain ⟨rfl, _⟩ := Corner.rd.1 hu
  clear hv hu
  go_enter Tryd.func30, Tryd.ntmps30
  go_wp2
  all_goals go_ret
  all_goals refine ⟨ret_bool (tf_eq ?_), (by (repeat (first | exact Ext.refl _ | assumption | refine Ext.drew ?_ | refine Ext.drewN ?_ _ | refine Ext.alloc ?_ _ | refine Ext.setCell ?_ (by first | omega | (simp; done) | (simp; omega)) _ | refine Ext.trans ?_ (by assumption))))⟩
  all_goals unfold CornerInP
  all_goals (try simp only [Bool.not_eq_true', Bool.not_eq_false', decide_eq_true_eq, decide_eq_false_iff_not, bne_iff_ne, beq_iff_eq, Bool.not_eq_true, Bool.not_eq_false, Bool.and_eq_true, Bool.or_eq_true, Bool.and_eq_false_iff, Bool.or_eq_false_iff, tf_iff, tf_not, withinB_iff, withinB_not] at *)
  all_goals (first | (simp; done) | (simp; intros; omega) | (intros; omega) | (simp_all; done) | (simp_all; intros; omega))

set_option maxRecDepth 100000 in
set_option maxHeartbeats 1000000 in
theorem w_sCornerWithin (v u : Value) (x y : Corner) (w : World) (hv : Rd w v x) (hu : Rd w u y) :
    Calls Tryd.prog 9 #[v, u] w fun e w' => e = .returned (.bool (tf (CornerWithinP x y))) ∧ Ext w w' := by
  have Hv := Lib.hid hv; have Hu := Lib.hid hu
  obtain ⟨rfl, _⟩ := Corner.rd.1 hv
  obtain ⟨rfl, _⟩ := Corner.rd.1 hu
  clear hv hu
  go_enter Tryd.func9, Tryd.ntmps9
  have tok : True := trivial
  go_wp2_with (first
    | (go_at_call 29; have _t := tok; refine (w_sIsCorner _ x _ (Hv.out.up (by (repeat (first | exact Ext.refl _ | assumption | refine Ext.drew ?_ | refine Ext.drewN ?_ _ | refine Ext.alloc ?_ _ | refine Ext.setCell ?_ (by first | omega | (simp; done) | (simp; omega)) _ | refine Ext.trans ?_ (by assumption)))))).mono ?_; rintro e w1 ⟨rfl, he⟩; clear tok; have hz_he := he.size; (try simp at hz_he); obtain ⟨hl_he_0, hf_he_0⟩ := he.loc (w.heap.size) (by first | omega | (simp; done) | (simp; omega)); obtain ⟨hl_he_1, hf_he_1⟩ := he.loc (w.heap.size + 1) (by first | omega | (simp; done) | (simp; omega)))
    | (go_at_call 29; refine (w_sIsCorner _ y _ (Hu.out.up (by (repeat (first | exact Ext.refl _ | assumption | refine Ext.drew ?_ | refine Ext.drewN ?_ _ | refine Ext.alloc ?_ _ | refine Ext.setCell ?_ (by first | omega | (simp; done) | (simp; omega)) _ | refine Ext.trans ?_ (by assumption)))))).mono ?_; rintro e w2 ⟨rfl, he2⟩; have hz_he2 := he2.size; (try simp at hz_he2); obtain ⟨hl_he2_0, hf_he2_0⟩ := he2.loc (w.heap.size) (by first | omega | (simp; done) | (simp; omega)); obtain ⟨hl_he2_1, hf_he2_1⟩ := he2.loc (w.heap.size + 1) (by first | omega | (simp; done) | (simp; omega)))
    | (go_at_call 30; refine (w_l27Within _ _ x y _ (Hv.out.up (by (repeat (first | exact Ext.refl _ | assumption | refine Ext.drew ?_ | refine Ext.drewN ?_ _ | refine Ext.alloc ?_ _ | refine Ext.setCell ?_ (by first | omega | (simp; done) | (simp; omega)) _ | refine Ext.trans ?_ (by assumption))))) (Hu.out.up (by (repeat (first | exact Ext.refl _ | assumption | refine Ext.drew ?_ | refine Ext.drewN ?_ _ | refine Ext.alloc ?_ _ | refine Ext.setCell ?_ (by first | omega | (simp; done) | (simp; omega)) _ | refine Ext.trans ?_ (by assumption)))))).mono ?_; rintro e w3 ⟨rfl, he3⟩))
  all_goals go_ret
  all_goals refine ⟨ret_bool (tf_eq ?_), (by (repeat (first | exact Ext.refl _ | assumption | refine Ext.drew ?_ | refine Ext.drewN ?_ _ | refine Ext.alloc ?_ _ | refine Ext.setCell ?_ (by first | omega | (simp; done) | (simp; omega)) _ | refine Ext.trans ?_ (by assumption))))⟩
  all_goals unfold CornerWithinP
  all_goals (try simp only [Bool.not_eq_true', Bool.not_eq_false', decide_eq_true_eq, decide_eq_false_iff_not, bne_iff_ne, beq_iff_eq, Bool.not_eq_true, Bool.not_eq_false, Bool.and_eq_true, Bool.or_eq_true, Bool.and_eq_false_iff, Bool.or_eq_false_iff, tf_iff, tf_not, withinB_iff, withinB_not] at *)
  all_goals (first | (simp; done) | (simp; intros; omega) | (intros; omega) | (simp_all; done) | (simp_all; intros; omega))
end Go.Proofs.YtfbbbgonapgfiaaDoor
