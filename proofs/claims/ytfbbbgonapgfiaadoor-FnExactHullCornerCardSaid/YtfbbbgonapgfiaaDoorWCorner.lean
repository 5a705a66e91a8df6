/- The walks of the functions on corners, on both sides. Conditions: what a value of the type always meets. -/
import Derived.Test.YtfbbbgonapgfiaaDoorWNames
import Derived.Test.YtfbbbgonapgfiaaDoorFlat
namespace Go.Proofs.YtfbbbgonapgfiaaDoor
set_option linter.unusedSimpArgs false
set_option linter.unusedVariables false
open Go.RowKit

set_option maxRecDepth 100000 in
set_option maxHeartbeats 1000000 in
theorem w_areFactors (a b : Int) (w : World) :
    Calls Tryd.prog 43 #[.int .i64 a, .int .i64 b] w fun e w' => e = .returned (.bool (tf (FactorsP a b))) ∧ w' = w := by
  go_enter Tryd.func43, Tryd.ntmps43
  go_wp2
  all_goals go_ret
  all_goals refine ⟨ret_bool (tf_eq ?_), rfl⟩
  all_goals unfold FactorsP
  all_goals (try simp only [Bool.not_eq_true', Bool.not_eq_false', decide_eq_true_eq, decide_eq_false_iff_not, bne_iff_ne, beq_iff_eq, Bool.not_eq_true, Bool.not_eq_false, Bool.and_eq_true, Bool.or_eq_true, Bool.and_eq_false_iff, Bool.or_eq_false_iff, tf_iff, tf_not, withinB_iff, withinB_not] at *)
  all_goals (first | (simp; done) | (simp; intros; omega) | (intros; omega) | (simp_all; done) | (simp_all; intros; omega))

set_option maxRecDepth 100000 in
set_option maxHeartbeats 1000000 in
theorem w_IsCorner (v : Value) (x : Corner) (w : World) (hv : Rd w v x) :
    Calls Tryd.prog 31 #[v] w fun e w' => e = .returned (.bool (tf (CornerP x))) ∧ Ext w w' := by
  obtain ⟨rfl, hs, _⟩ := Corner.rd.1 hv
  clear hv
  go_enter Tryd.func31, Tryd.ntmps31
  go_wp2_with (first
    | (go_at_call 41; refine (w_isName _ _ hs).mono ?_; rintro e w_he ⟨rfl, he⟩; have hz_he := he.size; (try simp at hz_he); obtain ⟨hl_he_0, hf_he_0⟩ := he.loc (w.heap.size) (by first | omega | (simp; done) | (simp; omega)))
    | (go_at_call 43; refine (w_areFactors _ _ _).mono ?_; rintro e w' ⟨rfl, rfl⟩))
  all_goals go_ret
  all_goals refine ⟨ret_bool (tf_eq ?_), (by (repeat (first | with_reducible exact Ext.refl _ | with_reducible assumption | with_reducible refine Ext.drew ?_ | with_reducible refine Ext.drewN ?_ _ | with_reducible refine Ext.alloc ?_ _ | ((with_reducible refine Ext.setCell ?_ ?_ _); rotate_left; focus (first | omega | (simp; done) | (simp; omega))) | with_reducible refine Ext.trans ?_ (by with_reducible assumption))))⟩
  all_goals unfold CornerP
  all_goals (try simp only [Bool.not_eq_true', Bool.not_eq_false', decide_eq_true_eq, decide_eq_false_iff_not, bne_iff_ne, beq_iff_eq, Bool.not_eq_true, Bool.not_eq_false, Bool.and_eq_true, Bool.or_eq_true, Bool.and_eq_false_iff, Bool.or_eq_false_iff, tf_iff, tf_not, withinB_iff, withinB_not] at *)
  all_goals simp_all

set_option maxRecDepth 100000 in
set_option maxHeartbeats 1000000 in
theorem w_isWithin (v u : Value) (x y : Corner) (w : World) (hv : Rd w v x) (hu : Rd w u y) :
    Calls Tryd.prog 32 #[v, u] w fun e w' => e = .returned (.bool (tf (CornerInP x y))) ∧ Ext w w' := by
  obtain ⟨rfl, _⟩ := Corner.rd.1 hv
  obtain ⟨rfl, _⟩ := Corner.rd.1 hu
  clear hv hu
  go_enter Tryd.func32, Tryd.ntmps32
  go_wp2
  all_goals go_ret
  all_goals refine ⟨ret_bool (tf_eq ?_), (by (repeat (first | with_reducible exact Ext.refl _ | with_reducible assumption | with_reducible refine Ext.drew ?_ | with_reducible refine Ext.drewN ?_ _ | with_reducible refine Ext.alloc ?_ _ | ((with_reducible refine Ext.setCell ?_ ?_ _); rotate_left; focus (first | omega | (simp; done) | (simp; omega))) | with_reducible refine Ext.trans ?_ (by with_reducible assumption))))⟩
  all_goals unfold CornerInP
  all_goals (try simp only [Bool.not_eq_true', Bool.not_eq_false', decide_eq_true_eq, decide_eq_false_iff_not, bne_iff_ne, beq_iff_eq, Bool.not_eq_true, Bool.not_eq_false, Bool.and_eq_true, Bool.or_eq_true, Bool.and_eq_false_iff, Bool.or_eq_false_iff, tf_iff, tf_not, withinB_iff, withinB_not] at *)
  all_goals (first | (simp; done) | (simp; intros; omega) | (intros; omega) | (simp_all; done) | (simp_all; intros; omega))

set_option maxRecDepth 100000 in
set_option maxHeartbeats 1000000 in
theorem w_CornerWithin (v u : Value) (x y : Corner) (w : World) (hv : Rd w v x) (hu : Rd w u y) :
    Calls Tryd.prog 11 #[v, u] w fun e w' => e = .returned (.bool (tf (CornerWithinP x y))) ∧ Ext w w' := by
  have Hv := Lib.hid hv; have Hu := Lib.hid hu
  obtain ⟨rfl, _⟩ := Corner.rd.1 hv
  obtain ⟨rfl, _⟩ := Corner.rd.1 hu
  clear hv hu
  go_enter Tryd.func11, Tryd.ntmps11
  have tok : True := trivial
  go_wp2_with (first
    | (go_at_call 31; have _t := tok; refine (w_IsCorner _ x _ (Hv.out.up (by (repeat (first | with_reducible exact Ext.refl _ | with_reducible assumption | with_reducible refine Ext.drew ?_ | with_reducible refine Ext.drewN ?_ _ | with_reducible refine Ext.alloc ?_ _ | ((with_reducible refine Ext.setCell ?_ ?_ _); rotate_left; focus (first | omega | (simp; done) | (simp; omega))) | with_reducible refine Ext.trans ?_ (by with_reducible assumption)))))).mono ?_; rintro e w1 ⟨rfl, he⟩; clear tok; have hz := he.size; (try simp at hz); obtain ⟨hl0, hf0⟩ := he.loc w.heap.size (by first | omega | (simp; done) | (simp; omega)); obtain ⟨hl1, hf1⟩ := he.loc (w.heap.size + 1) (by first | omega | (simp; done) | (simp; omega)))
    | (go_at_call 31; refine (w_IsCorner _ y _ (Hu.out.up (by (repeat (first | with_reducible exact Ext.refl _ | with_reducible assumption | with_reducible refine Ext.drew ?_ | with_reducible refine Ext.drewN ?_ _ | with_reducible refine Ext.alloc ?_ _ | ((with_reducible refine Ext.setCell ?_ ?_ _); rotate_left; focus (first | omega | (simp; done) | (simp; omega))) | with_reducible refine Ext.trans ?_ (by with_reducible assumption)))))).mono ?_; rintro e w2 ⟨rfl, he2⟩; have hz2 := he2.size; (try simp at hz2); obtain ⟨hm0, hg0⟩ := he2.loc w.heap.size (by first | omega | (simp; done) | (simp; omega)); obtain ⟨hm1, hg1⟩ := he2.loc (w.heap.size + 1) (by first | omega | (simp; done) | (simp; omega)))
    | (go_at_call 32; refine (w_isWithin _ _ x y _ (Hv.out.up (by (repeat (first | with_reducible exact Ext.refl _ | with_reducible assumption | with_reducible refine Ext.drew ?_ | with_reducible refine Ext.drewN ?_ _ | with_reducible refine Ext.alloc ?_ _ | ((with_reducible refine Ext.setCell ?_ ?_ _); rotate_left; focus (first | omega | (simp; done) | (simp; omega))) | with_reducible refine Ext.trans ?_ (by with_reducible assumption))))) (Hu.out.up (by (repeat (first | with_reducible exact Ext.refl _ | with_reducible assumption | with_reducible refine Ext.drew ?_ | with_reducible refine Ext.drewN ?_ _ | with_reducible refine Ext.alloc ?_ _ | ((with_reducible refine Ext.setCell ?_ ?_ _); rotate_left; focus (first | omega | (simp; done) | (simp; omega))) | with_reducible refine Ext.trans ?_ (by with_reducible assumption)))))).mono ?_; rintro e w3 ⟨rfl, he3⟩))
  all_goals go_ret
  all_goals refine ⟨ret_bool (tf_eq ?_), (by (repeat (first | with_reducible exact Ext.refl _ | with_reducible assumption | with_reducible refine Ext.drew ?_ | with_reducible refine Ext.drewN ?_ _ | with_reducible refine Ext.alloc ?_ _ | ((with_reducible refine Ext.setCell ?_ ?_ _); rotate_left; focus (first | omega | (simp; done) | (simp; omega))) | with_reducible refine Ext.trans ?_ (by with_reducible assumption))))⟩
  all_goals unfold CornerWithinP
  all_goals (try simp only [Bool.not_eq_true', Bool.not_eq_false', decide_eq_true_eq, decide_eq_false_iff_not, bne_iff_ne, beq_iff_eq, Bool.not_eq_true, Bool.not_eq_false, Bool.and_eq_true, Bool.or_eq_true, Bool.and_eq_false_iff, Bool.or_eq_false_iff, tf_iff, tf_not, withinB_iff, withinB_not] at *)
  all_goals (first | (simp; done) | (simp; intros; omega) | (intros; omega) | (simp_all; done) | (simp_all; intros; omega))

def limAt (x : Corner) (j : Nat) : Prop := (j = 0 → 100 ≤ x.cellEarly ∧ x.cellEarly ≤ 5000) ∧ (j = 1 → 100 ≤ x.cellLate ∧ x.cellLate ≤ 5000) ∧ (j = 2 → 100 ≤ x.wireEarly ∧ x.wireEarly ≤ 5000) ∧ (j = 3 → 100 ≤ x.wireLate ∧ x.wireLate ≤ 5000)

theorem lim_step {x : Corner} {k : Nat} (h : ∀ j, j < k → limAt x j) (hk : limAt x k) : ∀ j, j < k + 1 → limAt x j := by
  intro j hj
  rcases Nat.lt_or_ge j k with h1 | h1
  · exact h j h1
  · obtain rfl : j = k := by omega
    exact hk

set_option maxRecDepth 100000 in
set_option maxHeartbeats 1000000 in
theorem w_sIsCorner (v : Value) (x : Corner) (w : World) (hv : Rd w v x) :
    Calls Tryd.prog 29 #[v] w fun e w' => e = .returned (.bool (tf (CornerP x))) ∧ Ext w w' := by
  obtain ⟨rfl, hs, _⟩ := Corner.rd.1 hv
  clear hv
  go_enter Tryd.func29, Tryd.ntmps29
  go_wp2
  go_loop [4] (fun i => ∃ k : Nat, k ≤ 4 ∧ i = .int .i64 k ∧ Hid (∀ j, j < k → limAt x j)) (fun i => 4 - (intOf i).toNat)
  case atStart => exact ⟨0, by omega, rfl, fun _ h => by omega⟩
  case round =>
    obtain ⟨k, hk, rfl, H⟩ := hrel
    by_cases hlt : k < 4
    · have hcs : k = 0 ∨ k = 1 ∨ k = 2 ∨ k = 3 := by omega
      rcases hcs with hk0 | hk0 | hk0 | hk0
      all_goals
        obtain rfl := hk0
        go_wp2_with (go_at_call 33; refine (w_l01In _ _ _ _).mono ?_; rintro e w' ⟨rfl, rfl⟩)
        · go_ret
          refine ⟨ret_bool (tf_mk_not fun hn => ?_).symm, (by (repeat (first | with_reducible exact Ext.refl _ | with_reducible assumption | with_reducible refine Ext.drew ?_ | with_reducible refine Ext.drewN ?_ _ | with_reducible refine Ext.alloc ?_ _ | ((with_reducible refine Ext.setCell ?_ ?_ _); rotate_left; focus (first | omega | (simp; done) | (simp; omega))) | with_reducible refine Ext.trans ?_ (by with_reducible assumption))))⟩
          unfold CornerP FactorsP at hn
          (try simp only [Bool.not_eq_true', Bool.not_eq_false', decide_eq_true_eq, decide_eq_false_iff_not, bne_iff_ne, beq_iff_eq, Bool.not_eq_true, Bool.not_eq_false, Bool.and_eq_true, Bool.or_eq_true, Bool.and_eq_false_iff, Bool.or_eq_false_iff, tf_iff, tf_not, withinB_iff, withinB_not] at *)
          omega
        · have hg := fun j hj => H.out j hj
          clear H
          go_round
          case rel => first | exact ⟨0 + 1, by omega, rfl, lim_step hg (by unfold limAt; (try simp only [Bool.not_eq_true', Bool.not_eq_false', decide_eq_true_eq, decide_eq_false_iff_not, bne_iff_ne, beq_iff_eq, Bool.not_eq_true, Bool.not_eq_false, Bool.and_eq_true, Bool.or_eq_true, Bool.and_eq_false_iff, Bool.or_eq_false_iff, tf_iff, tf_not, withinB_iff, withinB_not] at *); omega)⟩ | exact ⟨1 + 1, by omega, rfl, lim_step hg (by unfold limAt; (try simp only [Bool.not_eq_true', Bool.not_eq_false', decide_eq_true_eq, decide_eq_false_iff_not, bne_iff_ne, beq_iff_eq, Bool.not_eq_true, Bool.not_eq_false, Bool.and_eq_true, Bool.or_eq_true, Bool.and_eq_false_iff, Bool.or_eq_false_iff, tf_iff, tf_not, withinB_iff, withinB_not] at *); omega)⟩ | exact ⟨2 + 1, by omega, rfl, lim_step hg (by unfold limAt; (try simp only [Bool.not_eq_true', Bool.not_eq_false', decide_eq_true_eq, decide_eq_false_iff_not, bne_iff_ne, beq_iff_eq, Bool.not_eq_true, Bool.not_eq_false, Bool.and_eq_true, Bool.or_eq_true, Bool.and_eq_false_iff, Bool.or_eq_false_iff, tf_iff, tf_not, withinB_iff, withinB_not] at *); omega)⟩ | exact ⟨3 + 1, by omega, rfl, lim_step hg (by unfold limAt; (try simp only [Bool.not_eq_true', Bool.not_eq_false', decide_eq_true_eq, decide_eq_false_iff_not, bne_iff_ne, beq_iff_eq, Bool.not_eq_true, Bool.not_eq_false, Bool.and_eq_true, Bool.or_eq_true, Bool.and_eq_false_iff, Bool.or_eq_false_iff, tf_iff, tf_not, withinB_iff, withinB_not] at *); omega)⟩
          case measure => simp [intOf]
    · obtain rfl : k = 4 := by omega
      have l0 := H.out 0 (by omega)
      have l1 := H.out 1 (by omega)
      have l2 := H.out 2 (by omega)
      have l3 := H.out 3 (by omega)
      have HL := Lib.hid (And.intro l0 (And.intro l1 (And.intro l2 l3)))
      clear l0 l1 l2 l3
      go_wp2_with (go_at_call 40; refine (w_l03Name _ _ hs).mono ?_; rintro e w' ⟨rfl, rfl⟩)
      all_goals go_ret
      all_goals refine ⟨ret_bool (tf_eq ?_), (by (repeat (first | with_reducible exact Ext.refl _ | with_reducible assumption | with_reducible refine Ext.drew ?_ | with_reducible refine Ext.drewN ?_ _ | with_reducible refine Ext.alloc ?_ _ | ((with_reducible refine Ext.setCell ?_ ?_ _); rotate_left; focus (first | omega | (simp; done) | (simp; omega))) | with_reducible refine Ext.trans ?_ (by with_reducible assumption))))⟩
      all_goals have HL := HL.out
      all_goals unfold CornerP FactorsP
      all_goals unfold limAt at HL
      all_goals (try simp only [Bool.not_eq_true', Bool.not_eq_false', decide_eq_true_eq, decide_eq_false_iff_not, bne_iff_ne, beq_iff_eq, Bool.not_eq_true, Bool.not_eq_false, Bool.and_eq_true, Bool.or_eq_true, Bool.and_eq_false_iff, Bool.or_eq_false_iff, tf_iff, tf_not, withinB_iff, withinB_not] at *)
      all_goals (first | (simp; done) | (simp [*]; omega) | (simp; intros; omega) | simp_all)

set_option maxRecDepth 100000 in
set_option maxHeartbeats 1000000 in
theorem w_l27Within (v u : Value) (x y : Corner) (w : World) (hv : Rd w v x) (hu : Rd w u y) :
    Calls Tryd.prog 30 #[v, u] w fun e w' => e = .returned (.bool (tf (CornerInP x y))) ∧ Ext w w' := by
  obtain ⟨rfl, _⟩ := Corner.rd.1 hv
  obtain ⟨rfl, _⟩ := Corner.rd.1 hu
  clear hv hu
  go_enter Tryd.func30, Tryd.ntmps30
  go_wp2
  all_goals go_ret
  all_goals refine ⟨ret_bool (tf_eq ?_), (by (repeat (first | with_reducible exact Ext.refl _ | with_reducible assumption | with_reducible refine Ext.drew ?_ | with_reducible refine Ext.drewN ?_ _ | with_reducible refine Ext.alloc ?_ _ | ((with_reducible refine Ext.setCell ?_ ?_ _); rotate_left; focus (first | omega | (simp; done) | (simp; omega))) | with_reducible refine Ext.trans ?_ (by with_reducible assumption))))⟩
  all_goals unfold CornerInP
  all_goals (try simp only [Bool.not_eq_true', Bool.not_eq_false', decide_eq_true_eq, decide_eq_false_iff_not, bne_iff_ne, beq_iff_eq, Bool.not_eq_true, Bool.not_eq_false, Bool.and_eq_true, Bool.or_eq_true, Bool.and_eq_false_iff, Bool.or_eq_false_iff, tf_iff, tf_not, withinB_iff, withinB_not] at *)
  all_goals (first | (simp; done) | (simp; intros; omega) | (intros; omega) | (simp_all; done) | (simp_all; intros; omega))

set_option maxRecDepth 100000 in
set_option maxHeartbeats 1000000 in
theorem w_sCornerWithin (v u : Value) (x y : Corner) (w : World) (hv : Rd w v x) (hu : Rd w u y) :
    Calls Tryd.prog 9 #[v, u] w fun e w' => e = .returned (.bool (tf (CornerWithinP x y))) ∧ Ext w w' := by
  have Hv := Lib.hid hv; have Hu := Lib.hid hu
  obtain ⟨rfl, _⟩ := Corner.rd.1 hv
  obtain ⟨rfl, _⟩ := Corner.rd.1 hu
  clear hv hu
  go_enter Tryd.func9, Tryd.ntmps9
  have tok : True := trivial
  go_wp2_with (first
    | (go_at_call 29; have _t := tok; refine (w_sIsCorner _ x _ (Hv.out.up (by (repeat (first | with_reducible exact Ext.refl _ | with_reducible assumption | with_reducible refine Ext.drew ?_ | with_reducible refine Ext.drewN ?_ _ | with_reducible refine Ext.alloc ?_ _ | ((with_reducible refine Ext.setCell ?_ ?_ _); rotate_left; focus (first | omega | (simp; done) | (simp; omega))) | with_reducible refine Ext.trans ?_ (by with_reducible assumption)))))).mono ?_; rintro e w1 ⟨rfl, he⟩; clear tok; have hz_he := he.size; (try simp at hz_he); obtain ⟨hl_he_0, hf_he_0⟩ := he.loc (w.heap.size) (by first | omega | (simp; done) | (simp; omega)); obtain ⟨hl_he_1, hf_he_1⟩ := he.loc (w.heap.size + 1) (by first | omega | (simp; done) | (simp; omega)))
    | (go_at_call 29; refine (w_sIsCorner _ y _ (Hu.out.up (by (repeat (first | with_reducible exact Ext.refl _ | with_reducible assumption | with_reducible refine Ext.drew ?_ | with_reducible refine Ext.drewN ?_ _ | with_reducible refine Ext.alloc ?_ _ | ((with_reducible refine Ext.setCell ?_ ?_ _); rotate_left; focus (first | omega | (simp; done) | (simp; omega))) | with_reducible refine Ext.trans ?_ (by with_reducible assumption)))))).mono ?_; rintro e w2 ⟨rfl, he2⟩; have hz_he2 := he2.size; (try simp at hz_he2); obtain ⟨hl_he2_0, hf_he2_0⟩ := he2.loc (w.heap.size) (by first | omega | (simp; done) | (simp; omega)); obtain ⟨hl_he2_1, hf_he2_1⟩ := he2.loc (w.heap.size + 1) (by first | omega | (simp; done) | (simp; omega)))
    | (go_at_call 30; refine (w_l27Within _ _ x y _ (Hv.out.up (by (repeat (first | with_reducible exact Ext.refl _ | with_reducible assumption | with_reducible refine Ext.drew ?_ | with_reducible refine Ext.drewN ?_ _ | with_reducible refine Ext.alloc ?_ _ | ((with_reducible refine Ext.setCell ?_ ?_ _); rotate_left; focus (first | omega | (simp; done) | (simp; omega))) | with_reducible refine Ext.trans ?_ (by with_reducible assumption))))) (Hu.out.up (by (repeat (first | with_reducible exact Ext.refl _ | with_reducible assumption | with_reducible refine Ext.drew ?_ | with_reducible refine Ext.drewN ?_ _ | with_reducible refine Ext.alloc ?_ _ | ((with_reducible refine Ext.setCell ?_ ?_ _); rotate_left; focus (first | omega | (simp; done) | (simp; omega))) | with_reducible refine Ext.trans ?_ (by with_reducible assumption)))))).mono ?_; rintro e w3 ⟨rfl, he3⟩))
  all_goals go_ret
  all_goals refine ⟨ret_bool (tf_eq ?_), (by (repeat (first | with_reducible exact Ext.refl _ | with_reducible assumption | with_reducible refine Ext.drew ?_ | with_reducible refine Ext.drewN ?_ _ | with_reducible refine Ext.alloc ?_ _ | ((with_reducible refine Ext.setCell ?_ ?_ _); rotate_left; focus (first | omega | (simp; done) | (simp; omega))) | with_reducible refine Ext.trans ?_ (by with_reducible assumption))))⟩
  all_goals unfold CornerWithinP
  all_goals (try simp only [Bool.not_eq_true', Bool.not_eq_false', decide_eq_true_eq, decide_eq_false_iff_not, bne_iff_ne, beq_iff_eq, Bool.not_eq_true, Bool.not_eq_false, Bool.and_eq_true, Bool.or_eq_true, Bool.and_eq_false_iff, Bool.or_eq_false_iff, tf_iff, tf_not, withinB_iff, withinB_not] at *)
  all_goals (first | (simp; done) | (simp; intros; omega) | (intros; omega) | (simp_all; done) | (simp_all; intros; omega))

set_option maxRecDepth 100000 in
set_option maxHeartbeats 1000000 in
theorem w_lengthCorner (v : Value) (xs : List Corner) (w : World) (hv : Rd w v xs) :
    Calls Tryd.prog 38 #[v] w fun e w' => e = .returned (.int .i64 xs.length) ∧ w' = w := by
  obtain ⟨A, cap, rfl, hcap, hmax⟩ := hv.form
  clear hv
  go_enter Tryd.func38, Tryd.ntmps38
  go_wp2
  go_ret
  exact ⟨rfl, rfl⟩

set_option maxRecDepth 100000 in
set_option maxHeartbeats 1000000 in
theorem w_IsCornerList (v : Value) (xs : List Corner) (w : World) (hv : Rd w v xs) (hlen : xs.length ≤ 1048576) :
    Calls Tryd.prog 18 #[v] w fun e w' => e = .returned (.bool (tf (CornersP xs))) ∧ Ext w w' := by
  have Hv0 := Lib.hid hv
  obtain ⟨A, cap, rfl, hcap, hmax⟩ := hv.form
  have Hv := Lib.hid hv; clear hv
  go_enter Tryd.func18, Tryd.ntmps18
  go_wp2
  go_loopw [3, 8] (fun nm i wr => ∃ k : Nat, k ≤ xs.length ∧ i = .int .i64 k ∧ App wr w.heap.size 9 nm ((xs.take k).map (·.name)) ∧ Ext w wr ∧ Hid (∀ j (h : j < xs.length), j < k → CornerP xs[j])) (fun _ i _ => xs.length - (intOf i).toNat)
  case atStart => exact ⟨0, by omega, rfl, App.nil _ _ _, Ext.refl _, fun _ _ h => by omega⟩
  case round =>
    obtain ⟨k, hk, rfl, happ, hb, H⟩ := hrel
    by_cases hlt : k < xs.length
    · obtain ⟨b, o, rfl, hbl, g0, g1, g2, g3, g4, grd, f0, f1, f2, f3, f4⟩ := Rd.atCorner (Hv.out.up hb) k hlt
      have Happ := Lib.hid happ; clear happ
      go_wp2_with (first
        | (go_at_call 31; refine (w_IsCorner _ xs[k] _ (grd.up (by (repeat (first | with_reducible exact Ext.refl _ | with_reducible assumption | with_reducible refine Ext.drew ?_ | with_reducible refine Ext.drewN ?_ _ | with_reducible refine Ext.alloc ?_ _ | ((with_reducible refine Ext.setCell ?_ ?_ _); rotate_left; focus (first | omega | (simp; done) | (simp; omega))) | with_reducible refine Ext.trans ?_ (by with_reducible assumption)))))).mono ?_; rintro e w_he ⟨rfl, he⟩; have hz_he := he.size; (try simp at hz_he); obtain ⟨hl_he_0, hf_he_0⟩ := he.loc (wr.heap.size) (by first | omega | (simp; done) | (simp; omega)))
        | (at_builtin; refine wpList_app (α := ByteArray) rfl (.tmp 15) (.tmp 18) _ rfl 9 Tryd.underlying56 (by kernel_rfl) (by decide) _ w.heap.size _ _ xs[k].name rfl (Happ.out.up (by (repeat (first | with_reducible exact Ext.refl _ | with_reducible assumption | with_reducible refine Ext.drew ?_ | with_reducible refine Ext.drewN ?_ _ | with_reducible refine Ext.alloc ?_ _ | ((with_reducible refine Ext.setCell ?_ ?_ _); rotate_left; focus (first | omega | (simp; done) | (simp; omega))) | with_reducible refine Ext.trans ?_ (by with_reducible assumption))))) f0 _ rfl (by simp; omega) (Ext.size (by (repeat (first | with_reducible exact Ext.refl _ | with_reducible assumption | with_reducible refine Ext.drew ?_ | with_reducible refine Ext.drewN ?_ _ | with_reducible refine Ext.alloc ?_ _ | ((with_reducible refine Ext.setCell ?_ ?_ _); rotate_left; focus (first | omega | (simp; done) | (simp; omega))) | with_reducible refine Ext.trans ?_ (by with_reducible assumption))))) ?_; intro v' w2 happ2 hex2 _; have hb2 : Ext w w2 := (hex2 w (by (repeat (first | with_reducible exact Ext.refl _ | with_reducible assumption | with_reducible refine Ext.drew ?_ | with_reducible refine Ext.drewN ?_ _ | with_reducible refine Ext.alloc ?_ _ | ((with_reducible refine Ext.setCell ?_ ?_ _); rotate_left; focus (first | omega | (simp; done) | (simp; omega))) | with_reducible refine Ext.trans ?_ (by with_reducible assumption)))) (Nat.le_refl _))))
      · have hn : (!tf (CornerP xs[k])) = true := by assumption
        go_ret
        refine ⟨ret_bool (tf_mk_not fun h => ?_).symm, (by (repeat (first | with_reducible exact Ext.refl _ | with_reducible assumption | with_reducible refine Ext.drew ?_ | with_reducible refine Ext.drewN ?_ _ | with_reducible refine Ext.alloc ?_ _ | ((with_reducible refine Ext.setCell ?_ ?_ _); rotate_left; focus (first | omega | (simp; done) | (simp; omega))) | with_reducible refine Ext.trans ?_ (by with_reducible assumption))))⟩
        rw [tf_mk (h.2.2.1 k hlt)] at hn
        cases hn
      · have hn : (!tf (CornerP xs[k])) = false := by assumption
        have hg := Lib.hid (tf_iff.1 (show tf (CornerP xs[k]) = true by simpa using hn))
        go_roundw
        case rel => exact ⟨k + 1, by omega, by go_num, by rw [List.take_succ_eq_append_getElem hlt, List.map_append]; exact happ2, hb2, fun j h hj => by
          rcases Nat.lt_or_ge j k with hjk | hjk
          · exact H.out j h hjk
          · obtain rfl : j = k := by omega
            exact hg.out⟩
        case measure => simp [intOf]; omega
    · obtain rfl : k = xs.length := by omega
      rw [List.take_of_length_le (Nat.le_refl _)] at happ
      have Hall := Lib.hid (show ∀ j (h : j < xs.length), CornerP xs[j] from fun j h => H.out j h h)
      have Happ := Lib.hid happ; clear happ
      go_wp2_with (first
        | (go_at_call 38; refine (w_lengthCorner _ xs _ (Hv.out.up (by (repeat (first | with_reducible exact Ext.refl _ | with_reducible assumption | with_reducible refine Ext.drew ?_ | with_reducible refine Ext.drewN ?_ _ | with_reducible refine Ext.alloc ?_ _ | ((with_reducible refine Ext.setCell ?_ ?_ _); rotate_left; focus (first | omega | (simp; done) | (simp; omega))) | with_reducible refine Ext.trans ?_ (by with_reducible assumption)))))).mono ?_; rintro e w' ⟨rfl, rfl⟩)
        | (go_at_call 37; refine (w_within _ _ _ _).mono ?_; rintro e w' ⟨rfl, rfl⟩)
        | (go_at_call 39; refine (w_areNames _ (xs.map (·.name)) _ (Happ.out.up (by (repeat (first | with_reducible exact Ext.refl _ | with_reducible assumption | with_reducible refine Ext.drew ?_ | with_reducible refine Ext.drewN ?_ _ | with_reducible refine Ext.alloc ?_ _ | ((with_reducible refine Ext.setCell ?_ ?_ _); rotate_left; focus (first | omega | (simp; done) | (simp; omega))) | with_reducible refine Ext.trans ?_ (by with_reducible assumption))))).rd).mono ?_; rintro e w_he ⟨rfl, he⟩; have hz_he := he.size; (try simp at hz_he)))
      · have hwn : withinB xs.length 1 4 = true := by assumption
        have hwn := withinB_iff.1 hwn
        go_ret
        refine ⟨ret_bool (tf_congr ?_), (by (repeat (first | with_reducible exact Ext.refl _ | with_reducible assumption | with_reducible refine Ext.drew ?_ | with_reducible refine Ext.drewN ?_ _ | with_reducible refine Ext.alloc ?_ _ | ((with_reducible refine Ext.setCell ?_ ?_ _); rotate_left; focus (first | omega | (simp; done) | (simp; omega))) | with_reducible refine Ext.trans ?_ (by with_reducible assumption))))⟩
        unfold CornersP
        rw [namesP_map xs Hall.out]
        exact ⟨fun h => ⟨by omega, by omega, Hall.out, h⟩, fun h => h.2.2.2⟩
      · have hwn : ¬ withinB xs.length 1 4 = true := by assumption
        have hwn : ¬ (1 ≤ (xs.length : Int) ∧ (xs.length : Int) ≤ 4) := fun h => hwn (withinB_iff.2 h)
        go_ret
        refine ⟨ret_bool (tf_mk_not fun h => ?_).symm, (by (repeat (first | with_reducible exact Ext.refl _ | with_reducible assumption | with_reducible refine Ext.drew ?_ | with_reducible refine Ext.drewN ?_ _ | with_reducible refine Ext.alloc ?_ _ | ((with_reducible refine Ext.setCell ?_ ?_ _); rotate_left; focus (first | omega | (simp; done) | (simp; omega))) | with_reducible refine Ext.trans ?_ (by with_reducible assumption))))⟩
        have h1 := h.1
        have h2 := h.2.1
        omega

set_option maxRecDepth 100000 in
set_option maxHeartbeats 1000000 in
theorem w_sIsCornerList (v : Value) (xs : List Corner) (w : World) (hv : Rd w v xs) :
    Calls Tryd.prog 16 #[v] w fun e w' => e = .returned (.bool (tf (CornersP xs))) ∧ Ext w w' := by
  obtain ⟨A, cap, rfl, hcap, hmax⟩ := hv.form
  have Hv := Lib.hid hv; clear hv
  go_enter Tryd.func16, Tryd.ntmps16
  go_wp2
  go_loopw [3] (fun i wr => ∃ k : Nat, k ≤ xs.length ∧ i = .int .i64 k ∧ Ext w wr ∧ Hid (∀ j (h : j < xs.length), j < k → CornerP xs[j] ∧ ∀ i (h' : i < j), xs[i].name ≠ xs[j].name)) (fun i _ => xs.length - (intOf i).toNat)
  case atStart => exact ⟨0, by omega, rfl, Ext.refl _, fun _ _ h => by omega⟩
  case round =>
    obtain ⟨k, hk, rfl, hb, H⟩ := hrel
    by_cases hlt : k < xs.length
    · obtain ⟨b, o, rfl, hbl, g0, g1, g2, g3, g4, grd, f0, f1, f2, f3, f4⟩ := Rd.atCorner (Hv.out.up hb) k hlt
      by_cases hcp : CornerP xs[k]
      · have hc1 := tf_mk hcp
        have hc := Lib.hid hcp
        clear hcp
        go_wp2_with (go_at_call 29; refine (w_sIsCorner _ xs[k] _ (grd.up (by (repeat (first | with_reducible exact Ext.refl _ | with_reducible assumption | with_reducible refine Ext.drew ?_ | with_reducible refine Ext.drewN ?_ _ | with_reducible refine Ext.alloc ?_ _ | ((with_reducible refine Ext.setCell ?_ ?_ _); rotate_left; focus (first | omega | (simp; done) | (simp; omega))) | with_reducible refine Ext.trans ?_ (by with_reducible assumption)))))).mono ?_; rintro e w_he ⟨rfl, he⟩; have hz_he := he.size; (try simp at hz_he))
        have hbo : Ext w w_he := (by (repeat (first | with_reducible exact Ext.refl _ | with_reducible assumption | with_reducible refine Ext.drew ?_ | with_reducible refine Ext.drewN ?_ _ | with_reducible refine Ext.alloc ?_ _ | ((with_reducible refine Ext.setCell ?_ ?_ _); rotate_left; focus (first | omega | (simp; done) | (simp; omega))) | with_reducible refine Ext.trans ?_ (by with_reducible assumption))))
        clear g0 g1 g2 g3 g4 grd
        obtain ⟨wo, hwo⟩ : ∃ wo : World, wo = wr := ⟨_, rfl⟩
        subst hwo
        go_loopw [4] (fun i wq => ∃ q : Nat, q ≤ k ∧ i = .int .i64 q ∧ Ext w wq ∧ Hid (∀ i (h' : i < xs.length), i < q → xs[i].name ≠ xs[k].name)) (fun i _ => k - (intOf i).toNat)
        case atStart => exact ⟨0, by omega, rfl, hbo, fun _ _ h => by omega⟩
        case round =>
          obtain ⟨q, hq, rfl, hbq, HQ⟩ := hrel
          by_cases hqk : q < k
          · have hlq : q < xs.length := by omega
            have hqc : (q : Int) < (xs.length : Int) := by omega
            obtain ⟨_, _, hA, hbl1, g0, g1, g2, g3, g4, grd, _⟩ := Rd.atCorner (Hv.out.up hbq) k hlt
            injection hA with hA; injection hA with hA1 hA2; subst hA1 hA2
            obtain ⟨_, _, hA', _, g0', g1', g2', g3', g4', grd', _⟩ := Rd.atCorner (Hv.out.up hbq) q hlq
            injection hA' with hA'; injection hA' with hA1 hA2; subst hA1 hA2
            go_wp2
            go_quiet (fail)
            go_wp2
            · have hh : (xs[q].name.toList == xs[k].name.toList) = true := by assumption
              have he2 : xs[q].name = xs[k].name := ba_ext (by simpa using hh)
              go_ret
              exact ⟨ret_bool (tf_mk_not fun h => h.2.2.2 k hlt q hqk he2).symm, (by (repeat (first | with_reducible exact Ext.refl _ | with_reducible assumption | with_reducible refine Ext.drew ?_ | with_reducible refine Ext.drewN ?_ _ | with_reducible refine Ext.alloc ?_ _ | ((with_reducible refine Ext.setCell ?_ ?_ _); rotate_left; focus (first | omega | (simp; done) | (simp; omega))) | with_reducible refine Ext.trans ?_ (by with_reducible assumption))))⟩
            · have hh : (xs[q].name.toList == xs[k].name.toList) = false := by assumption
              have he2 : xs[q].name ≠ xs[k].name := fun h => by rw [h] at hh; simp at hh
              have he2 := Lib.hid he2
              go_roundw
              case rel => exact ⟨q + 1, by omega, by go_num, (by (repeat (first | with_reducible exact Ext.refl _ | with_reducible assumption | with_reducible refine Ext.drew ?_ | with_reducible refine Ext.drewN ?_ _ | with_reducible refine Ext.alloc ?_ _ | ((with_reducible refine Ext.setCell ?_ ?_ _); rotate_left; focus (first | omega | (simp; done) | (simp; omega))) | with_reducible refine Ext.trans ?_ (by with_reducible assumption)))), fun j h hj => by
                rcases Nat.lt_or_ge j q with hjk | hjk
                · exact HQ.out j h hjk
                · obtain rfl : j = q := by omega
                  exact he2.out⟩
              case measure => simp [intOf]; omega
          · go_wp2
            go_roundw
            case rel => exact ⟨k + 1, by omega, by go_num, hbq, fun j h hj => by
              rcases Nat.lt_or_ge j k with hjk | hjk
              · exact H.out j h hjk
              · obtain rfl : j = k := by omega
                exact ⟨hc.out, fun i hi => HQ.out i (by omega) (by omega)⟩⟩
            case measure => simp [intOf]; omega
      · have hc1 := tf_mk_not hcp
        have hc := Lib.hid hcp
        clear hcp
        go_wp2_with (go_at_call 29; refine (w_sIsCorner _ xs[k] _ (grd.up (by (repeat (first | with_reducible exact Ext.refl _ | with_reducible assumption | with_reducible refine Ext.drew ?_ | with_reducible refine Ext.drewN ?_ _ | with_reducible refine Ext.alloc ?_ _ | ((with_reducible refine Ext.setCell ?_ ?_ _); rotate_left; focus (first | omega | (simp; done) | (simp; omega))) | with_reducible refine Ext.trans ?_ (by with_reducible assumption)))))).mono ?_; rintro e w_he ⟨rfl, he⟩; have hz_he := he.size; (try simp at hz_he))
        go_ret
        exact ⟨ret_bool (tf_mk_not fun h => hc.out (h.2.2.1 k hlt)).symm, (by (repeat (first | with_reducible exact Ext.refl _ | with_reducible assumption | with_reducible refine Ext.drew ?_ | with_reducible refine Ext.drewN ?_ _ | with_reducible refine Ext.alloc ?_ _ | ((with_reducible refine Ext.setCell ?_ ?_ _); rotate_left; focus (first | omega | (simp; done) | (simp; omega))) | with_reducible refine Ext.trans ?_ (by with_reducible assumption))))⟩
    · have Hall := Lib.hid (show ∀ j (h : j < xs.length), CornerP xs[j] ∧ ∀ i (h' : i < j), xs[i].name ≠ xs[j].name from fun j h => H.out j h (by omega))
      by_cases h1 : 1 ≤ xs.length
      · have h1' : (1 : Int) ≤ (xs.length : Int) := by omega
        go_wp2
        go_ret
        refine ⟨ret_bool (tf_eq ?_), (by (repeat (first | with_reducible exact Ext.refl _ | with_reducible assumption | with_reducible refine Ext.drew ?_ | with_reducible refine Ext.drewN ?_ _ | with_reducible refine Ext.alloc ?_ _ | ((with_reducible refine Ext.setCell ?_ ?_ _); rotate_left; focus (first | omega | (simp; done) | (simp; omega))) | with_reducible refine Ext.trans ?_ (by with_reducible assumption))))⟩
        rw [decide_eq_true_eq]
        exact ⟨fun h => ⟨h1, by omega, fun j h => (Hall.out j h).1, fun j h i h' => (Hall.out j h).2 i h'⟩, fun h => by have := h.2.1; omega⟩
      · go_wp2
        go_ret
        exact ⟨ret_bool (tf_mk_not fun h => h1 h.1).symm, (by (repeat (first | with_reducible exact Ext.refl _ | with_reducible assumption | with_reducible refine Ext.drew ?_ | with_reducible refine Ext.drewN ?_ _ | with_reducible refine Ext.alloc ?_ _ | ((with_reducible refine Ext.setCell ?_ ?_ _); rotate_left; focus (first | omega | (simp; done) | (simp; omega))) | with_reducible refine Ext.trans ?_ (by with_reducible assumption))))⟩
end Go.Proofs.YtfbbbgonapgfiaaDoor
