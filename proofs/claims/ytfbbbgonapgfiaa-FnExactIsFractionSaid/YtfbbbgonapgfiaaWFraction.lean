/- The walks of IsFraction, on both sides: each returns whether the fraction is one in lowest terms within bounds. No condition. -/
import Derived.Test.YtfbbbgonapgfiaaTypes
import Derived.Test.YtfbbbgonapgfiaaProg
namespace Go.Proofs.Ytfbbbgonapgfiaa
open Go.RowKit

def withinB (a b c : Int) : Bool := decide (b ≤ a) && decide (a ≤ c)
theorem withinB_iff {a b c : Int} : withinB a b c = true ↔ b ≤ a ∧ a ≤ c := by simp [withinB]
def isFraction (f : Fraction) : Bool := withinB f.den 1 1000000 && withinB f.num 0 f.den && (Nat.gcd f.num.toNat f.den.toNat == 1)

set_option maxHeartbeats 400000 in
theorem w_l01In (a b c : Int) (w : World) :
    Calls Try.prog 7 #[.int .i64 a, .int .i64 b, .int .i64 c] w fun e w' => e = .returned (.bool (withinB a b c)) ∧ w' = w := by
  go_enter Try.func7, Try.ntmps7
  go_wp2
  all_goals go_ret
  all_goals refine ⟨ret_bool ?_, rfl⟩
  all_goals simp [withinB, *]
  all_goals omega

set_option maxHeartbeats 400000 in
theorem w_within (a b c : Int) (w : World) :
    Calls Try.prog 9 #[.int .i64 a, .int .i64 b, .int .i64 c] w fun e w' => e = .returned (.bool (withinB a b c)) ∧ w' = w := by
  go_enter Try.func9, Try.ntmps9
  go_wp2
  all_goals go_ret
  all_goals refine ⟨ret_bool ?_, rfl⟩
  all_goals simp [withinB, *]
  all_goals omega

theorem gcd_step (x y a b : Nat) (h : Nat.gcd x y = Nat.gcd a b) : Nat.gcd y (x % y) = Nat.gcd a b := by
  rw [Nat.gcd_comm, ← Nat.gcd_rec, Nat.gcd_comm, h]

set_option maxHeartbeats 400000 in
theorem w_l29Gcd (a b : Int) (ha : 0 ≤ a) (ha' : a ≤ 1000000) (hb : 0 ≤ b) (hb' : b ≤ 1000000) (w : World) :
    Calls Try.prog 8 #[.int .i64 a, .int .i64 b] w fun e w' => e = .returned (.int .i64 (Nat.gcd a.toNat b.toNat)) ∧ Ext w w' := by
  obtain ⟨a, rfl⟩ := Int.eq_ofNat_of_zero_le ha
  obtain ⟨b, rfl⟩ := Int.eq_ofNat_of_zero_le hb
  simp only [Int.toNat_natCast]
  go_enter Try.func8, Try.ntmps8
  go_wp2
  go_loop [0, 1] (fun u v => ∃ x y : Nat, x ≤ 1000000 ∧ y ≤ 1000000 ∧ u = .int .i64 x ∧ v = .int .i64 y ∧ Hid (Nat.gcd x y = Nat.gcd a b)) (fun _ v => (intOf v).toNat)
  case atStart => exact ⟨a, b, by omega, by omega, rfl, rfl, rfl⟩
  case round =>
    obtain ⟨x, y, hx, hy, rfl, rfl, H⟩ := hrel
    by_cases h0 : y = 0
    · subst h0
      go_wp2
      go_ret
      refine ⟨ret_int ?_, Ext.refl _⟩
      have := H.out
      simp at this
      rw [this]
    · have hne : ((y : Int) != 0) = true := by simp; omega
      have hz : ((y : Int) == 0) = false := by simp; omega
      go_wp2
      go_round
      case rel => exact ⟨y, x % y, by omega, by have := Nat.mod_lt x (show 0 < y by omega); omega, rfl, by first | rfl | (congr 1; omega), gcd_step _ _ _ _ H.out⟩
      case measure => simp [intOf]; have := Nat.mod_lt x (show 0 < y by omega); omega

set_option maxHeartbeats 400000 in
theorem w_gcd (a b : Int) (ha : 0 ≤ a) (ha' : a ≤ 1000000) (hb : 0 ≤ b) (hb' : b ≤ 1000000) (w : World) :
    Calls Try.prog 10 #[.int .i64 a, .int .i64 b] w fun e w' => e = .returned (.int .i64 (Nat.gcd a.toNat b.toNat)) ∧ Ext w w' := by
  obtain ⟨a, rfl⟩ := Int.eq_ofNat_of_zero_le ha
  obtain ⟨b, rfl⟩ := Int.eq_ofNat_of_zero_le hb
  simp only [Int.toNat_natCast]
  go_enter Try.func10, Try.ntmps10
  go_wp2
  go_loopw [0, 1] (fun u v wr => ∃ x y : Nat, x ≤ 1000000 ∧ y ≤ 1000000 ∧ u = .int .i64 x ∧ v = .int .i64 y ∧ Hid (Nat.gcd x y = Nat.gcd a b) ∧ Ext w wr) (fun _ v _ => (intOf v).toNat)
  case atStart => exact ⟨a, b, by omega, by omega, rfl, rfl, rfl, Ext.refl _⟩
  case round =>
    obtain ⟨x, y, hx, hy, rfl, rfl, H, he⟩ := hrel
    by_cases h0 : y = 0
    · subst h0
      go_wp2
      go_ret
      refine ⟨ret_int ?_, he⟩
      have := H.out
      simp at this
      rw [this]
    · have hne : ((y : Int) != 0) = true := by simp; omega
      have hz : ((y : Int) == 0) = false := by simp; omega
      go_wp2
      go_quiet (fail)
      go_wp2
      go_roundw
      case rel => exact ⟨y, x % y, by omega, by have := Nat.mod_lt x (show 0 < y by omega); omega, rfl, by first | rfl | (congr 1; omega), gcd_step _ _ _ _ H.out, (by (repeat (first | exact Ext.refl _ | assumption | refine Ext.drew ?_ | refine Ext.drewN ?_ _ | refine Ext.alloc ?_ _ | refine Ext.setCell ?_ (by first | omega | (simp; done) | (simp; omega)) _ | refine Ext.trans ?_ (by assumption))))⟩
      case measure => simp [intOf]; have := Nat.mod_lt x (show 0 < y by omega); omega

set_option maxHeartbeats 400000 in
theorem w_sIsFraction (f : Fraction) (w : World) :
    Calls Try.prog 4 #[.agg #[.int .i64 f.num, .int .i64 f.den]] w fun e w' => e = .returned (.bool (isFraction f)) ∧ Ext w w' := by
  by_cases h1 : withinB f.den 1 1000000 = true
  · have h1' := withinB_iff.1 h1
    by_cases h2 : withinB f.num 0 f.den = true
    · have h2' := withinB_iff.1 h2
      go_enter Try.func4, Try.ntmps4
      go_wp2_with (first
        | (go_at_call 7; refine (w_l01In _ _ _ _).mono ?_; rintro e w' ⟨rfl, rfl⟩)
        | (go_at_call 8; refine (w_l29Gcd _ _ (by omega) (by omega) (by omega) (by omega) _).mono ?_; rintro e w1 ⟨rfl, he⟩))
      go_ret
      refine ⟨ret_bool ?_, (by (repeat (first | exact Ext.refl _ | assumption | refine Ext.drew ?_ | refine Ext.drewN ?_ _ | refine Ext.alloc ?_ _ | refine Ext.setCell ?_ (by first | omega | (simp; done) | (simp; omega)) _ | refine Ext.trans ?_ (by assumption))))⟩
      simp only [isFraction, h1, h2, Bool.true_and]
      rw [Nat.gcd_comm, Bool.eq_iff_iff]
      simp; omega
    · simp only [Bool.not_eq_true] at h2
      go_enter Try.func4, Try.ntmps4
      go_wp2_with (first
        | (go_at_call 7; refine (w_l01In _ _ _ _).mono ?_; rintro e w' ⟨rfl, rfl⟩))
      go_ret
      exact ⟨ret_bool (by simp [isFraction, h2]), (by (repeat (first | exact Ext.refl _ | assumption | refine Ext.drew ?_ | refine Ext.drewN ?_ _ | refine Ext.alloc ?_ _ | refine Ext.setCell ?_ (by first | omega | (simp; done) | (simp; omega)) _ | refine Ext.trans ?_ (by assumption))))⟩
  · simp only [Bool.not_eq_true] at h1
    go_enter Try.func4, Try.ntmps4
    go_wp2_with (first
      | (go_at_call 7; refine (w_l01In _ _ _ _).mono ?_; rintro e w' ⟨rfl, rfl⟩))
    go_ret
    exact ⟨ret_bool (by simp [isFraction, h1]), (by (repeat (first | exact Ext.refl _ | assumption | refine Ext.drew ?_ | refine Ext.drewN ?_ _ | refine Ext.alloc ?_ _ | refine Ext.setCell ?_ (by first | omega | (simp; done) | (simp; omega)) _ | refine Ext.trans ?_ (by assumption))))⟩

set_option maxHeartbeats 400000 in
theorem w_IsFraction (f : Fraction) (w : World) :
    Calls Try.prog 6 #[.agg #[.int .i64 f.num, .int .i64 f.den]] w fun e w' => e = .returned (.bool (isFraction f)) ∧ Ext w w' := by
  by_cases h1 : withinB f.den 1 1000000 = true
  · have h1' := withinB_iff.1 h1
    by_cases h2 : withinB f.num 0 f.den = true
    · have h2' := withinB_iff.1 h2
      go_enter Try.func6, Try.ntmps6
      go_wp2_with (first
        | (go_at_call 9; refine (w_within _ _ _ _).mono ?_; rintro e w' ⟨rfl, rfl⟩)
        | (go_at_call 10; refine (w_gcd _ _ (by omega) (by omega) (by omega) (by omega) _).mono ?_; rintro e w1 ⟨rfl, he⟩))
      go_ret
      refine ⟨ret_bool ?_, (by (repeat (first | exact Ext.refl _ | assumption | refine Ext.drew ?_ | refine Ext.drewN ?_ _ | refine Ext.alloc ?_ _ | refine Ext.setCell ?_ (by first | omega | (simp; done) | (simp; omega)) _ | refine Ext.trans ?_ (by assumption))))⟩
      simp only [isFraction, h1, h2, Bool.true_and]
      rw [Bool.eq_iff_iff]
      simp; omega
    · simp only [Bool.not_eq_true] at h2
      go_enter Try.func6, Try.ntmps6
      go_wp2_with (first
        | (go_at_call 9; refine (w_within _ _ _ _).mono ?_; rintro e w' ⟨rfl, rfl⟩))
      go_ret
      exact ⟨ret_bool (by simp [isFraction, h2]), (by (repeat (first | exact Ext.refl _ | assumption | refine Ext.drew ?_ | refine Ext.drewN ?_ _ | refine Ext.alloc ?_ _ | refine Ext.setCell ?_ (by first | omega | (simp; done) | (simp; omega)) _ | refine Ext.trans ?_ (by assumption))))⟩
  · simp only [Bool.not_eq_true] at h1
    go_enter Try.func6, Try.ntmps6
    go_wp2_with (first
      | (go_at_call 9; refine (w_within _ _ _ _).mono ?_; rintro e w' ⟨rfl, rfl⟩))
    go_ret
    exact ⟨ret_bool (by simp [isFraction, h1]), (by (repeat (first | exact Ext.refl _ | assumption | refine Ext.drew ?_ | refine Ext.drewN ?_ _ | refine Ext.alloc ?_ _ | refine Ext.setCell ?_ (by first | omega | (simp; done) | (simp; omega)) _ | refine Ext.trans ?_ (by assumption))))⟩

set_option maxHeartbeats 400000 in
theorem w_toFraction (f : Fraction) (w : World) :
    Calls Try.prog 5 #[.agg #[.int .i64 f.num, .int .i64 f.den]] w fun e w' => e = .returned (.agg #[.int .i64 f.num, .int .i64 f.den]) ∧ Ext w w' := by
  go_enter Try.func5, Try.ntmps5
  go_wp2
  exact bodyPost_ret (v := .agg #[.int .i64 f.num, .int .i64 f.den]) (by simp [results, Try.results5, go_sem]) rfl ⟨rfl, (by (repeat (first | exact Ext.refl _ | assumption | refine Ext.drew ?_ | refine Ext.drewN ?_ _ | refine Ext.alloc ?_ _ | refine Ext.setCell ?_ (by first | omega | (simp; done) | (simp; omega)) _ | refine Ext.trans ?_ (by assumption))))⟩

set_option maxHeartbeats 400000 in
theorem w_FnExactIsFraction (v : Value) (f : Fraction) (w : World) (hv : Rd w v f) :
    Calls Try.prog 3 #[v] w fun e w' => e = .returned (.bool true) ∧ Ext w w' := by
  obtain ⟨rfl, _, _⟩ := Fraction.rd.1 hv
  go_enter Try.func3, Try.ntmps3
  go_wp2_with (first
    | (go_at_call 5; refine (w_toFraction _ _).mono ?_; rintro e w_he ⟨rfl, he⟩; have hz_he := he.size; (try simp at hz_he); obtain ⟨hl_he_0, hf_he_0⟩ := he.loc (w.heap.size) (by first | omega | (simp; done) | (simp; omega)))
    | (go_at_call 4; refine (w_sIsFraction _ _).mono ?_; rintro e w_he2 ⟨rfl, he2⟩; have hz_he2 := he2.size; (try simp at hz_he2); obtain ⟨hl_he2_0, hf_he2_0⟩ := he2.loc (w.heap.size) (by first | omega | (simp; done) | (simp; omega)))
    | (go_at_call 6; refine (w_IsFraction _ _).mono ?_; rintro e w_he3 ⟨rfl, he3⟩; have hz_he3 := he3.size; (try simp at hz_he3)))
  go_ret
  exact ⟨rfl, (by (repeat (first | exact Ext.refl _ | assumption | refine Ext.drew ?_ | refine Ext.drewN ?_ _ | refine Ext.alloc ?_ _ | refine Ext.setCell ?_ (by first | omega | (simp; done) | (simp; omega)) _ | refine Ext.trans ?_ (by assumption))))⟩
end Go.Proofs.Ytfbbbgonapgfiaa
