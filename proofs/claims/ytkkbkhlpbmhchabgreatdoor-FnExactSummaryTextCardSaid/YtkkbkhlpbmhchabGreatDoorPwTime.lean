/- Times as texts: both sides. No program in sight. -/
import Derived.Test.YtkkbkhlpbmhchabGreatDoorPwText
namespace Go.Proofs.YtkkbkhlpbmhchabGreatDoor
set_option linter.unusedSimpArgs false
set_option linter.unusedVariables false
set_option linter.unusedSectionVars false
set_option linter.unusedVariables false
set_option linter.unusedSimpArgs false
set_option maxHeartbeats 1000000

theorem dd_small {n : Nat} (h : n < 10) : Lib.decDigits n = [UInt8.ofNat (48 + n)] := by rw [Lib.decDigits, dif_pos h]
theorem dd_big {n : Nat} (h : ¬ n < 10) : Lib.decDigits n = Lib.decDigits (n / 10) ++ [UInt8.ofNat (48 + n % 10)] := by rw [Lib.decDigits, dif_neg h]
theorem dig4 {r : Nat} (h : r < 1000) : Lib.decDigits (1000 + r) = 49 :: (Lib.repeatL [48] (3 - (Lib.decDigits r).length) ++ Lib.decDigits r) ∧ 1 ≤ (Lib.decDigits r).length ∧ (Lib.decDigits r).length ≤ 3 := by
  have e : Lib.decDigits (1000 + r) = [49, UInt8.ofNat (48 + r / 100), UInt8.ofNat (48 + r / 10 % 10), UInt8.ofNat (48 + r % 10)] := by
    rw [dd_big (by omega), show (1000 + r) / 10 = 100 + r / 10 by omega, show (1000 + r) % 10 = r % 10 by omega,
      dd_big (by omega), show (100 + r / 10) / 10 = 10 + r / 100 by omega, show (100 + r / 10) % 10 = r / 10 % 10 by omega,
      dd_big (by omega), show (10 + r / 100) / 10 = 1 by omega, show (10 + r / 100) % 10 = r / 100 by omega, dd_small (by omega)]
    rfl
  rw [e]
  by_cases h1 : r < 10
  · rw [dd_small h1, show r / 100 = 0 by omega, show r / 10 % 10 = 0 by omega, show r % 10 = r by omega]
    exact ⟨rfl, by simp, by simp⟩
  · by_cases h2 : r < 100
    · rw [dd_big h1, dd_small (by omega), show r / 100 = 0 by omega, show r / 10 % 10 = r / 10 by omega]
      exact ⟨rfl, by simp, by simp⟩
    · rw [dd_big h1, dd_big (by omega), dd_small (by omega), show r / 10 / 10 = r / 100 by omega]
      exact ⟨rfl, by simp, by simp⟩
theorem B_tail (x : UInt8) (l : List UInt8) : (B (x :: l)).extract 1 (B (x :: l)).size = B l := by
  apply ba_data
  rw [ByteArray.data_extract, B_size]
  simp
/-- A time without its sign. -/
def tabsL (m : Nat) : List UInt8 := Lib.decDigits (m / 1000) ++ [46] ++ Lib.repeatL [48] (3 - (Lib.decDigits (m % 1000)).length) ++ Lib.decDigits (m % 1000)
/-- A time. -/
def timeL (n : Int) : List UInt8 := (if n < 0 then [45] else []) ++ tabsL n.natAbs
theorem itoaN (n : Nat) : Lib.itoa (n : Int) = Lib.decDigits n := by
  unfold Lib.itoa
  rw [if_neg (by omega)]
  simp

section
variable {N : Nat} (hN : 4000000 ≤ N) {u : Unit}
include hN
theorem impl_decimalN {n : Nat} (h : n ≤ 100000000000000000) : F_impl_decimal N ((n : Int), u) = some (B (Lib.decDigits n), ()) := by
  rw [impl_decimal hN ⟨by omega, by omega⟩, itoaN]
theorem spec_numberN {n : Nat} (h : n ≤ 100000000000000000) : F_spec_l01Number N N ((n : Int), u) = some (B (Lib.decDigits n), ()) := by
  rw [spec_l01Number hN ⟨by omega, by omega⟩, itoaN]
omit hN in
theorem impl_zeros {k : Nat} (h : k ≤ 3) : F_strings_Repeat N ((⟨#[48]⟩ : ByteArray), (k : Int), u) = some (B (Lib.repeatL [48] k), ()) := by
  unfold F_strings_Repeat
  dsimp only
  rw [decide_eq_true (by omega : (0 : Int) ≤ (k : Int)), decide_eq_true (by omega : (k : Int) ≤ 9223372036854775807), Int.toNat_natCast, decide_eq_true (by
    have : (⟨#[48]⟩ : ByteArray).size = 1 := rfl
    rw [this]; omega : (⟨#[48]⟩ : ByteArray).size * k ≤ 140737488355328)]
  rfl
omit hN in
theorem tabs_len {m : Nat} (h : m ≤ 1000000000) : (tabsL m).length ≤ 30 := by
  have h1 := decDigits_len 17 (m / 1000) (by omega)
  obtain ⟨_, h2, h3⟩ := dig4 (r := m % 1000) (by omega)
  have h4 : ∀ k, (Lib.repeatL [48] k).length = k := fun k => by
    induction k with
    | zero => rfl
    | succ k ih => simp [Lib.repeatL, ih]
  unfold tabsL
  simp only [List.length_append, List.length_cons, List.length_nil, h4]
  omega
theorem impl_formatTime {n : Int} (h : BtwP (-1000000000) 1000000000 n) : F_impl_formatTime N (n, u) = some (B (timeL n), ()) := by
  obtain ⟨h1, h2⟩ := h
  have hd := decDigits_len 17 (n.natAbs / 1000) (by omega)
  obtain ⟨_, k1, k2⟩ := dig4 (r := n.natAbs % 1000) (by omega)
  have hz : ∀ k, (Lib.repeatL [48] k).length = k := fun k => by
    induction k with
    | zero => rfl
    | succ k ih => simp [Lib.repeatL, ih]
  have c0 : (⟨#[45]⟩ : ByteArray) = B [45] := rfl
  have c1 : (⟨#[46]⟩ : ByteArray) = B [46] := rfl
  have c2 : (⟨#[]⟩ : ByteArray) = B [] := rfl
  have sub3 : IntKind.i64.wrap ((3 : Int) - ((B (Lib.decDigits (n.natAbs % 1000))).size : Int)) = ((3 - (Lib.decDigits (n.natAbs % 1000)).length : Nat) : Int) := by
    rw [B_size, wrap64 (by omega) (by omega)]; omega
  refine Ret.eq ?_
  unfold F_impl_formatTime
  dsimp only
  refine Ret.ifd ?_ ?_ <;> intro hn
  · have e0 : IntKind.i64.wrap (0 - n) = ((n.natAbs : Nat) : Int) := by rw [wrap64 (by omega) (by omega)]; omega
    have e1 : ((n.natAbs : Nat) : Int).tdiv 1000 = ((n.natAbs / 1000 : Nat) : Int) := by rw [Int.tdiv_eq_ediv_of_nonneg (by omega)]; omega
    have e2 : ((n.natAbs : Nat) : Int).tmod 1000 = ((n.natAbs % 1000 : Nat) : Int) := by rw [Int.tmod_eq_emod_of_nonneg (by omega)]; omega
    rw [e0, e1, e2, wrap64 (by omega) (by omega)]
    refine Ret.call (impl_decimalN hN (by omega)) (Ret.call (impl_decimalN hN (by omega)) ?_)
    dsimp only
    rw [c0, c1, sub3]
    simp only [B_app]
    iterate 2 refine Ret.guard (by simp only [B_size, limS, List.length_append, List.length_cons, List.length_nil]; omega) ?_
    refine Ret.call (impl_zeros (by omega)) ?_
    dsimp only
    simp only [B_app]
    iterate 2 refine Ret.guard (by simp only [B_size, limS, List.length_append, List.length_cons, List.length_nil, hz]; omega) ?_
    refine Ret.ret ?_
    simp [timeL, tabsL, hn, B]
  · obtain ⟨m, rfl⟩ : ∃ m : Nat, n = (m : Int) := ⟨n.toNat, by omega⟩
    rw [Int.natAbs_natCast] at *
    have e1 : ((m : Nat) : Int).tdiv 1000 = ((m / 1000 : Nat) : Int) := by rw [Int.tdiv_eq_ediv_of_nonneg (by omega)]; omega
    have e2 : ((m : Nat) : Int).tmod 1000 = ((m % 1000 : Nat) : Int) := by rw [Int.tmod_eq_emod_of_nonneg (by omega)]; omega
    rw [e1, e2, wrap64 (by omega) (by omega)]
    refine Ret.call (impl_decimalN hN (by omega)) (Ret.call (impl_decimalN hN (by omega)) ?_)
    dsimp only
    rw [c2, c1, sub3]
    simp only [B_app]
    iterate 2 refine Ret.guard (by simp only [B_size, limS, List.length_append, List.length_cons, List.length_nil]; omega) ?_
    refine Ret.call (impl_zeros (by omega)) ?_
    dsimp only
    simp only [B_app]
    iterate 2 refine Ret.guard (by simp only [B_size, limS, List.length_append, List.length_cons, List.length_nil, hz]; omega) ?_
    refine Ret.ret ?_
    simp [timeL, tabsL, hn, B]
theorem spec_ft (M : Nat) {m : Nat} (h : m ≤ 1000000000) : F_spec_FormatTime N (M + 1) ((m : Int), u) = some (B (tabsL m), ()) := by
  have hd := decDigits_len 17 (m / 1000) (by omega)
  obtain ⟨k0, k1, k2⟩ := dig4 (r := m % 1000) (by omega)
  have hz : ∀ k, (Lib.repeatL [48] k).length = k := fun k => by
    induction k with
    | zero => rfl
    | succ k ih => simp [Lib.repeatL, ih]
  have c1 : (⟨#[46]⟩ : ByteArray) = B [46] := rfl
  have e1 : ((m : Nat) : Int).tdiv 1000 = ((m / 1000 : Nat) : Int) := by rw [Int.tdiv_eq_ediv_of_nonneg (by omega)]; omega
  have e2 : ((m : Nat) : Int).tmod 1000 = ((m % 1000 : Nat) : Int) := by rw [Int.tmod_eq_emod_of_nonneg (by omega)]; omega
  have e3 : IntKind.i64.wrap ((1000 : Int) + ((m % 1000 : Nat) : Int)) = ((1000 + m % 1000 : Nat) : Int) := by rw [wrap64 (by omega) (by omega)]; omega
  have hx : (B (Lib.decDigits (1000 + m % 1000))).extract (1 : Int).toNat ((B (Lib.decDigits (1000 + m % 1000))).size : Int).toNat = B (Lib.repeatL [48] (3 - (Lib.decDigits (m % 1000)).length) ++ Lib.decDigits (m % 1000)) := by
    rw [k0]
    show (B _).extract 1 ((B _).size : Int).toNat = _
    rw [Int.toNat_natCast]
    exact B_tail _ _
  refine Ret.eq ?_
  unfold F_spec_FormatTime
  dsimp only
  refine Ret.call (spec_l01In _ _ _ _ _) ?_
  rw [dec_of (P := BtwP _ _ _) ⟨by omega, by omega⟩]
  refine Ret.mustN (c := (m : Int) < 0) (by omega) ?_
  rw [e1, e2, e3, wrap64 (n := ((m / 1000 : Nat) : Int)) (by omega) (by omega)]
  refine Ret.call (spec_numberN hN (n := 1000 + m % 1000) (by omega)) (Ret.call (spec_numberN hN (n := m / 1000) (by omega)) ?_)
  dsimp only
  rw [hx, c1]
  simp only [B_app]
  refine Ret.guard (by simp only [B_size, limS, List.length_append, List.length_cons, List.length_nil]; omega) (Ret.guard3 ⟨by omega, ?_, by omega⟩ (Ret.guard (by simp only [B_size, limS, List.length_append, List.length_cons, List.length_nil, hz]; omega) (Ret.ret ?_)))
  · rw [B_size, k0]; simp; omega
  · simp [tabsL, B]
theorem spec_FormatTime {n : Int} (h : BtwP (-1000000000) 1000000000 n) : F_spec_FormatTime N N (n, u) = some (B (timeL n), ()) := by
  obtain ⟨M, rfl⟩ : ∃ M, N = M + 2 := ⟨N - 2, by omega⟩
  obtain ⟨h1, h2⟩ := h
  by_cases hn : n < 0
  · have hl := tabs_len (m := n.natAbs) (by omega)
    have e0 : IntKind.i64.wrap (0 - n) = ((n.natAbs : Nat) : Int) := by rw [wrap64 (by omega) (by omega)]; omega
    have c0 : (⟨#[45]⟩ : ByteArray) = B [45] := rfl
    refine Ret.eq ?_
    unfold F_spec_FormatTime
    dsimp only
    refine Ret.call (spec_l01In _ _ _ _ _) ?_
    rw [dec_of (P := BtwP _ _ _) ⟨by omega, by omega⟩]
    refine Ret.must hn ?_
    rw [e0]
    refine Ret.call (spec_ft hN M (by omega)) ?_
    dsimp only
    rw [c0]
    simp only [B_app]
    refine Ret.guard (by simp only [B_size, limS, List.length_append, List.length_cons, List.length_nil]; omega) (Ret.ret ?_)
    simp [timeL, hn, B]
  · obtain ⟨m, rfl⟩ : ∃ m : Nat, n = (m : Int) := ⟨n.toNat, by omega⟩
    rw [spec_ft hN (M + 1) (by omega)]
    simp [timeL, hn]
end
end Go.Proofs.YtkkbkhlpbmhchabGreatDoor
