/- PowerText: what the law reckons is true. No program in sight. -/
import Derived.Test.YtfbbbgonapgfiaaDoorPvD1
import Derived.Test.YtfbbbgonapgfiaaDoorPvPure
namespace Go.Proofs.YtfbbbgonapgfiaaDoor
set_option linter.unusedSimpArgs false
set_option linter.unusedVariables false

theorem number (N : Nat) : ∀ (M n : Nat), M ≤ 100 → n < 10 ^ (M + 1) → n < 1000000000000000000 → F_spec_l01Number N (M + 1) ((n : Int), ()) = some (⟨(Lib.decDigits n).toArray⟩, ())
  | M, n, hM, hn, hb => by
    rw [F_spec_l01Number]
    have h0 : ¬ ((n : Int) < 0) := by omega
    simp only [h0, decide_false, cond_false]
    by_cases h : n < 10
    · have h1 : (n : Int) < 10 := by omega
      simp only [h1, decide_true, cond_true]
      rw [Lib.decDigits, dif_pos h, wrap64 (by omega) (by omega), wrap8 (by omega) (by omega)]
      have : ((48 : Int) + n).toNat = 48 + n := by omega
      simp [strOf, this]
      rfl
    · have h1 : ¬ ((n : Int) < 10) := by omega
      simp only [h1, decide_false, cond_false]
      cases M with
      | zero => omega
      | succ M =>
        have e1 : (n : Int).tdiv 10 = ((n / 10 : Nat) : Int) := by
          rw [Int.tdiv_eq_ediv_of_nonneg (by omega)]; omega
        have e2 : (n : Int).tmod 10 = ((n % 10 : Nat) : Int) := by
          rw [Int.tmod_eq_emod_of_nonneg (by omega)]; omega
        have hlt : n / 10 < 10 ^ (M + 1) := by rw [Nat.pow_succ] at hn; omega
        have hl := decDigits_len M (n / 10) hlt
        rw [e1, e2, wrap64 (by omega) (by omega), number N M (n / 10) (by omega) hlt (by omega)]
        have h3 : (IntKind.u8.wrap (IntKind.i64.wrap ((48 : Int) + ((n % 10 : Nat) : Int)))) = ((48 + n % 10 : Nat) : Int) := by
          rw [wrap64 (by omega) (by omega), wrap8 (by omega) (by omega)]; omega
        simp only [obind, h3]
        have h4 : ((⟨(Lib.decDigits (n / 10)).toArray⟩ : ByteArray).size + (strOf [((48 + n % 10 : Nat) : Int)]).size ≤ lim) := by
          have : (strOf [((48 + n % 10 : Nat) : Int)]).size = 1 := rfl
          rw [this, ba_size]
          simp only [lim]
          simp; omega
        simp only [h4, decide_true, cond_true]
        have hd : Lib.decDigits n = Lib.decDigits (n / 10) ++ [UInt8.ofNat (48 + n % 10)] := by rw [Lib.decDigits, dif_neg h]
        rw [hd]
        congr 2
theorem itoa_nat (n : Nat) : Lib.itoa (n : Int) = Lib.decDigits n := by
  unfold Lib.itoa
  rw [if_neg (by omega)]
  simp
def okP (n : Int) : Bool := decide (0 ≤ n) && decide (n ≤ 1000000000000000)
theorem within_eq (N : Nat) (n : Int) : F_impl_within N (n, 0, 1000000000000000, ()) = some (okP n, ()) := by
  unfold F_impl_within okP
  cases decide (0 ≤ n) <;> rfl
theorem in_eq (N : Nat) (n : Int) : F_spec_l01In N (n, 0, 1000000000000000, ()) = some (okP n, ()) := by
  unfold F_spec_l01In okP
  cases decide (0 ≤ n) <;> rfl
theorem areWithin_eq (N : Nat) (a b c : Int) : F_impl_areWithin (N + 5) ([a, b, c], 0, 1000000000000000, ()) = some (okP a && (okP b && okP c), ()) := by
  have w1 : IntKind.i64.wrap (0 + 1) = 1 := wrap64 (by omega) (by omega)
  have w2 : IntKind.i64.wrap (1 + 1) = 2 := wrap64 (by omega) (by omega)
  have w3 : IntKind.i64.wrap (2 + 1) = 3 := wrap64 (by omega) (by omega)
  have one : ∀ n, F_impl_areWithin_1 (N + 5) (n, (some 0, some 1000000000000000, ())) = some (!okP n, ()) := fun n => by
    unfold F_impl_areWithin_1
    have := within_eq (N + 5) n
    simp only [obind]
    rw [this]
  unfold F_impl_areWithin F_slices_ContainsFunc_int64_int64_c45 F_slices_IndexFunc_int64_int64_c45
  have g0 : atI [a, b, c] 0 = some a := rfl
  have g1 : atI [a, b, c] 1 = some b := rfl
  have g2 : atI [a, b, c] 2 = some c := rfl
  simp only [fixN, List.length_cons, List.length_nil, g0, g1, g2, obind, one, w1, w2, w3]
  cases okP a <;> cases okP b <;> cases okP c <;> rfl
theorem decimal_eq (N n : Nat) (h : n < 1000000000000000000) : F_impl_decimal N ((n : Int), ()) = some (⟨(Lib.decDigits n).toArray⟩, ()) := by
  have hl := decDigits_len 17 n (by omega)
  have : F_strconv_FormatInt N ((n : Int), 10, ()) = some (⟨(Lib.decDigits n).toArray⟩, ()) := by
    unfold F_strconv_FormatInt
    have : (Lib.itoa (n : Int)).length ≤ 30 := by rw [itoa_nat]; omega
    rw [decide_eq_true this, itoa_nat]
    rfl
  unfold F_impl_decimal
  rw [this]
  rfl
theorem join_eq (N : Nat) (a b c d : Nat) (ha : a < 1000000000000000000) (hb : b < 1000000000000000000) (hc : c < 1000000000000000000) (hd : d < 1000000000000000000) :
    F_impl_join (N + 6) ([(a : Int), b, c, d], ⟨#[32]⟩, ()) = some (⟨(Lib.decDigits a ++ [32] ++ Lib.decDigits b ++ [32] ++ Lib.decDigits c ++ [32] ++ Lib.decDigits d).toArray⟩, ()) := by
  have w1 : IntKind.i64.wrap (0 + 1) = 1 := wrap64 (by omega) (by omega)
  have w2 : IntKind.i64.wrap (1 + 1) = 2 := wrap64 (by omega) (by omega)
  have w3 : IntKind.i64.wrap (2 + 1) = 3 := wrap64 (by omega) (by omega)
  have w4 : IntKind.i64.wrap (3 + 1) = 4 := wrap64 (by omega) (by omega)
  have la := decDigits_len 17 a (by omega)
  have lb := decDigits_len 17 b (by omega)
  have lc := decDigits_len 17 c (by omega)
  have ld := decDigits_len 17 d (by omega)
  have hj : Lib.join [Lib.decDigits a, Lib.decDigits b, Lib.decDigits c, Lib.decDigits d] [32] = Lib.decDigits a ++ [32] ++ Lib.decDigits b ++ [32] ++ Lib.decDigits c ++ [32] ++ Lib.decDigits d := by
    simp [Lib.join, List.intercalate, List.intersperse]
  have hs : ∀ N, F_strings_Join N ([⟨(Lib.decDigits a).toArray⟩, ⟨(Lib.decDigits b).toArray⟩, ⟨(Lib.decDigits c).toArray⟩, ⟨(Lib.decDigits d).toArray⟩], ⟨#[32]⟩, ()) = some (⟨(Lib.decDigits a ++ [32] ++ Lib.decDigits b ++ [32] ++ Lib.decDigits c ++ [32] ++ Lib.decDigits d).toArray⟩, ()) := by
    intro N
    unfold F_strings_Join
    simp only [List.map_cons, List.map_nil, hj]
    have : (Lib.decDigits a ++ [32] ++ Lib.decDigits b ++ [32] ++ Lib.decDigits c ++ [32] ++ Lib.decDigits d).length ≤ 140737488355328 := by simp; omega
    rw [decide_eq_true this]
    rfl
  unfold F_impl_join
  have g0 : atI [(a : Int), b, c, d] 0 = some (a : Int) := rfl
  have g1 : atI [(a : Int), b, c, d] 1 = some (b : Int) := rfl
  have g2 : atI [(a : Int), b, c, d] 2 = some (c : Int) := rfl
  have g3 : atI [(a : Int), b, c, d] 3 = some (d : Int) := rfl
  have hL : (([(a : Int), b, c, d].length : Nat) : Int) = 4 := rfl
  have hT : (4 : Int).toNat = 4 := rfl
  have r4 : List.replicate 4 (⟨#[]⟩ : ByteArray) = [⟨#[]⟩, ⟨#[]⟩, ⟨#[]⟩, ⟨#[]⟩] := rfl
  have := hs (N + 6)
  simp only [hL, hT, r4]
  simp only [fixN, g0, g1, g2, g3, obind, decimal_eq _ _ ha, decimal_eq _ _ hb, decimal_eq _ _ hc, decimal_eq _ _ hd, w1, w2, w3, w4]
  simp [inI, lim, this]

theorem numberN (M n : Nat) (hM : M ≤ 60) (h : n < 1000000000000000000) : F_spec_l01Number (M + 36) (M + 36) ((n : Int), ()) = some (⟨(Lib.decDigits n).toArray⟩, ()) := by
  refine number (M + 36) (M + 35) n (by omega) ?_ h
  have h1 : n < 10 ^ 18 := by rw [show (10 : Nat) ^ 18 = 1000000000000000000 from by decide]; exact h
  exact Nat.lt_of_lt_of_le h1 (Nat.pow_le_pow_right (by omega) (by omega))
def ans (a b c : Int) : ByteArray := if okP a && (okP b && okP c) then ⟨(Lib.decDigits a.toNat ++ [32] ++ Lib.decDigits b.toNat ++ [32] ++ Lib.decDigits c.toNat ++ [32] ++ Lib.decDigits (a + b + c).toNat).toArray⟩ else ⟨#[]⟩
theorem okP_nat {a : Int} (h : okP a = true) : ∃ n : Nat, a = n ∧ n ≤ 1000000000000000 := by
  simp only [okP, Bool.and_eq_true, decide_eq_true_eq] at h
  exact ⟨a.toNat, by omega, by omega⟩
theorem impl_eq (M : Nat) (a b c : Int) : F_impl_PowerText (M + 36) ((a, b, c, ()), ()) = some (ans a b c, ()) := by
  unfold F_impl_PowerText ans
  refine (obind_eq (areWithin_eq (M + 31) a b c)).trans ?_
  cases hk : okP a && (okP b && okP c) with
  | false => rfl
  | true =>
    simp only [Bool.and_eq_true] at hk
    obtain ⟨a, rfl, ha⟩ := okP_nat hk.1
    obtain ⟨b, rfl, hb⟩ := okP_nat hk.2.1
    obtain ⟨c, rfl, hc⟩ := okP_nat hk.2.2
    have e1 : IntKind.i64.wrap ((a : Int) + b) = ((a + b : Nat) : Int) := by rw [wrap64 (by omega) (by omega)]; omega
    have e2 : IntKind.i64.wrap (((a + b : Nat) : Int) + c) = ((a + b + c : Nat) : Int) := by rw [wrap64 (by omega) (by omega)]; omega
    have hj := join_eq (M + 30) a b c (a + b + c) (by omega) (by omega) (by omega) (by omega)
    have e3 : ((a : Int) + b + c).toNat = a + b + c := by omega
    simp only [e1, e2, e3, Int.toNat_natCast, List.cons_append, List.nil_append, List.length_cons, List.length_nil, Bool.not_true, cond_false]
    have bi : ∀ (n : Nat) (z : Option (ByteArray × Unit)), n ≤ 1000 → (bif decide (n ≤ lim) then z else none) = z := fun n z h => by
      rw [decide_eq_true (by unfold lim; omega)]; rfl
    refine (bi 4 _ (by omega)).trans ?_
    refine (obind_eq hj).trans ?_
    rfl
theorem spec_eq (M : Nat) (hM : M ≤ 60) (a b c : Int) : F_spec_PowerText (M + 36) ((a, b, c, ()), ()) = some (ans a b c, ()) := by
  unfold F_spec_PowerText ans
  refine (obind_eq (in_eq _ a)).trans ?_
  cases ha : okP a with
  | false => rfl
  | true =>
    refine (obind_eq (in_eq _ b)).trans ?_
    cases hb : okP b with
    | false => rfl
    | true =>
      refine (obind_eq (in_eq _ c)).trans ?_
      cases hc : okP c with
      | false => rfl
      | true =>
        obtain ⟨a, rfl, ha⟩ := okP_nat ha
        obtain ⟨b, rfl, hb⟩ := okP_nat hb
        obtain ⟨c, rfl, hc⟩ := okP_nat hc
        have e1 : IntKind.i64.wrap ((a : Int) + b) = ((a + b : Nat) : Int) := by rw [wrap64 (by omega) (by omega)]; omega
        have e2 : IntKind.i64.wrap (((a + b : Nat) : Int) + c) = ((a + b + c : Nat) : Int) := by rw [wrap64 (by omega) (by omega)]; omega
        have e3 : ((a : Int) + b + c).toNat = a + b + c := by omega
        have la := decDigits_len 17 a (by omega)
        have lb := decDigits_len 17 b (by omega)
        have lc := decDigits_len 17 c (by omega)
        have ls := decDigits_len 17 (a + b + c) (by omega)
        have ba : ∀ x y : List UInt8, (⟨x.toArray⟩ : ByteArray) ++ ⟨y.toArray⟩ = ⟨(x ++ y).toArray⟩ := fun x y => ba_data (by rw [ba_append])
        have b32 : (⟨#[32]⟩ : ByteArray) = ⟨([32] : List UInt8).toArray⟩ := rfl
        have bs : ∀ x : List UInt8, (⟨x.toArray⟩ : ByteArray).size = x.length := fun x => by rw [ba_size]
        have bi : ∀ (x y : ByteArray) (z : Option (ByteArray × Unit)), x.size + y.size ≤ 1000 → (bif decide (x.size + y.size ≤ lim) then z else none) = z := fun x y z h => by
          rw [decide_eq_true (by unfold lim; omega)]; rfl
        simp only [e1, e2, e3, Int.toNat_natCast]
        refine (obind_eq (numberN M a hM (by omega))).trans ?_
        refine (bi _ _ _ (by rw [b32, bs, bs]; simp; omega)).trans ?_
        refine (obind_eq (numberN M b hM (by omega))).trans ?_
        refine (bi _ _ _ (by rw [b32, ba, bs, bs]; simp; omega)).trans ?_
        refine (bi _ _ _ (by rw [b32, ba, ba, bs, bs]; simp; omega)).trans ?_
        refine (obind_eq (numberN M c hM (by omega))).trans ?_
        refine (bi _ _ _ (by rw [b32, ba, ba, ba, bs, bs]; simp; omega)).trans ?_
        refine (bi _ _ _ (by rw [b32, ba, ba, ba, ba, bs, bs]; simp; omega)).trans ?_
        refine (obind_eq (numberN M (a + b + c) hM (by omega))).trans ?_
        refine (bi _ _ _ (by rw [b32, ba, ba, ba, ba, ba, bs, bs]; simp; omega)).trans ?_
        rw [b32, ba, ba, ba, ba, ba, ba]
        rfl
theorem law (x : (Ty.pair TPower .nil).den) : ∃ N, F_laws_FnExactPowerText N x = some (true, ()) := by
  obtain ⟨⟨a, b, c, u⟩, v⟩ := x
  refine ⟨4 + 36, ?_⟩
  unfold F_laws_FnExactPowerText
  refine (obind_eq (show F_laws_toPower (4 + 36) ((a, b, c, u), v) = some ((a, b, c, ()), ()) from rfl)).trans ?_
  refine (obind_eq (spec_eq 4 (by omega) a b c)).trans ?_
  refine (obind_eq (show F_laws_toPower (4 + 36) ((a, b, c, u), v) = some ((a, b, c, ()), ()) from rfl)).trans ?_
  refine (obind_eq (impl_eq 4 a b c)).trans ?_
  rw [decide_eq_true rfl]
  rfl
end Go.Proofs.YtfbbbgonapgfiaaDoor
