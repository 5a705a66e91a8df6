/- Texts: numbers, names of places, waivers and their files. No program in sight. -/
import Derived.Test.YtkkbkhlpbmhchabGreatDoorPwViol
import Derived.Test.YtkkbkhlpbmhchabGreatDoorPvPure
namespace Go.Proofs.YtkkbkhlpbmhchabGreatDoor
set_option linter.unusedSimpArgs false
set_option linter.unusedVariables false
set_option linter.unusedSectionVars false
set_option linter.unusedVariables false
set_option linter.unusedSimpArgs false
set_option maxHeartbeats 1000000

theorem number (N : Nat) : ∀ (M n : Nat), n < 10 ^ (M + 1) → n < 1000000000000000000 → F_spec_l01Number N (M + 1) ((n : Int), ()) = some (⟨(Lib.decDigits n).toArray⟩, ())
  | M, n, hn, hb => by
    rw [F_spec_l01Number]
    have h0 : ¬ ((n : Int) < 0) := by omega
    simp only [h0, decide_false, cond_false]
    by_cases h : n < 10
    · have h1 : (n : Int) < 10 := by omega
      simp only [h1, decide_true, cond_true]
      rw [Lib.decDigits, dif_pos h, wrap64 (by omega) (by omega), wrap8 (by omega) (by omega)]
      have : ((48 : Int) + n).toNat = 48 + n := by omega
      simp [strOf, this]
      rfl
    · have h1 : ¬ ((n : Int) < 10) := by omega
      simp only [h1, decide_false, cond_false]
      cases M with
      | zero => omega
      | succ M =>
        have e1 : (n : Int).tdiv 10 = ((n / 10 : Nat) : Int) := by
          rw [Int.tdiv_eq_ediv_of_nonneg (by omega)]; omega
        have e2 : (n : Int).tmod 10 = ((n % 10 : Nat) : Int) := by
          rw [Int.tmod_eq_emod_of_nonneg (by omega)]; omega
        have hlt : n / 10 < 10 ^ (M + 1) := by rw [Nat.pow_succ] at hn; omega
        have hl := decDigits_len 17 (n / 10) (by omega)
        rw [e1, e2, wrap64 (by omega) (by omega), number N M (n / 10) hlt (by omega)]
        have h3 : (IntKind.u8.wrap (IntKind.i64.wrap ((48 : Int) + ((n % 10 : Nat) : Int)))) = ((48 + n % 10 : Nat) : Int) := by
          rw [wrap64 (by omega) (by omega), wrap8 (by omega) (by omega)]; omega
        simp only [obind, h3]
        have h4 : ((⟨(Lib.decDigits (n / 10)).toArray⟩ : ByteArray).size + (strOf [((48 + n % 10 : Nat) : Int)]).size ≤ limS) := by
          have : (strOf [((48 + n % 10 : Nat) : Int)]).size = 1 := rfl
          rw [this, ba_size]
          simp only [limS]
          simp; omega
        simp only [h4, decide_true, cond_true]
        have hd : Lib.decDigits n = Lib.decDigits (n / 10) ++ [UInt8.ofNat (48 + n % 10)] := by rw [Lib.decDigits, dif_neg h]
        rw [hd]
        congr 2
/-- Bytes in a row. -/
abbrev B (l : List UInt8) : ByteArray := ⟨l.toArray⟩
theorem B_data (l : List UInt8) : (B l).data.toList = l := rfl
theorem B_size (l : List UInt8) : (B l).size = l.length := by rw [ba_size]
theorem B_of (a : ByteArray) : B a.data.toList = a := by cases a; simp [B]
theorem B_app (x y : List UInt8) : B x ++ B y = B (x ++ y) := ba_data (by rw [ba_append])

section
variable {N : Nat} (hN : 4000000 ≤ N) {u : Unit}
include hN
theorem itoa_len {n : Int} (h : BtwP (-100000000000000000) 100000000000000000 n) : (Lib.itoa n).length ≤ 19 := by
  unfold Lib.itoa
  split
  · have := decDigits_len 17 n.natAbs (by have := h.1; omega)
    simp only [List.length_cons]; omega
  · have := decDigits_len 17 n.toNat (by have := h.2; omega)
    omega
theorem spec_l01Number {n : Int} (h : BtwP (-100000000000000000) 100000000000000000 n) : F_spec_l01Number N N (n, u) = some (B (Lib.itoa n), ()) := by
  obtain ⟨M, rfl⟩ : ∃ M, N = M + 2 := ⟨N - 2, by omega⟩
  obtain ⟨h1, h2⟩ := h
  have big : ∀ k : Nat, 17 ≤ k → (1000000000000000000 : Nat) ≤ 10 ^ (k + 1) := fun k hk => by
    have : (10 : Nat) ^ 18 ≤ 10 ^ (k + 1) := Nat.pow_le_pow_right (by omega) (by omega)
    exact this
  by_cases hn : n < 0
  · have hl := decDigits_len 17 n.natAbs (by omega)
    have e : (0 : Int) - n = ((n.natAbs : Nat) : Int) := by omega
    rw [F_spec_l01Number]
    dsimp only
    rw [decide_eq_true hn, cond_true, wrap64 (by omega) (by omega), e, number _ M n.natAbs (Nat.lt_of_lt_of_le (by omega) (big M (by omega))) (by omega)]
    simp only [obind]
    rw [decide_eq_true (by rw [ba_size, ba_size]; simp only [limS]; simp; omega), cond_true]
    unfold Lib.itoa
    rw [if_pos hn]
    congr 2
  · obtain ⟨m, rfl⟩ : ∃ m : Nat, n = (m : Int) := ⟨n.toNat, by omega⟩
    rw [number _ (M + 1) m (Nat.lt_of_lt_of_le (by omega) (big (M + 1) (by omega))) (by omega)]
    unfold Lib.itoa
    rw [if_neg hn]
    rfl
theorem impl_decimal {n : Int} (h : BtwP (-100000000000000000) 100000000000000000 n) : F_impl_decimal N (n, u) = some (B (Lib.itoa n), ()) := by
  have hl := itoa_len hN h
  unfold F_impl_decimal F_strconv_FormatInt
  dsimp only
  rw [decide_eq_true (by omega : (Lib.itoa n).length ≤ 30)]
  rfl
theorem impl_nameOf {b : DBlock} (hs : SmallB b) {p : Plc} (hp : PlcP b p) : Ret (F_impl_Design_nameOf N (b.2.1, b.1, p, u)) (fun r => r.1.size < 9000000) := by
  unfold F_impl_Design_nameOf
  dsimp only
  rcases hp with ⟨h1, h2, q, hq, _⟩ | ⟨h1, c, ⟨_, x, hx, hx0, hc⟩, h2, h3⟩
  · refine Ret.must (by omega) (at_some h2 hq (Ret.ret ?_))
    have := hs.2.1.2.2.2 q (List.mem_of_getElem? hq)
    dsimp only; omega
  · have hxs := (hs.2.1.1.2 x (List.mem_of_getElem? hx)).1
    have hcs := (hs.1.2 c (List.mem_of_getElem? hc)).2.1.2 _ (List.getElem_mem h3)
    refine Ret.mustN (by omega) (at_some h1 hx (Ret.guard ?_ (at_some hx0 hc (Ret.atZ h2 h3 (Ret.guard ?_ (Ret.ret ?_))))))
    · simp only [B_size, limS, List.length_cons, List.length_nil]; omega
    · rw [ByteArray.size_append]; simp only [B_size, limS, List.length_cons, List.length_nil]; omega
    · dsimp only; rw [ByteArray.size_append, ByteArray.size_append]; simp only [B_size, List.length_cons, List.length_nil]; omega

/-- A place's name. -/
noncomputable def nameB (N : Nat) (b : DBlock) (n : Int) : ByteArray := match (placesL b.2.1)[n.toNat]? with
  | some p => ((F_impl_Design_nameOf N (b.2.1, b.1, p, ())).getD (B [], ())).1
  | none => B []
theorem nameB_size {b : DBlock} (hs : SmallB b) (hb : BlockP b) (n : Int) : (nameB N b n).size < 9000000 := by
  unfold nameB
  split
  · rename_i p hp
    obtain ⟨r, hr, h⟩ := impl_nameOf (u := ()) hN hs ((places_ok hb.1 p (List.mem_of_getElem? hp)).2)
    rw [hr]; exact h
  · rw [B_size]; simp
theorem impl_placeText {b : DBlock} (hs : SmallB b) (hb : BlockP b) (L) {n : Int} (hn : EndP b n) : F_impl_view_placeText N (some (b, placesL b.2.1, L), n, u) = some (nameB N b n, ()) := by
  obtain ⟨h0, p, hp, _⟩ := hn
  obtain ⟨⟨r, v⟩, hr, h⟩ := impl_nameOf (u := ()) hN hs ((places_ok hb.1 p (List.mem_of_getElem? hp)).2)
  refine Ret.eq ?_
  unfold F_impl_view_placeText
  simp only [obind]
  refine at_some h0 hp (Ret.call hr (Ret.ret ?_))
  unfold nameB
  rw [hp]
  dsimp only
  rw [hr]; rfl
theorem spec_PlaceName {b : DBlock} (hs : SmallB b) (hb : BlockP b) {n : Int} (hn : EndP b n) : F_spec_PlaceName N (b.1, b.2.1, n, u) = some (nameB N b n, ()) := by
  obtain ⟨h0, p, hp, _⟩ := hn
  obtain ⟨⟨r, v⟩, hr, h⟩ := impl_nameOf (u := ()) hN hs ((places_ok hb.1 p (List.mem_of_getElem? hp)).2)
  have hlt : n.toNat < (placesL b.2.1).length := (List.getElem?_eq_some_iff.1 hp).1
  have hat : F_spec_l05At N (b.1, b.2.1, n, u) = some (p, true, ()) := by
    refine Ret.eq ?_
    unfold F_spec_l05At
    dsimp only
    refine Ret.call (spec_IsDesign hN hs.1 hs.2.1) ?_
    rw [dec_of hb.1]
    refine Ret.call (spec_l05Places hN (few_of hb.1)) (Ret.call (spec_l01In _ _ _ _ _) ?_)
    have hpl := placesL_len (few_of hb.1)
    dsimp only
    rw [len_wrap1 hN (by omega), dec_of (P := BtwP _ _ _) ⟨h0, by omega⟩]
    refine Ret.guardZ h0 (by omega) ?_
    rw [hp]
    exact Ret.ret rfl
  refine Ret.eq ?_
  unfold F_spec_PlaceName
  dsimp only
  refine Ret.call hat (Ret.call (show F_spec_l05Name N (b.1, b.2.1, p, ()) = some (r, v) from hr) (Ret.ret ?_))
  unfold nameB
  rw [hp]
  dsimp only
  rw [hr]; rfl
/-- The word of a kind. -/
def kindL (k : Int) : List UInt8 := if k = 2 then [104, 111, 108, 100] else [115, 101, 116, 117, 112]
/-- A waiver's line, without its end. -/
noncomputable def wtext (N : Nat) (b : DBlock) (w : DWaiver) : List UInt8 :=
  [119, 97, 105, 118, 101] ++ [32] ++ (nameB N b w.1).data.toList ++ [32] ++ kindL w.2.1 ++ [32] ++ Lib.itoa w.2.2.1 ++ [32] ++ Lib.itoa w.2.2.2.1 ++ [32] ++ w.2.2.2.2.1.data.toList
theorem wtext_len {b : DBlock} (hs : SmallB b) (hb : BlockP b) {w : DWaiver} (hw : WaivP b w) : (wtext N b w).length < 10000000 := by
  have h1 := nameB_size hN hs hb w.1
  have h2 := itoa_len hN (n := w.2.2.1) ⟨by have := hw.1.2.2.1; omega, by have := hw.1.2.2.2; omega⟩
  have h3 := itoa_len hN (n := w.2.2.2.1) ⟨by have := hw.2.1.1; omega, by have := hw.2.1.2; omega⟩
  have h4 := hw.2.2.2.1
  rw [ba_size] at h1 h4
  have h5 : (kindL w.2.1).length ≤ 5 := by unfold kindL; split <;> simp
  unfold wtext
  simp only [List.length_append, List.length_cons, List.length_nil]
  omega
theorem impl_waiverText {b : DBlock} (hs : SmallB b) (hb : BlockP b) (L) {w : DWaiver} (hw : WaivP b w) : F_impl_view_waiverText N (some (b, placesL b.2.1, L), w, u) = some (B (wtext N b w), ()) := by
  have hlen := wtext_len hN hs hb hw
  refine Ret.eq ?_
  unfold F_impl_view_waiverText
  dsimp only
  refine Ret.call (impl_placeText hN hs hb L hw.1.1) ?_
  have hk : (0 : Int) ≤ w.2.1 ∧ w.2.1 < ((3 : Nat) : Int) := by rcases hw.1.2.1 with h | h <;> omega
  refine Ret.guard2 hk ?_
  have hkw : Tab_kindWords[w.2.1.toNat]? = some (B (kindL w.2.1)) := by
    rcases hw.1.2.1 with h | h <;> rw [h] <;> rfl
  rw [hkw]
  refine Ret.call rfl (Ret.call (impl_decimal hN ⟨by have := hw.1.2.2.1; omega, by have := hw.1.2.2.2; omega⟩) (Ret.call (impl_decimal hN ⟨by have := hw.2.1.1; omega, by have := hw.2.1.2; omega⟩) ?_))
  have hj : Lib.join (([(⟨#[119, 97, 105, 118, 101]⟩ : ByteArray), nameB N b w.1, B (kindL w.2.1), B (Lib.itoa w.2.2.1), B (Lib.itoa w.2.2.2.1), w.2.2.2.2.1]).map (·.data.toList)) (⟨#[32]⟩ : ByteArray).data.toList = wtext N b w := by
    simp [Lib.join, List.intercalate, wtext]
  refine Ret.call (a := (B (wtext N b w), ())) ?_ (Ret.ret rfl)
  unfold F_strings_Join
  dsimp only
  rw [hj, decide_eq_true (by simp), decide_eq_true (by omega)]
  rfl
theorem spec_l26Text {b : DBlock} (hs : SmallB b) (hb : BlockP b) {w : DWaiver} (hw : WaivP b w) : F_spec_l26Text N (b, w, u) = some (B (wtext N b w), ()) := by
  have hlen := wtext_len hN hs hb hw
  have h1 := nameB_size hN hs hb w.1
  have h2 := itoa_len hN (n := w.2.2.1) ⟨by have := hw.1.2.2.1; omega, by have := hw.1.2.2.2; omega⟩
  have h3 := itoa_len hN (n := w.2.2.2.1) ⟨by have := hw.2.1.1; omega, by have := hw.2.1.2; omega⟩
  have h4 := hw.2.2.2.1
  have n1 := spec_l01Number (u := ()) hN (n := w.2.2.1) ⟨by have := hw.1.2.2.1; omega, by have := hw.1.2.2.2; omega⟩
  have n2 := spec_l01Number (u := ()) hN (n := w.2.2.2.1) ⟨by have := hw.2.1.1; omega, by have := hw.2.1.2; omega⟩
  have hn : nameB N b w.1 = B (nameB N b w.1).data.toList := (B_of _).symm
  have hr : w.2.2.2.2.1 = B w.2.2.2.2.1.data.toList := (B_of _).symm
  have c0 : (⟨#[119, 97, 105, 118, 101, 32]⟩ : ByteArray) = B [119, 97, 105, 118, 101, 32] := rfl
  have c1 : (⟨#[32]⟩ : ByteArray) = B [32] := rfl
  have c2 : (⟨#[104, 111, 108, 100]⟩ : ByteArray) = B [104, 111, 108, 100] := rfl
  have c3 : (⟨#[115, 101, 116, 117, 112]⟩ : ByteArray) = B [115, 101, 116, 117, 112] := rfl
  rw [ba_size] at h1 h4
  refine Ret.eq ?_
  unfold F_spec_l26Text
  dsimp only
  refine Ret.ifd ?_ ?_ <;> intro hk
  · refine Ret.call (spec_PlaceName hN hs hb hw.1.1) ?_
    dsimp only
    rw [hn, hr, c0, c1, c2]
    simp only [B_app]
    iterate 4 refine Ret.guard (by simp only [B_size, limS, List.length_append, List.length_cons, List.length_nil]; omega) ?_
    refine Ret.call n1 ?_
    dsimp only
    simp only [B_app]
    iterate 2 refine Ret.guard (by simp only [B_size, limS, List.length_append, List.length_cons, List.length_nil]; omega) ?_
    refine Ret.call n2 ?_
    dsimp only
    simp only [B_app]
    iterate 3 refine Ret.guard (by simp only [B_size, limS, List.length_append, List.length_cons, List.length_nil]; omega) ?_
    refine Ret.ret ?_
    simp [wtext, kindL, hk, B]
  · refine Ret.call (spec_PlaceName hN hs hb hw.1.1) ?_
    dsimp only
    rw [hn, hr, c0, c1, c3]
    simp only [B_app]
    iterate 4 refine Ret.guard (by simp only [B_size, limS, List.length_append, List.length_cons, List.length_nil]; omega) ?_
    refine Ret.call n1 ?_
    dsimp only
    simp only [B_app]
    iterate 2 refine Ret.guard (by simp only [B_size, limS, List.length_append, List.length_cons, List.length_nil]; omega) ?_
    refine Ret.call n2 ?_
    dsimp only
    simp only [B_app]
    iterate 3 refine Ret.guard (by simp only [B_size, limS, List.length_append, List.length_cons, List.length_nil]; omega) ?_
    refine Ret.ret ?_
    simp [wtext, kindL, hk, B]
end
end Go.Proofs.YtkkbkhlpbmhchabGreatDoor
