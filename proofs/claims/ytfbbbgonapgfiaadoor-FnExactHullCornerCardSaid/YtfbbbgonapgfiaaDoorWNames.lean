/- The walks of the functions on names, on both sides. Conditions: lengths that a Go string can have. -/
import Derived.Test.YtfbbbgonapgfiaaDoorPCorner
import Derived.Test.YtfbbbgonapgfiaaDoorWBasic
import Derived.Test.YtfbbbgonapgfiaaDoorShelf
import Derived.Shelf.Strings.SlTrimAscii
namespace Go.Proofs.YtfbbbgonapgfiaaDoor
set_option linter.unusedSimpArgs false
set_option linter.unusedVariables false
open Go.RowKit

set_option maxRecDepth 100000 in
set_option maxHeartbeats 1000000 in
theorem w_l03Name (s : ByteArray) (w : World) (hs : s.size ≤ 9223372036854775807) :
    Calls Tryd.prog 40 #[.string s] w fun e w' => e = .returned (.bool (tf (NameP s))) ∧ w' = w := by
  go_enter Tryd.func40, Tryd.ntmps40
  go_wp2
  go_loop [3] (fun i => ∃ k : Nat, k ≤ s.size ∧ i = .int .i64 k ∧ Hid (∀ j (h : j < s.size), j < k → goodAt s[j] j)) (fun i => s.size - (intOf i).toNat)
  case atStart => exact ⟨0, by omega, rfl, fun _ _ h => by omega⟩
  case round =>
    obtain ⟨k, hk, rfl, H⟩ := hrel
    by_cases hlt : k < s.size
    · go_wp2
      all_goals first
        | (go_ret; refine ⟨ret_bool (tf_mk_not fun h => ?_).symm, rfl⟩; have := h.2.2 k hlt; unfold goodAt at this; (try simp only [Bool.not_eq_true', Bool.not_eq_false', decide_eq_true_eq, decide_eq_false_iff_not, bne_iff_ne, beq_iff_eq, Bool.not_eq_true, Bool.not_eq_false, Bool.and_eq_true, Bool.or_eq_true, Bool.and_eq_false_iff, Bool.or_eq_false_iff, tf_iff, tf_not, withinB_iff, withinB_not] at *); omega)
        | skip
      all_goals
        have hg : goodAt s[k] k := by unfold goodAt; (try simp only [Bool.not_eq_true', Bool.not_eq_false', decide_eq_true_eq, decide_eq_false_iff_not, bne_iff_ne, beq_iff_eq, Bool.not_eq_true, Bool.not_eq_false, Bool.and_eq_true, Bool.or_eq_true, Bool.and_eq_false_iff, Bool.or_eq_false_iff, tf_iff, tf_not, withinB_iff, withinB_not] at *); omega
        have hg := Lib.hid hg
        go_round
        case rel => exact ⟨k + 1, by omega, by go_num, fun j h hj => by
          rcases Nat.lt_or_ge j k with hjk | hjk
          · exact H.out j h hjk
          · obtain rfl : j = k := by omega
            exact hg.out⟩
        case measure => simp [intOf]; omega
    · obtain rfl : k = s.size := by omega
      go_wp2
      all_goals go_ret
      all_goals refine ⟨ret_bool (tf_eq ?_), rfl⟩
      all_goals have Hall : ∀ j (h : j < s.size), goodAt s[j] j := fun j h => H.out j h h
      all_goals unfold NameP
      all_goals simp [Hall]
      all_goals omega

/-- The first place at which a test says yes, or -1. -/
def fidx {α : Type} (p : α → Bool) (xs : List α) : Int := match xs.findIdx? p with | some i => i | none => -1
theorem fidx_at {α : Type} {p : α → Bool} {xs : List α} {k : Nat} (hk : k < xs.length) (hy : p xs[k] = true) (hn : ∀ j (h : j < xs.length), j < k → p xs[j] = false) : fidx p xs = k := by
  have : xs.findIdx? p = some k := by
    rw [List.findIdx?_eq_some_iff_getElem]
    exact ⟨hk, hy, fun j hj => by simpa using hn j (by omega) hj⟩
  simp [fidx, this]
theorem fidx_none {α : Type} {p : α → Bool} {xs : List α} (hn : ∀ j (h : j < xs.length), p xs[j] = false) : fidx p xs = -1 := by
  have : xs.findIdx? p = none := by
    rw [List.findIdx?_eq_none_iff]
    intro x hx
    obtain ⟨j, hj, rfl⟩ := List.getElem_of_mem hx
    exact hn j hj
  simp [fidx, this]
theorem fidx_lo {α : Type} (p : α → Bool) (xs : List α) : -1 ≤ fidx p xs := by
  unfold fidx; split <;> omega
theorem fidx_hi {α : Type} (p : α → Bool) (xs : List α) : fidx p xs < xs.length := by
  unfold fidx
  split
  · rename_i i hi
    rw [List.findIdx?_eq_some_iff_getElem] at hi
    obtain ⟨h, _⟩ := hi
    omega
  · omega
theorem fidx_ge {α : Type} (p : α → Bool) (xs : List α) : 0 ≤ fidx p xs ↔ ∃ x ∈ xs, p x = true := by
  unfold fidx
  split
  · rename_i i hi
    rw [List.findIdx?_eq_some_iff_getElem] at hi
    obtain ⟨h, hp, _⟩ := hi
    exact ⟨fun _ => ⟨_, List.getElem_mem h, hp⟩, fun _ => by omega⟩
  · rename_i hi
    rw [List.findIdx?_eq_none_iff] at hi
    exact ⟨fun h => by omega, fun ⟨x, hx, hp⟩ => by rw [hi x hx] at hp; cases hp⟩

set_option maxRecDepth 100000 in
set_option maxHeartbeats 1000000 in
theorem w_IndexStr (v : Value) (xs : List ByteArray) (s : ByteArray) (w : World) (hv : Rd w v xs) :
    Calls Tryd.prog 56 #[v, .string s] w fun e w' => e = .returned (.int .i64 (fidx (fun x => tf (x = s)) xs)) ∧ Ext w w' := by
  obtain ⟨A, cap, rfl, hcap, hmax⟩ := hv.form
  have Hv := Lib.hid hv; clear hv
  go_enter Tryd.func56, Tryd.ntmps56
  go_wp2
  go_loopw [8] (fun i wr => ∃ k : Nat, k ≤ xs.length ∧ i = .int .i64 k ∧ Ext w wr ∧ Hid (∀ j (h : j < xs.length), j < k → tf (xs[j] = s) = false)) (fun i _ => xs.length - (intOf i).toNat)
  case atStart => exact ⟨0, by omega, rfl, Ext.refl _, fun _ _ h => by omega⟩
  case round =>
    obtain ⟨k, hk, rfl, hb, H⟩ := hrel
    by_cases hlt : k < xs.length
    · obtain ⟨b, o, rfl, hbl, g0, gs⟩ := Rd.atStr (Hv.out.up hb) k hlt
      go_wp2
      · go_ret
        have hh : (s.toList == xs[k].toList) = true := by assumption
        have hh : xs[k] = s := (ba_ext (by simpa using hh)).symm
        exact ⟨ret_int (fidx_at hlt (tf_mk hh) H.out).symm, (by (repeat (first | with_reducible exact Ext.refl _ | with_reducible assumption | with_reducible refine Ext.drew ?_ | with_reducible refine Ext.drewN ?_ _ | with_reducible refine Ext.alloc ?_ _ | ((with_reducible refine Ext.setCell ?_ ?_ _); rotate_left; focus (first | omega | (simp; done) | (simp; omega))) | with_reducible refine Ext.trans ?_ (by with_reducible assumption))))⟩
      · have hh : (s.toList == xs[k].toList) = false := by assumption
        have hh : tf (xs[k] = s) = false := tf_mk_not (by rintro h; rw [h] at hh; simp at hh)
        have hh := Lib.hid hh
        go_roundw
        case rel => exact ⟨k + 1, by omega, by go_num, (by (repeat (first | with_reducible exact Ext.refl _ | with_reducible assumption | with_reducible refine Ext.drew ?_ | with_reducible refine Ext.drewN ?_ _ | with_reducible refine Ext.alloc ?_ _ | ((with_reducible refine Ext.setCell ?_ ?_ _); rotate_left; focus (first | omega | (simp; done) | (simp; omega))) | with_reducible refine Ext.trans ?_ (by with_reducible assumption)))), fun j h hj => by
          rcases Nat.lt_or_ge j k with hjk | hjk
          · exact H.out j h hjk
          · obtain rfl : j = k := by omega
            exact hh.out⟩
        case measure => simp [intOf]; omega
    · go_wp2
      go_ret
      exact ⟨ret_int (fidx_none fun j h => H.out j h (by omega)).symm, (by (repeat (first | with_reducible exact Ext.refl _ | with_reducible assumption | with_reducible refine Ext.drew ?_ | with_reducible refine Ext.drewN ?_ _ | with_reducible refine Ext.alloc ?_ _ | ((with_reducible refine Ext.setCell ?_ ?_ _); rotate_left; focus (first | omega | (simp; done) | (simp; omega))) | with_reducible refine Ext.trans ?_ (by with_reducible assumption))))⟩

set_option maxRecDepth 100000 in
set_option maxHeartbeats 1000000 in
theorem w_ContainsStr (v : Value) (xs : List ByteArray) (s : ByteArray) (w : World) (hv : Rd w v xs) :
    Calls Tryd.prog 48 #[v, .string s] w fun e w' => e = .returned (.bool (tf (s ∈ xs))) ∧ Ext w w' := by
  have Hv := Lib.hid hv; clear hv
  go_enter Tryd.func48, Tryd.ntmps48
  go_wp2_with (go_at_call 56; refine (w_IndexStr _ _ _ _ (Hv.out.up (by (repeat (first | with_reducible exact Ext.refl _ | with_reducible assumption | with_reducible refine Ext.drew ?_ | with_reducible refine Ext.drewN ?_ _ | with_reducible refine Ext.alloc ?_ _ | ((with_reducible refine Ext.setCell ?_ ?_ _); rotate_left; focus (first | omega | (simp; done) | (simp; omega))) | with_reducible refine Ext.trans ?_ (by with_reducible assumption)))))).mono ?_; rintro e w_he ⟨rfl, he⟩; have hz_he := he.size; (try simp at hz_he))
  go_ret
  refine ⟨ret_bool ?_, (by (repeat (first | with_reducible exact Ext.refl _ | with_reducible assumption | with_reducible refine Ext.drew ?_ | with_reducible refine Ext.drewN ?_ _ | with_reducible refine Ext.alloc ?_ _ | ((with_reducible refine Ext.setCell ?_ ?_ _); rotate_left; focus (first | omega | (simp; done) | (simp; omega))) | with_reducible refine Ext.trans ?_ (by with_reducible assumption))))⟩
  refine tf_eq ?_
  simp only [decide_eq_true_eq, ge_iff_le, fidx_ge, tf_iff]
  simp

set_option maxRecDepth 100000 in
set_option maxHeartbeats 1000000 in
theorem w_isName (s : ByteArray) (w : World) (hs : s.size ≤ 9223372036854775807) :
    Calls Tryd.prog 41 #[.string s] w fun e w' => e = .returned (.bool (tf (NameP s))) ∧ Ext w w' := by
  have ht := fun w hs => Any.strings_Trim_laid Tryd.lays160 (by kernel_rfl) s ⟨#[97, 98, 99, 100, 101, 102, 103, 104, 105, 106, 107, 108, 109, 110, 111, 112, 113, 114, 115, 116, 117, 118, 119, 120, 121, 122, 48, 49, 50, 51, 52, 53, 54, 55, 56, 57]⟩ w hs (by decide) (ascii_of_all (by decide))
  have hI := Tryd.strings_IndexByte ⟨#[97, 98, 99, 100, 101, 102, 103, 104, 105, 106, 107, 108, 109, 110, 111, 112, 113, 114, 115, 116, 117, 118, 119, 120, 121, 122]⟩
  by_cases h : 1 ≤ s.size ∧ s.size ≤ 8
  · have hw : withinB s.size 1 8 = true := withinB_iff.2 (by omega)
    obtain ⟨h1, h8⟩ := h
    have hP := Lib.hid (nameP_iff s h1)
    have hN : (⟨(Lib.trimS s.data.toList nameSet).toArray⟩ : ByteArray).toList = Lib.trimS s.data.toList nameSet := by rw [ByteArray.toList_eq]
    have HN := Lib.hid hN; clear hN
    have ht' : ∀ w : World, Calls Tryd.prog 49 #[.string s, .string ⟨#[97, 98, 99, 100, 101, 102, 103, 104, 105, 106, 107, 108, 109, 110, 111, 112, 113, 114, 115, 116, 117, 118, 119, 120, 121, 122, 48, 49, 50, 51, 52, 53, 54, 55, 56, 57]⟩] w fun e w' => e = .returned (.string ⟨(Lib.trimS s.data.toList nameSet).toArray⟩) ∧ Below w.heap.size w w' := fun w => ht w hs
    have HT := Lib.hid ht'; clear ht ht'
    have HI := Lib.hid hI; clear hI
    have hgs : ∀ x : ByteArray, x = ⟨(Lib.trimS s.data.toList nameSet).toArray⟩ → True := fun _ _ => trivial
    generalize hx : (⟨(Lib.trimS s.data.toList nameSet).toArray⟩ : ByteArray) = x at HT HN
    have Hx := Lib.hid hx; clear hx hgs
    have hlt : (0 : Int) < (s.size : Int) := by omega
    go_enter Tryd.func41, Tryd.ntmps41
    go_wp2_with (first
      | (go_at_call 37; refine (w_within _ _ _ _).mono ?_; rintro e w' ⟨rfl, rfl⟩)
      | (go_at_call 49; refine (HT.out _).mono ?_; rintro e w1 ⟨rfl, hb⟩; have he : Ext _ _ := ⟨hb⟩; clear hb)
      | (go_at_call 50; refine (HI.out _ _).mono ?_; rintro e w2 ⟨rfl, rfl⟩))
    · have h0 : x.toList = [] := by assumption
      go_ret
      refine ⟨ret_bool (tf_eq ?_), (by (repeat (first | with_reducible exact Ext.refl _ | with_reducible assumption | with_reducible refine Ext.drew ?_ | with_reducible refine Ext.drewN ?_ _ | with_reducible refine Ext.alloc ?_ _ | ((with_reducible refine Ext.setCell ?_ ?_ _); rotate_left; focus (first | omega | (simp; done) | (simp; omega))) | with_reducible refine Ext.trans ?_ (by with_reducible assumption))))⟩
      rw [hP.out, ← HN.out, decide_eq_true_eq, h0]
      simp [h8, letterSet]
    · have h0 : ¬ x.toList = [] := by assumption
      go_ret
      refine ⟨ret_bool (tf_mk_not fun hn => ?_).symm, (by (repeat (first | with_reducible exact Ext.refl _ | with_reducible assumption | with_reducible refine Ext.drew ?_ | with_reducible refine Ext.drewN ?_ _ | with_reducible refine Ext.alloc ?_ _ | ((with_reducible refine Ext.setCell ?_ ?_ _); rotate_left; focus (first | omega | (simp; done) | (simp; omega))) | with_reducible refine Ext.trans ?_ (by with_reducible assumption))))⟩
      have := (hP.out.1 hn).2.1
      rw [← HN.out] at this
      exact h0 this
  · have hw : withinB s.size 1 8 = false := withinB_not.2 (by omega)
    have hP : ¬ NameP s := fun hn => h ⟨hn.1, hn.2.1⟩
    have HP := Lib.hid hP; clear hP h ht hI
    go_enter Tryd.func41, Tryd.ntmps41
    go_wp2_with (first
      | (go_at_call 37; refine (w_within _ _ _ _).mono ?_; rintro e w' ⟨rfl, rfl⟩))
    go_ret
    exact ⟨ret_bool (tf_mk_not HP.out).symm, (by (repeat (first | with_reducible exact Ext.refl _ | with_reducible assumption | with_reducible refine Ext.drew ?_ | with_reducible refine Ext.drewN ?_ _ | with_reducible refine Ext.alloc ?_ _ | ((with_reducible refine Ext.setCell ?_ ?_ _); rotate_left; focus (first | omega | (simp; done) | (simp; omega))) | with_reducible refine Ext.trans ?_ (by with_reducible assumption))))⟩

set_option maxRecDepth 100000 in
set_option maxHeartbeats 1000000 in
theorem w_areNames (v : Value) (xs : List ByteArray) (w : World) (hv : Rd w v xs) :
    Calls Tryd.prog 39 #[v] w fun e w' => e = .returned (.bool (tf (NamesP xs))) ∧ Ext w w' := by
  obtain ⟨A, cap, rfl, hcap, hmax⟩ := hv.form
  have Hv := Lib.hid hv; clear hv
  go_enter Tryd.func39, Tryd.ntmps39
  go_wp2
  go_loopw [7] (fun i wr => ∃ k : Nat, k ≤ xs.length ∧ i = .int .i64 k ∧ Ext w wr ∧ Hid (∀ j (h : j < xs.length), j < k → NameP xs[j] ∧ ∀ i (h' : i < j), xs[i] ≠ xs[j])) (fun i _ => xs.length - (intOf i).toNat)
  case atStart => exact ⟨0, by omega, rfl, Ext.refl _, fun _ _ h => by omega⟩
  case round =>
    obtain ⟨k, hk, rfl, hb, H⟩ := hrel
    by_cases hlt : k < xs.length
    · have hcut := Lib.hid ((Hv.out.up hb).take k (by omega))
      obtain ⟨b, o, rfl, hbl, g0, gs⟩ := Rd.atStr (Hv.out.up hb) k hlt
      have hkc : (k : Int) ≤ (cap : Int) := by omega
      go_wp2_with (first
        | (go_at_call 41; refine (w_isName _ _ gs).mono ?_; rintro e w1 ⟨rfl, he⟩)
        | (go_at_call 48; refine (w_ContainsStr _ (xs.take k) _ _ (by first | exact hcut.out.up (by (repeat (first | with_reducible exact Ext.refl _ | with_reducible assumption | with_reducible refine Ext.drew ?_ | with_reducible refine Ext.drewN ?_ _ | with_reducible refine Ext.alloc ?_ _ | ((with_reducible refine Ext.setCell ?_ ?_ _); rotate_left; focus (first | omega | (simp; done) | (simp; omega))) | with_reducible refine Ext.trans ?_ (by with_reducible assumption)))) | (simpa using hcut.out.up (by (repeat (first | with_reducible exact Ext.refl _ | with_reducible assumption | with_reducible refine Ext.drew ?_ | with_reducible refine Ext.drewN ?_ _ | with_reducible refine Ext.alloc ?_ _ | ((with_reducible refine Ext.setCell ?_ ?_ _); rotate_left; focus (first | omega | (simp; done) | (simp; omega))) | with_reducible refine Ext.trans ?_ (by with_reducible assumption))))))).mono ?_; rintro e w2 ⟨rfl, he2⟩))
      · have hm : tf (xs[k] ∈ xs.take k) = true := by assumption
        go_ret
        refine ⟨ret_bool (tf_mk_not fun hn => ?_).symm, (by (repeat (first | with_reducible exact Ext.refl _ | with_reducible assumption | with_reducible refine Ext.drew ?_ | with_reducible refine Ext.drewN ?_ _ | with_reducible refine Ext.alloc ?_ _ | ((with_reducible refine Ext.setCell ?_ ?_ _); rotate_left; focus (first | omega | (simp; done) | (simp; omega))) | with_reducible refine Ext.trans ?_ (by with_reducible assumption))))⟩
        obtain ⟨j, hj, hjk, hje⟩ := mem_take_iff.1 (tf_iff.1 hm)
        exact (hn k hlt).2 j hjk hje
      · have hm : tf (xs[k] ∈ xs.take k) = false := by assumption
        have hn : tf (NameP xs[k]) = true := by assumption
        have hg := Lib.hid (And.intro (tf_iff.1 hn) (show ∀ i (h' : i < k), xs[i] ≠ xs[k] from fun i h' he => tf_not.1 hm (mem_take_iff.2 ⟨i, by omega, h', he⟩)))
        go_roundw
        case rel => exact ⟨k + 1, by omega, by go_num, (by (repeat (first | with_reducible exact Ext.refl _ | with_reducible assumption | with_reducible refine Ext.drew ?_ | with_reducible refine Ext.drewN ?_ _ | with_reducible refine Ext.alloc ?_ _ | ((with_reducible refine Ext.setCell ?_ ?_ _); rotate_left; focus (first | omega | (simp; done) | (simp; omega))) | with_reducible refine Ext.trans ?_ (by with_reducible assumption)))), fun j h hj => by
          rcases Nat.lt_or_ge j k with hjk | hjk
          · exact H.out j h hjk
          · obtain rfl : j = k := by omega
            exact hg.out⟩
        case measure => simp [intOf]; omega
      · have hn : ¬ tf (NameP xs[k]) = true := by assumption
        go_ret
        exact ⟨ret_bool (tf_mk_not fun h => hn (tf_mk (h k hlt).1)).symm, (by (repeat (first | with_reducible exact Ext.refl _ | with_reducible assumption | with_reducible refine Ext.drew ?_ | with_reducible refine Ext.drewN ?_ _ | with_reducible refine Ext.alloc ?_ _ | ((with_reducible refine Ext.setCell ?_ ?_ _); rotate_left; focus (first | omega | (simp; done) | (simp; omega))) | with_reducible refine Ext.trans ?_ (by with_reducible assumption))))⟩
    · go_wp2
      go_ret
      exact ⟨ret_bool (tf_mk fun j h => H.out j h (by omega)).symm, (by (repeat (first | with_reducible exact Ext.refl _ | with_reducible assumption | with_reducible refine Ext.drew ?_ | with_reducible refine Ext.drewN ?_ _ | with_reducible refine Ext.alloc ?_ _ | ((with_reducible refine Ext.setCell ?_ ?_ _); rotate_left; focus (first | omega | (simp; done) | (simp; omega))) | with_reducible refine Ext.trans ?_ (by with_reducible assumption))))⟩
end Go.Proofs.YtfbbbgonapgfiaaDoor
