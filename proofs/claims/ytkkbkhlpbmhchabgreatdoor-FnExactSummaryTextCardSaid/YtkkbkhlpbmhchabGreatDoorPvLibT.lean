/- Contracts of library functions on plain data, out of the kit's shelf. No condition of its own. -/
import Derived.Test.YtkkbkhlpbmhchabGreatDoorPvOpen
import Derived.Test.YtkkbkhlpbmhchabGreatDoorPvF0
import Derived.Test.YtkkbkhlpbmhchabGreatDoorShelf
import Derived.Shelf.Strings.SlTrimAscii
import Derived.Lib.AppendIntMem
namespace Go.Proofs.YtkkbkhlpbmhchabGreatDoor
set_option linter.unusedSimpArgs false
set_option linter.unusedVariables false
open Go.RowKit Go.Lib

/-- Results that hold no memory. -/
theorem ResOk.ofFlat {S : FnSpec} {w w' : World} {ok : Nat → Prop} {V : Value} {r : S.rs.den} (hown : S.own = []) (he : Ext w w') (vs : List Value) (hV : V = packR S.rs vs) (hr : S.rs.rp w' (fun _ => False) vs r) : ResOk S w ok w' V r := by
  refine ⟨fun _ => none, vs, hV, ?_, ⟨(fun id gh hg => by cases hg), (fun id id' gh gh' b hg => by cases hg), (fun id gh b hg => by cases hg), he⟩⟩
  rw [hown, ownAcs_nil]
  exact S.rs.acs_rc (Ty.rp_keep S.rs hr (fun _ _ => rfl) (fun _ h => h.elim))
theorem arg_str {w : World} {ok : Nat → Prop} {b : Ty} {vs : List Value} {x : ByteArray × b.den} (h : ArgsOk w ok (.pair .str b) vs x) : ∃ us, vs = .string x.1 :: us ∧ x.1.size ≤ maxLen ∧ ArgsOk w ok b us x.2 := by
  cases vs with
  | nil => exact h.elim
  | cons v us =>
    obtain ⟨⟨cs, hv, hc, hs⟩, hr⟩ := h
    subst hc
    exact ⟨us, by rw [hv]; rfl, hs, hr⟩
theorem arg_int {w : World} {ok : Nat → Prop} {k : IntKind} {b : Ty} {vs : List Value} {x : Int × b.den} (h : ArgsOk w ok (.pair (.int k) b) vs x) : ∃ us, vs = .int k x.1 :: us ∧ (Lit.int k x.1).wf = true ∧ ArgsOk w ok b us x.2 := by
  cases vs with
  | nil => exact h.elim
  | cons v us =>
    obtain ⟨⟨cs, hv, hc, hs⟩, hr⟩ := h
    subst hc
    exact ⟨us, by rw [hv]; rfl, hs, hr⟩
theorem arg_nil {w : World} {ok : Nat → Prop} {vs : List Value} {x : Unit} (h : ArgsOk w ok .nil vs x) : vs = [] := by
  cases vs with
  | nil => rfl
  | cons v us => exact h.elim
theorem args_eq {args : Array Value} {l : List Value} (h : args.toList = l) : args = l.toArray := by rw [← h]

/-- The tables that the library reads are laid. -/
def PRE (w : World) : Prop := ∀ w', Below w.heap.size w w' → Lib.TabIs Tryz.prog w' "internal/strconv.uint64pow10" .u64 Lib.pow10Tab ∧ TabsAt [(0, Tab_kindWords)] w'
theorem PRE_tabs (w : World) (h : PRE w) : TabsAt [(0, Tab_kindWords)] w := (h w (Below.refl _ _)).2
theorem PRE_ext (w w' : World) (h : PRE w) (e : Ext w w') : PRE w' := fun w'' hb => h w'' (Below.trans e (Below.mono hb e.size))
theorem arg_slice {w : World} {ok : Nat → Prop} {e b : Ty} {vs : List Value} {x : List e.den × b.den} (h : ArgsOk w ok (.pair (.slice e) b) vs x) : ∃ A cap us, vs = .slice A x.1.length cap :: us ∧ x.1.length ≤ cap ∧ cap ≤ maxLen ∧
    (0 < x.1.length → ∃ b o, A = some ⟨b, o, none⟩ ∧ ok b ∧ ∀ (i : Nat) (h : i < x.1.length), ∃ us, e.rp w ok us x.1[i] ∧ CellsAt w b (o + i * e.sz) us) ∧ ArgsOk w ok b us x.2 := by
  cases vs with
  | nil => exact h.elim
  | cons v us =>
    obtain ⟨⟨cs, hv, A, cap, hc, h1, h2, h3⟩, hr⟩ := h
    subst hc
    exact ⟨A, cap, us, by rw [hv]; rfl, h1, h2, h3, hr⟩

def S_strconv_FormatInt (N : Nat) : FnSpec := ⟨(.pair (.int .i64) (.pair (.int .i64) .nil)), (.pair .str .nil), [], F_strconv_FormatInt N⟩
theorem K_strconv_FormatInt : Callable Tryz.prog 123 := ⟨_, Tryz.func123, by kernel_rfl, by kernel_rfl⟩
theorem Z_strconv_FormatInt (N : Nat) : Sound Tryz.prog PRE 123 (S_strconv_FormatInt N) := by
  intro w args x r ok hpre _ hA hx
  obtain ⟨us, h1, h2, hA⟩ := arg_int hA
  obtain ⟨us', rfl, h3, hA⟩ := arg_int hA
  obtain rfl := arg_nil hA
  obtain rfl := args_eq h1
  obtain ⟨hc, hx⟩ := bif_some (show (bif decide (x.2.1 = 10) && decide ((Lib.itoa x.1).length ≤ 30) then some ((⟨(Lib.itoa x.1).toArray⟩ : ByteArray), ()) else none) = some r from hx)
  cases hx
  simp only [Bool.and_eq_true, decide_eq_true_eq] at hc
  rw [hc.1]
  obtain ⟨b1, b2⟩ := wf_bd h2
  refine (Tryz.strconv_FormatInt_10 x.1 b1 b2 w (hpre w (Below.refl _ _)).1).mono fun e w' ⟨he, k, os, hw⟩ => ⟨_, he, ResOk.ofFlat rfl ?_ [_] rfl ⟨[_], [], rfl, ⟨rfl, ?_⟩, rfl⟩⟩
  · rw [hw]
    exact below_grow _ _ (Nat.le_refl _) _ _
  · have : (⟨(Lib.itoa x.1).toArray⟩ : ByteArray).size = (Lib.itoa x.1).length := by simp [ByteArray.size]
    rw [this]; unfold maxLen; omega

def S_strings_Join (N : Nat) : FnSpec := ⟨(.pair (.slice .str) (.pair .str .nil)), (.pair .str .nil), [], F_strings_Join N⟩
theorem K_strings_Join : Callable Tryz.prog 112 := ⟨_, Tryz.func112, by kernel_rfl, by kernel_rfl⟩
theorem Z_strings_Join (N : Nat) : Sound Tryz.prog PRE 112 (S_strings_Join N) := by
  intro w args x r ok hpre hlow hA hx
  obtain ⟨A, cap, us, h1, hc1, hc2, hc3, hA⟩ := arg_slice hA
  obtain ⟨us', rfl, h3, hA⟩ := arg_str hA
  obtain rfl := arg_nil hA
  obtain rfl := args_eq h1
  obtain ⟨hc, hx⟩ := bif_some (show (bif decide (x.1.length ≤ 140737488355328) && decide ((Lib.join (x.1.map (·.data.toList)) x.2.1.data.toList).length ≤ 140737488355328) then some ((⟨(Lib.join (x.1.map (·.data.toList)) x.2.1.data.toList).toArray⟩ : ByteArray), ()) else none) = some r from hx)
  cases hx
  simp only [Bool.and_eq_true, decide_eq_true_eq] at hc
  have hsz : (⟨(Lib.join (x.1.map (·.data.toList)) x.2.1.data.toList).toArray⟩ : ByteArray).size ≤ maxLen := by
    have : (⟨(Lib.join (x.1.map (·.data.toList)) x.2.1.data.toList).toArray⟩ : ByteArray).size = (Lib.join (x.1.map (·.data.toList)) x.2.1.data.toList).length := by simp [ByteArray.size]
    rw [this]; unfold maxLen; omega
  obtain ⟨xs, sep, u⟩ := x
  rcases Nat.eq_zero_or_pos xs.length with h0 | h0
  · have : xs = [] := List.eq_nil_of_length_eq_zero h0
    subst this
    exact (Tryz.strings_Join_none A cap sep w).mono fun e w' ⟨he, hw⟩ => ⟨_, he, ResOk.ofFlat rfl (by rw [hw]; exact Ext.refl w) [_] rfl ⟨[_], [], rfl, ⟨rfl, hsz⟩, rfl⟩⟩
  · obtain ⟨b, o, rfl, hb, hcs⟩ := hc3 h0
    refine (Tryz.strings_Join b o cap xs sep w (fun j y hj => ?_) (hlow b hb) hc.1 hc1 hc.2).mono fun e w' ⟨he, hw⟩ => ⟨_, he, ResOk.ofFlat rfl hw [_] rfl ⟨[_], [], rfl, ⟨rfl, hsz⟩, rfl⟩⟩
    obtain ⟨hlt, hye⟩ := List.getElem?_eq_some_iff.1 hj
    obtain ⟨us, hr, hu⟩ := hcs j hlt
    obtain ⟨rfl, _⟩ := hr
    have := hu 0 _ rfl
    simp only [Ty.sz, Nat.mul_one, Nat.add_zero] at this
    rw [this]
    exact congrArg (fun z => some (Value.string z)) hye

def S_strings_Repeat (N : Nat) : FnSpec := ⟨(.pair .str (.pair (.int .i64) .nil)), (.pair .str .nil), [], F_strings_Repeat N⟩
theorem K_strings_Repeat : Callable Tryz.prog 124 := ⟨_, Tryz.func124, by kernel_rfl, by kernel_rfl⟩
theorem repeatL_len (l : List UInt8) : ∀ c, (Lib.repeatL l c).length = l.length * c
  | 0 => rfl
  | c + 1 => by rw [Lib.repeatL, List.length_append, repeatL_len l c, Nat.mul_succ]; omega
theorem Z_strings_Repeat (N : Nat) : Sound Tryz.prog PRE 124 (S_strings_Repeat N) := by
  intro w args x r ok _ _ hA hx
  obtain ⟨us, h1, h2, hA⟩ := arg_str hA
  obtain ⟨us', rfl, h3, hA⟩ := arg_int hA
  obtain rfl := arg_nil hA
  obtain rfl := args_eq h1
  obtain ⟨hc, hx⟩ := bif_some (show (bif decide (0 ≤ x.2.1) && (decide (x.2.1 ≤ 9223372036854775807) && decide (x.1.size * x.2.1.toNat ≤ 140737488355328)) then some (((⟨(Lib.repeatL x.1.data.toList x.2.1.toNat).toArray⟩ : ByteArray), ()) : ByteArray × Unit) else none) = some r from hx)
  cases hx
  simp only [Bool.and_eq_true, decide_eq_true_eq] at hc
  obtain ⟨s, n, u⟩ := x
  have k0 : (0 : Int) ≤ (n : Int) := hc.1
  have k1 : (n : Int) ≤ 9223372036854775807 := hc.2.1
  have k2 : s.size * (n : Int).toNat ≤ 140737488355328 := hc.2.2
  obtain ⟨m, hm⟩ : ∃ m : Nat, (n : Int) = (m : Int) := ⟨(n : Int).toNat, (Int.toNat_of_nonneg k0).symm⟩
  rw [hm] at k1 k2
  rw [Int.toNat_natCast] at k2
  have hn : (n : Int).toNat = m := by rw [hm]; rfl
  show Calls _ _ #[.string s, .int .i64 n] _ _
  rw [show n = (m : Int) from hm]
  refine (Tryz.strings_Repeat s m w (Int.ofNat_le.1 k1) k2).mono fun e w' ⟨he, hw⟩ => ⟨_, he, ResOk.ofFlat rfl hw [_] rfl ⟨[_], [], rfl, ⟨?_, ?_⟩, rfl⟩⟩
  · show _ = [Value.string ⟨(Lib.repeatL s.data.toList (m : Int).toNat).toArray⟩]
    rfl
  show (⟨(Lib.repeatL s.data.toList m).toArray⟩ : ByteArray).size ≤ _
  have h9 : (⟨(Lib.repeatL s.data.toList m).toArray⟩ : ByteArray).size = (Lib.repeatL s.data.toList m).length := by simp [ByteArray.size]
  have h8 : s.data.toList.length = s.size := by rw [Array.length_toList]; rfl
  rw [h9, repeatL_len, h8]; unfold maxLen; omega

def S_strings_IndexByte (N : Nat) : FnSpec := ⟨(.pair .str (.pair (.int .u8) .nil)), (.pair (.int .i64) .nil), [], F_strings_IndexByte N⟩
theorem K_strings_IndexByte : Callable Tryz.prog 196 := ⟨_, Tryz.func196, by kernel_rfl, by kernel_rfl⟩
theorem indexByte_bd (c : UInt8) : ∀ l : List UInt8, -1 ≤ Lib.indexByte l c ∧ Lib.indexByte l c ≤ (l.length : Int)
  | [] => by simp [Lib.indexByte]
  | b :: l => by
    have := indexByte_bd c l
    simp only [Lib.indexByte, List.length_cons]
    split
    · omega
    · split
      · omega
      · rename_i h _ ; push_cast; omega
theorem indexByte_wf (l : List UInt8) (c : UInt8) (h : l.length ≤ maxLen) : (Lit.int .i64 (Lib.indexByte l c)).wf = true := by
  have := indexByte_bd c l
  unfold maxLen at h
  exact wf_of (by show (-9223372036854775808 : Int) ≤ _; omega) (by show _ ≤ (9223372036854775807 : Int); omega)
theorem Z_strings_IndexByte (N : Nat) : Sound Tryz.prog PRE 196 (S_strings_IndexByte N) := by
  intro w args x r ok _ _ hA hx
  obtain ⟨us, h1, h2, hA⟩ := arg_str hA
  obtain ⟨us', rfl, h3, hA⟩ := arg_int hA
  obtain rfl := arg_nil hA
  obtain rfl := args_eq h1
  cases hx
  exact (Tryz.strings_IndexByte x.1 x.2.1 w).mono fun e w' ⟨he, hw⟩ => ⟨_, he, ResOk.ofFlat rfl (by rw [hw]; exact Ext.refl w) [_] rfl ⟨[_], [], rfl, ⟨rfl, indexByte_wf _ _ (by simpa using h2)⟩, rfl⟩⟩

def S_strings_Trim (N : Nat) : FnSpec := ⟨(.pair .str (.pair .str .nil)), (.pair .str .nil), [], F_strings_Trim N⟩
theorem K_strings_Trim : Callable Tryz.prog 195 := ⟨_, Tryz.func195, by kernel_rfl, by kernel_rfl⟩
theorem trimS_len (l cs : List UInt8) : (Lib.trimS l cs).length ≤ l.length := by
  unfold Lib.trimS Lib.trimLeftS Lib.trimRightS
  refine Nat.le_trans (List.dropWhile_sublist _).length_le ?_
  rw [List.length_reverse]
  refine Nat.le_trans (List.dropWhile_sublist _).length_le ?_
  rw [List.length_reverse]
  exact Nat.le_refl _
theorem Z_strings_Trim (N : Nat) : Sound Tryz.prog PRE 195 (S_strings_Trim N) := by
  intro w args x r ok _ _ hA hx
  obtain ⟨us, h1, h2, hA⟩ := arg_str hA
  obtain ⟨us', rfl, h3, hA⟩ := arg_str hA
  obtain rfl := arg_nil hA
  obtain rfl := args_eq h1
  obtain ⟨hc, hx⟩ := bif_some (show (bif (x.2.1.data.toList.all fun b => decide (b.toNat < 128)) && decide (x.2.1.size < 4294967281) then some ((⟨(Lib.trimS x.1.data.toList x.2.1.data.toList).toArray⟩ : ByteArray), ()) else none) = some r from hx)
  cases hx
  simp only [Bool.and_eq_true, decide_eq_true_eq] at hc
  exact (Any.strings_Trim_laid Tryz.lays160 (by kernel_rfl) x.1 x.2.1 w (by unfold maxLen at h2; omega) hc.2 (ascii_of_all hc.1)).mono fun e w' ⟨he, hw⟩ => ⟨_, he, ResOk.ofFlat rfl hw [_] rfl ⟨[_], [], rfl, ⟨rfl, Nat.le_trans (trimS_len _ _) h2⟩, rfl⟩⟩
end Go.Proofs.YtkkbkhlpbmhchabGreatDoor
