/- Places, wires and blocks: both sides. No program in sight. -/
import Derived.Test.YtbdokiecpmhjmaaGreatDoorPwDes2
namespace Go.Proofs.YtbdokiecpmhjmaaGreatDoor
set_option linter.unusedSimpArgs false
set_option linter.unusedVariables false
set_option linter.unusedSectionVars false
set_option linter.unusedVariables false
set_option linter.unusedSimpArgs false

abbrev Plc : Type := Int × Int × Int × Bool × Unit
def instPl (i : Nat) (nets : List Int) : List Plc := nets.mapIdx fun k net => ((i : Int), (k : Int), net, decide (k + 1 = nets.length), ())
def portPl (ps : List DPort) : List Plc := ps.mapIdx fun i p => ((-1 : Int), (i : Int), p.2.2.1, decide (p.2.1 = 1), ())
def instsPl (xs : List DInstance) : List Plc := (xs.mapIdx fun i x => instPl i x.2.2.1).flatten
def placesL (d : DDesign) : List Plc := instsPl d.1 ++ portPl d.2.2.1
/-- Its numbers of parts are small, as those of a design are. -/
def Few (d : DDesign) : Prop := d.1.length ≤ 14 ∧ (∀ x ∈ d.1, x.2.2.1.length ≤ 5) ∧ d.2.2.1.length ≤ 8
theorem few_of {l : DLibrary} {d : DDesign} (h : DesignP l d) : Few d := ⟨h.2.1.1.1, fun x hx => (inst_last (fun c hc => (h.1.1 c hc).2.1) (h.2.2.1.1 x hx)).2.1, h.2.1.1.2.2⟩

theorem mapIdx_take_succ {α β : Type} {xs : List α} {i : Nat} (hi : i < xs.length) (f : Nat → α → β) : (xs.take (i + 1)).mapIdx f = (xs.take i).mapIdx f ++ [f i xs[i]] := by
  rw [List.take_succ_eq_append_getElem hi, List.mapIdx_append]
  simp [Nat.min_eq_left (Nat.le_of_lt hi)]
theorem instsPl_succ {xs : List DInstance} {i : Nat} (hi : i < xs.length) : instsPl (xs.take (i + 1)) = instsPl (xs.take i) ++ instPl i xs[i].2.2.1 := by
  unfold instsPl
  rw [mapIdx_take_succ hi, List.flatten_append]; simp
theorem instsPl_len (xs : List DInstance) (h : ∀ x ∈ xs, x.2.2.1.length ≤ 5) : ∀ i, i ≤ xs.length → (instsPl (xs.take i)).length ≤ 5 * i
  | 0, _ => by simp [instsPl]
  | i + 1, hi => by
    have := instsPl_len xs h i (by omega)
    have h5 := h _ (List.getElem_mem (show i < xs.length by omega))
    rw [instsPl_succ (by omega)]
    simp [instPl]; omega
theorem placesL_len {d : DDesign} (h : Few d) : (placesL d).length ≤ 78 := by
  have h1 := instsPl_len d.1 h.2.1 d.1.length (Nat.le_refl _)
  rw [List.take_length] at h1
  have := h.1; have := h.2.2
  simp [placesL, portPl]; omega

def WireP (w : DWire) (sinks : Int) : Prop := (1 ≤ w.1.length ∧ w.1.length ≤ 8) ∧ w.2.1.length = w.1.length ∧ w.2.2.1.length = w.1.length ∧ (∀ i (h : i < w.1.length), (i = 0 → w.1[i] = -1 ∧ w.2.1[i]? = some 0) ∧ (0 < i → BtwP 0 ((i : Int) - 1) w.1[i])) ∧
  (∀ r ∈ w.2.1, BtwP 0 1000 r) ∧ (∀ c ∈ w.2.2.1, BtwP 0 500 c) ∧ (w.2.2.2.1.length : Int) = sinks ∧ ∀ k ∈ w.2.2.2.1, BtwP 0 ((w.1.length : Int) - 1) k
abbrev SmallW (w : DWire) : Prop := w.1.length < 4000000 ∧ w.2.1.length < 4000000 ∧ w.2.2.1.length < 4000000 ∧ w.2.2.2.1.length < 4000000
abbrev SmallB (b : DBlock) : Prop := SmallL b.1 ∧ SmallD b.2.1 ∧ (b.2.2.1.length < 4000000 ∧ ∀ w ∈ b.2.2.1, SmallW w)
/-- Whether a place is a sink of a net. -/
def isSink (k : Int) (p : Plc) : Bool := decide (p.2.2.1 = k) && !p.2.2.2.1
def sinkCount (d : DDesign) (k : Int) : Nat := (placesL d).countP (isSink k)
def BlockP (b : DBlock) : Prop := DesignP b.1 b.2.1 ∧ b.2.2.1.length = b.2.1.2.1.length ∧ ∀ k (h : k < b.2.2.1.length), WireP b.2.2.1[k] (sinkCount b.2.1 (k : Int))
/-- The sinks of a net, of the first places. -/
def sinksTo (l : List Plc) (k : Int) : List Int := (l.mapIdx fun i p => (isSink k p, (i : Int))).filterMap fun p => if p.1 = true then some p.2 else none
def sinksL (d : DDesign) (k : Int) : List Int := sinksTo (placesL d) k
theorem sinksTo_succ {l : List Plc} {i : Nat} (hi : i < l.length) (k : Int) : sinksTo (l.take (i + 1)) k = sinksTo (l.take i) k ++ (if isSink k l[i] = true then [(i : Int)] else []) := by
  unfold sinksTo
  rw [mapIdx_take_succ hi, List.filterMap_append]
  congr 1
  by_cases h : isSink k l[i] = true
  · simp [h]
  · simp [h]
theorem sinksTo_len (l : List Plc) (k : Int) : ∀ i, i ≤ l.length → (sinksTo (l.take i) k).length = (l.take i).countP (isSink k)
  | 0, _ => by simp [sinksTo]
  | i + 1, hi => by
    rw [sinksTo_succ (by omega), countP_take_succ (by omega), List.length_append, sinksTo_len l k i (by omega)]
    split <;> simp
theorem sinksL_len (d : DDesign) (k : Int) : (sinksL d k).length = sinkCount d k := by
  have := sinksTo_len (placesL d) k _ (Nat.le_refl _)
  rw [List.take_length] at this
  exact this

section
variable {N : Nat} (hN : 4000000 ≤ N) {u : Unit}
include hN
theorem impl_places {d : DDesign} (hd : Few d) : F_impl_Design_places N (d, u) = some (placesL d, ()) := by
  refine Ret.eq ?_
  unfold F_impl_Design_places
  have f1 := hd.1; have f3 := hd.2.2
  dsimp only
  refine Ret.up d.1.length (fun i s => s = (instsPl (d.1.take i), ())) (by omega) (by omega) rfl ?_ ?_
  · rintro i s next hi rfl hn
    have f2 := hd.2.1 _ (List.getElem_mem hi)
    have hlen := instsPl_len d.1 hd.2.1 i (by omega)
    dsimp only
    refine Ret.must ?_ ?_
    · omega
    refine Ret.atN hi ?_
    rw [len_wrap1 hN (show d.1[i].2.2.1.length < 4000000 by omega)]
    refine Ret.up d.1[i].2.2.1.length (fun k s => s = (instsPl (d.1.take i) ++ (d.1[i].2.2.1.take k).mapIdx (fun k net => ((i : Int), (k : Int), net, decide (k + 1 = d.1[i].2.2.1.length), ())), ())) (by omega) (by omega) (by simp) ?_ ?_
    · rintro k s next' hk rfl hm
      dsimp only
      refine Ret.must ?_ ?_
      · omega
      refine Ret.atN hk (Ret.guard ?_ ?_)
      · unfold lim; simp; omega
      refine hm _ ?_
      rw [mapIdx_take_succ hk, List.append_assoc]
      have : (decide ((k : Int) = (d.1[i].2.2.1.length : Int) - 1)) = decide (k + 1 = d.1[i].2.2.1.length) := by
        rw [decide_eq_decide]; omega
      rw [this]
    · rintro s next' rfl
      dsimp only
      refine Ret.mustN ?_ (hn _ ?_)
      · omega
      rw [instsPl_succ hi, List.take_length]; rfl
  rintro s next rfl
  dsimp only
  refine Ret.mustN ?_ ?_
  · omega
  rw [List.take_length]
  have hlen := instsPl_len d.1 hd.2.1 d.1.length (Nat.le_refl _)
  rw [List.take_length] at hlen
  refine Ret.up d.2.2.1.length (fun i s => s = (instsPl d.1 ++ portPl (d.2.2.1.take i), ())) (by omega) (by omega) (by simp [portPl]) ?_ ?_
  · rintro i s next hi rfl hn
    dsimp only
    refine Ret.must ?_ ?_
    · omega
    refine Ret.atN hi (Ret.guard ?_ ?_)
    · unfold lim portPl; simp; omega
    refine hn _ ?_
    unfold portPl
    rw [mapIdx_take_succ hi, List.append_assoc]
  · rintro s next rfl
    dsimp only
    refine Ret.mustN ?_ (Ret.ret ?_)
    · omega
    rw [List.take_length]; rfl
theorem spec_l05Places {d : DDesign} (hd : Few d) : F_spec_l05Places N (d, u) = some (placesL d, ()) := by
  refine Ret.eq ?_
  unfold F_spec_l05Places
  have f1 := hd.1; have f3 := hd.2.2
  dsimp only
  refine Ret.up d.1.length (fun i s => s = (instsPl (d.1.take i), ())) (by omega) (by omega) rfl ?_ ?_
  · rintro i s next hi rfl hn
    have f2 := hd.2.1 _ (List.getElem_mem hi)
    have hlen := instsPl_len d.1 hd.2.1 i (by omega)
    dsimp only
    refine Ret.must ?_ ?_
    · omega
    refine Ret.atN hi ?_
    rw [len_wrap1 hN (show d.1[i].2.2.1.length < 4000000 by omega)]
    refine Ret.up d.1[i].2.2.1.length (fun k s => s = (instsPl (d.1.take i) ++ (d.1[i].2.2.1.take k).mapIdx (fun k net => ((i : Int), (k : Int), net, decide (k + 1 = d.1[i].2.2.1.length), ())), ())) (by omega) (by omega) (by simp) ?_ ?_
    · rintro k s next' hk rfl hm
      dsimp only
      refine Ret.must ?_ ?_
      · omega
      refine Ret.atN hk (Ret.guard ?_ ?_)
      · unfold lim; simp; omega
      refine hm _ ?_
      rw [mapIdx_take_succ hk, List.append_assoc]
      have : (decide ((k : Int) = (d.1[i].2.2.1.length : Int) - 1)) = decide (k + 1 = d.1[i].2.2.1.length) := by
        rw [decide_eq_decide]; omega
      rw [this]
    · rintro s next' rfl
      dsimp only
      refine Ret.mustN ?_ (hn _ ?_)
      · omega
      rw [instsPl_succ hi, List.take_length]; rfl
  rintro s next rfl
  dsimp only
  refine Ret.mustN ?_ ?_
  · omega
  rw [List.take_length]
  have hlen := instsPl_len d.1 hd.2.1 d.1.length (Nat.le_refl _)
  rw [List.take_length] at hlen
  refine Ret.up d.2.2.1.length (fun i s => s = (instsPl d.1 ++ portPl (d.2.2.1.take i), ())) (by omega) (by omega) (by simp [portPl]) ?_ ?_
  · rintro i s next hi rfl hn
    dsimp only
    refine Ret.must ?_ ?_
    · omega
    refine Ret.atN hi (Ret.atN hi (Ret.guard ?_ ?_))
    · unfold lim portPl; simp; omega
    refine hn _ ?_
    unfold portPl
    rw [mapIdx_take_succ hi, List.append_assoc]
  · rintro s next rfl
    dsimp only
    refine Ret.mustN ?_ (Ret.ret ?_)
    · omega
    rw [List.take_length]; rfl
theorem spec_l05Sinks {d : DDesign} (hd : Few d) (k : Int) : F_spec_l05Sinks N (d, k, u) = some (sinksL d k, ()) := by
  refine Ret.eq ?_
  unfold F_spec_l05Sinks
  refine Ret.call (spec_l05Places hN hd) ?_
  have hlen := placesL_len hd
  dsimp only
  unfold sinksL
  generalize placesL d = l at *
  refine Ret.up l.length (fun i s => s = (sinksTo (l.take i) k, ())) (by omega) (by omega) (by simp [sinksTo]) ?_ ?_
  · rintro i s next hi rfl hn
    have hs := sinksTo_len l k i (by omega)
    have hc : (l.take i).countP (isSink k) ≤ (l.take i).length := List.countP_le_length
    rw [List.length_take] at hc
    have hsucc := sinksTo_succ hi k
    dsimp only
    refine Ret.must ?_ ?_
    · omega
    refine Ret.guardI hi (Ret.get hi ?_)
    simp only [Int.toNat_natCast]
    have hk : isSink k l[i] = (decide (l[i].2.2.1 = k) && !l[i].2.2.2.1) := rfl
    refine Ret.ifd ?_ ?_ <;> intro e1
    · refine Ret.guardI hi (Ret.get hi ?_)
      rw [decide_eq_true e1, Bool.true_and] at hk
      refine Ret.bif ?_ ?_ <;> intro e2
      · rw [hk, e2, if_pos rfl] at hsucc
        refine Ret.guard ?_ ?_
        · unfold lim; simp; omega
        · exact hn _ (by rw [hsucc])
      · rw [hk, e2] at hsucc
        exact hn _ (by rw [hsucc]; simp)
    · rw [hk, decide_eq_false e1] at hsucc
      exact hn _ (by rw [hsucc]; simp)
  · rintro s next rfl
    dsimp only
    refine Ret.mustN ?_ (Ret.ret ?_)
    · omega
    rw [List.take_length]
theorem impl_isTree {w : DWire} (hw : SmallW w) (h0 : 1 ≤ w.2.1.length) : F_impl_Wire_isTree N (w, u) = some (dec (∀ i (h : i < w.1.length), (i = 0 → w.1[i] = -1 ∧ w.2.1[i]? = some 0) ∧ (0 < i → BtwP 0 ((i : Int) - 1) w.1[i])), ()) := by
  refine Ret.tells ?_
  unfold F_impl_Wire_isTree
  dsimp only
  have hl := hw.1
  refine Ret.up w.1.length (fun i _ => ∀ j, j < i → ∀ h : j < w.1.length, (j = 0 → w.1[j] = -1 ∧ w.2.1[j]? = some 0) ∧ (0 < j → BtwP 0 ((j : Int) - 1) w.1[j])) (by omega) (by omega) upto_zero ?_ ?_
  · intro i u next hi hI hn
    have hwi : IntKind.i64.wrap ((i : Int) - 1) = (i : Int) - 1 := by rw [wrapI] <;> omega
    have hr0 : atI w.2.1 0 = some w.2.1[0] := atI_nat (i := 0) (by omega)
    dsimp only
    rw [hwi]
    refine Ret.must ?_ ?_
    · omega
    refine Ret.atN hi ?_
    refine Ret.ifd ?_ ?_ <;> intro e0
    · obtain rfl : i = 0 := by omega
      refine Ret.ifnd ?_ ?_ <;> intro e1
      · exact Ret.ret (tells_false.2 fun h => e1 ((h 0 hi).1 rfl).1)
      refine Ret.call hr0 (Ret.ifnd ?_ ?_) <;> intro e2
      · refine Ret.ret (tells_false.2 fun h => e2 ?_)
        have := ((h 0 hi).1 rfl).2
        rw [List.getElem?_eq_getElem (by omega)] at this
        exact Option.some.inj this
      refine Ret.mustN ?_ (hn () (upto_succ hI fun _ => ⟨fun _ => ⟨e1, by rw [List.getElem?_eq_getElem (by omega)]; exact congrArg some e2⟩, fun h => by omega⟩))
      omega
    · refine Ret.must ?_ ?_
      · omega
      refine Ret.call (impl_within _ _ _ _ _) (Ret.ifnc ?_ ?_) <;> intro e1
      · exact Ret.ret (tells_false.2 fun h => e1 ((h i hi).2 (by omega)))
      · exact hn () (upto_succ hI fun _ => ⟨fun h => by omega, fun _ => e1⟩)
  · intro u next hI
    dsimp only
    refine Ret.mustN ?_ (Ret.ret (tells_true.2 fun j hj => hI j hj hj))
    omega
theorem impl_IsWire {w : DWire} (hw : SmallW w) (k : Int) : F_impl_IsWire N (w, k, u) = some (dec (WireP w k), ()) := by
  refine Ret.tells ?_
  unfold F_impl_IsWire
  have hlen : ∀ (l : List Int) (v : Unit), F_impl_length_int64 N (l, v) = some ((l.length : Int), ()) := fun _ _ => rfl
  have hlen' : F_impl_length_int64 N w.2.2.2 = some ((w.2.2.2.1.length : Int), ()) := rfl
  dsimp only
  refine Ret.call (hlen _ _) (Ret.call (impl_within _ _ _ _ _) (Ret.ifc ?_ ?_)) <;> intro h1
  rotate_left
  · exact Ret.ret (tells_false.2 fun h => h1 (by have := h.1; unfold BtwP; omega))
  refine Ret.call (hlen _ _) (Ret.ifd ?_ ?_) <;> intro h2
  rotate_left
  · exact Ret.ret (tells_false.2 fun h => h2 (by have := h.2.1; dsimp only; omega))
  refine Ret.call (hlen _ _) (Ret.ifd ?_ ?_) <;> intro h3
  rotate_left
  · exact Ret.ret (tells_false.2 fun h => h3 (by have := h.2.2.1; dsimp only; omega))
  have h0 : 1 ≤ w.2.1.length := by dsimp only at h2; unfold BtwP at h1; omega
  dsimp only
  rw [len_wrap1 hN hw.1]
  (repeat' (first | (dsimp only) | (with_reducible refine Ret.ret ?_) | (with_reducible refine Ret.guardI (by first | assumption | omega | (simp only [List.length_append, List.length_cons, List.length_nil, List.length_set, List.length_replicate, lim] at *; omega)) ?_) | (with_reducible refine Ret.guard (by first | assumption | omega | (simp only [List.length_append, List.length_cons, List.length_nil, List.length_set, List.length_replicate, lim] at *; omega)) ?_) | (with_reducible refine Ret.guard3 (by first | assumption | omega | (simp only [List.length_append, List.length_cons, List.length_nil, List.length_set, List.length_replicate, lim] at *; omega)) ?_) | (with_reducible refine Ret.guard3' (by first | assumption | omega | (simp only [List.length_append, List.length_cons, List.length_nil, List.length_set, List.length_replicate, lim] at *; omega)) ?_) | (with_reducible refine Ret.atN (by first | assumption | omega | (simp only [List.length_append, List.length_cons, List.length_nil, List.length_set, List.length_replicate, lim] at *; omega)) ?_) | (with_reducible refine Ret.get (by first | assumption | omega | (simp only [List.length_append, List.length_cons, List.length_nil, List.length_set, List.length_replicate, lim] at *; omega)) ?_) | (with_reducible refine Ret.byteN (by first | assumption | omega | (simp only [List.length_append, List.length_cons, List.length_nil, List.length_set, List.length_replicate, lim] at *; omega)) ?_) | (with_reducible refine Ret.call (impl_isTree hN hw h0) ?_) | (with_reducible refine Ret.call (impl_areWithin hN hw.2.1 _ _) ?_) | (with_reducible refine Ret.call (impl_areWithin hN hw.2.2.1 _ _) ?_) | (with_reducible refine Ret.call (hlen') ?_) | (with_reducible refine Ret.call (impl_areWithin hN hw.2.2.2 _ _) ?_) | ((with_reducible refine Ret.ifnd ?_ ?_) <;> intro _) | ((with_reducible refine Ret.ifd ?_ ?_) <;> intro _) | ((with_reducible refine Ret.ifnc ?_ ?_) <;> intro _) | ((with_reducible refine Ret.ifc ?_ ?_) <;> intro _) | ((with_reducible refine Ret.bif ?_ ?_) <;> intro _)))
  all_goals (simp only [tells_false, tells_dec, WireP, BtwP] at *; grind)
theorem spec_IsWire {w : DWire} (hw : SmallW w) (k : Int) : F_spec_IsWire N (w, k, u) = some (dec (WireP w k), ()) := by
  refine Ret.tells ?_
  unfold F_spec_IsWire
  have hl := hw.1
  dsimp only
  refine Ret.ifd ?_ ?_ <;> intro h1
  · exact Ret.ret (tells_false.2 fun h => by have := h.1.1; omega)
  refine Ret.ifd ?_ ?_ <;> intro h1'
  · exact Ret.ret (tells_false.2 fun h => by have := h.1.2; omega)
  refine Ret.ifnd ?_ ?_ <;> intro h2
  · exact Ret.ret (tells_false.2 fun h => by have := h.2.1; omega)
  refine Ret.ifnd ?_ ?_ <;> intro h3
  · exact Ret.ret (tells_false.2 fun h => by have := h.2.2.1; omega)
  refine Ret.ifnd ?_ ?_ <;> intro h4
  · exact Ret.ret (tells_false.2 fun h => by have := h.2.2.2.2.2.2.1; omega)
  have hR : w.2.1.length = w.1.length := by omega
  have hC : w.2.2.1.length = w.1.length := by omega
  refine Ret.up w.1.length (fun i _ => ∀ j, j < i → ∀ h : j < w.1.length, ((j = 0 → w.1[j] = -1 ∧ w.2.1[j]? = some 0) ∧ (0 < j → BtwP 0 ((j : Int) - 1) w.1[j])) ∧ BtwP 0 1000 (w.2.1[j]'(by omega)) ∧ BtwP 0 500 (w.2.2.1[j]'(by omega))) (by omega) (by omega) upto_zero ?_ ?_
  · intro i u next hi hI hn
    have hwi : IntKind.i64.wrap ((i : Int) - 1) = (i : Int) - 1 := by rw [wrapI] <;> omega
    have hiR : i < w.2.1.length := by omega
    have hiC : i < w.2.2.1.length := by omega
    dsimp only
    rw [hwi]
    refine Ret.must ?_ ?_
    · omega
    refine Ret.atN hiC (Ret.call (spec_l01In _ _ _ _ _) (Ret.ifnc ?_ ?_)) <;> intro e1
    · exact Ret.ret (tells_false.2 fun h => e1 (h.2.2.2.2.2.1 _ (List.getElem_mem hiC)))
    refine Ret.atN hiR (Ret.call (spec_l01In _ _ _ _ _) (Ret.ifnc ?_ ?_)) <;> intro e2
    · exact Ret.ret (tells_false.2 fun h => e2 (h.2.2.2.2.1 _ (List.getElem_mem hiR)))
    refine Ret.ifd ?_ ?_ <;> intro e0
    · obtain rfl : i = 0 := by omega
      refine Ret.atN hi (Ret.ifnd ?_ ?_) <;> intro e3
      · exact Ret.ret (tells_false.2 fun h => e3 ((h.2.2.2.1 0 hi).1 rfl).1)
      refine Ret.atN hiR (Ret.ifnd ?_ ?_) <;> intro e4
      · refine Ret.ret (tells_false.2 fun h => e4 ?_)
        have := ((h.2.2.2.1 0 hi).1 rfl).2
        rw [List.getElem?_eq_getElem (by omega)] at this
        exact Option.some.inj this
      refine Ret.mustN ?_ (hn () (upto_succ hI fun _ => ⟨⟨fun _ => ⟨e3, by rw [List.getElem?_eq_getElem (by omega)]; exact congrArg some e4⟩, fun h => by omega⟩, e2, e1⟩))
      omega
    · refine Ret.must ?_ ?_
      · omega
      refine Ret.atN hi (Ret.call (spec_l01In _ _ _ _ _) (Ret.ifnc ?_ ?_)) <;> intro e3
      · exact Ret.ret (tells_false.2 fun h => e3 ((h.2.2.2.1 i hi).2 (by omega)))
      · exact hn () (upto_succ hI fun _ => ⟨⟨fun h => by omega, fun _ => e3⟩, e2, e1⟩)
  intro u next hI
  dsimp only
  rw [len_wrap1 hN hl]
  refine Ret.mustN ?_ ?_
  · omega
  have hsl := hw.2.2.2
  refine Ret.up w.2.2.2.1.length (fun i _ => ∀ j, j < i → ∀ h : j < w.2.2.2.1.length, BtwP 0 ((w.1.length : Int) - 1) w.2.2.2.1[j]) (by omega) (by omega) upto_zero ?_ ?_
  · intro i u next hi hJ hn
    dsimp only
    refine Ret.must ?_ ?_
    · omega
    refine Ret.atN hi (Ret.call (spec_l01In _ _ _ _ _) (Ret.ifnc ?_ ?_)) <;> intro e1
    · exact Ret.ret (tells_false.2 fun h => e1 (h.2.2.2.2.2.2.2 _ (List.getElem_mem hi)))
    · exact hn () (upto_succ hJ fun _ => e1)
  · intro u next hJ
    dsimp only
    refine Ret.mustN ?_ (Ret.ret (tells_true.2 ⟨⟨by omega, by omega⟩, hR, hC, fun j hj => (hI j hj hj).1, forall_mem_iff.2 fun j hj => (hI j (by omega) (by omega)).2.1, forall_mem_iff.2 fun j hj => (hI j (by omega) (by omega)).2.2, h4, forall_mem_iff.2 fun j hj => hJ j hj hj⟩))
    omega
theorem impl_IsBlock {b : DBlock} (hb : SmallB b) : F_impl_IsBlock N (b, u) = some (dec (BlockP b), ()) := by
  refine Ret.tells ?_
  unfold F_impl_IsBlock
  dsimp only
  refine Ret.call (impl_IsDesign hN hb.1 hb.2.1) (Ret.ifnc ?_ ?_) <;> intro hD
  · exact Ret.ret (tells_false.2 fun h => hD h.1)
  refine Ret.ifnd ?_ ?_ <;> intro hl
  · exact Ret.ret (tells_false.2 fun h => hl (by rw [h.2.1]))
  have hf := few_of hD
  have h30 := hD.2.1.1.2.1
  have hl' : b.2.2.1.length = b.2.1.2.1.length := by omega
  refine Ret.guard3' ⟨by omega, by unfold lim; omega, rfl⟩ ?_
  refine Ret.call (impl_places hN hf) ?_
  have hlen := placesL_len hf
  have hnet : ∀ p ∈ placesL b.2.1, BtwP 0 ((b.2.2.1.length : Int) - 1) p.2.2.1 := by
    intro p hp
    rw [hl']
    rcases List.mem_append.1 hp with hp | hp
    · obtain ⟨q, hq, hpq⟩ := List.mem_flatten.1 hp
      obtain ⟨i, hi, rfl⟩ := List.mem_mapIdx.1 hq
      obtain ⟨k, hk, rfl⟩ := List.mem_mapIdx.1 hpq
      exact (hD.2.2.1.1 _ (List.getElem_mem hi)).2.2 _ (List.getElem_mem hk)
    · obtain ⟨i, hi, rfl⟩ := List.mem_mapIdx.1 hp
      exact (hD.2.2.1.2 _ (List.getElem_mem hi)).2
  have hsc : ∀ k, sinkCount b.2.1 k = (placesL b.2.1).countP (isSink k) := fun _ => rfl
  unfold BlockP
  simp only [hsc]
  generalize placesL b.2.1 = l at *
  refine Ret.up l.length (fun i s => CountsL b.2.2.1.length (fun k => (l.take i).countP (isSink (k : Int))) s.1) (by omega) (by omega) (by simpa using CountsL.zero b.2.2.1.length (by simp)) ?_ ?_
  · rintro i ⟨s, v⟩ next hi hC hn
    have hnt := hnet _ (List.getElem_mem hi)
    have hbd : ∀ k : Nat, (l.take i).countP (isSink (k : Int)) < 4000000 := fun k => countP_take_le l i _ (by omega)
    dsimp only at hC ⊢
    refine Ret.must ?_ ?_
    · omega
    refine Ret.guardI hi (Ret.get hi ?_)
    simp only [Int.toNat_natCast]
    have hk : ∀ k : Nat, isSink (k : Int) l[i] = (decide (l[i].2.2.1 = (k : Int)) && !l[i].2.2.2.1) := fun _ => rfl
    refine Ret.bif ?_ ?_ <;> intro e1
    · refine Ret.incr hC hnt.1 (by have := hnt.2; omega) hbd (fun s' => next (IntKind.i64.wrap ((i : Int) + 1), s', ())) fun s' hs' => ?_
      refine hn (s', ()) (hs'.congr fun k _ => ?_)
      rw [countP_take_succ hi, hk, e1, Bool.and_true]
      congr 1
      by_cases h : (k : Int) = l[i].2.2.1
      · rw [if_pos h, if_pos (by simp [h])]
      · rw [if_neg h, if_neg (by simp; exact fun e => h e.symm)]
    · refine hn (s, ()) (hC.congr fun k _ => ?_)
      rw [countP_take_succ hi, hk, e1, Bool.and_false, if_neg (by simp)]; rfl
  rintro ⟨s, v⟩ next hC
  dsimp only at hC ⊢
  refine Ret.mustN ?_ ?_
  · omega
  rw [List.take_length] at hC
  refine Ret.up b.2.2.1.length (fun i _ => ∀ j, j < i → ∀ h : j < b.2.2.1.length, WireP b.2.2.1[j] ((l.countP (isSink (j : Int)) : Nat) : Int)) (by omega) (by omega) upto_zero ?_ ?_
  · intro i u next hi hI hn
    have his : i < s.length := by rw [hC.1]; exact hi
    dsimp only
    refine Ret.must ?_ ?_
    · omega
    refine Ret.atN hi (Ret.guardI his (Ret.get his ?_))
    simp only [Int.toNat_natCast]
    rw [hC.2 i his]
    refine Ret.call (impl_IsWire hN (hb.2.2.2 _ (List.getElem_mem hi)) _) (Ret.ifnc ?_ ?_) <;> intro e1
    · exact Ret.ret (tells_false.2 fun h => e1 (h.2.2 i hi))
    · exact hn () (upto_succ hI fun _ => e1)
  · intro u next hI
    dsimp only
    refine Ret.mustN ?_ (Ret.ret (tells_true.2 ⟨hD, hl', fun k hk => hI k hk hk⟩))
    omega
theorem spec_IsBlock {b : DBlock} (hb : SmallB b) : F_spec_IsBlock N (b, u) = some (dec (BlockP b), ()) := by
  refine Ret.tells ?_
  unfold F_spec_IsBlock
  dsimp only
  refine Ret.call (spec_IsDesign hN hb.1 hb.2.1) (Ret.ifnc ?_ ?_) <;> intro hD
  · exact Ret.ret (tells_false.2 fun h => hD h.1)
  refine Ret.ifnd ?_ ?_ <;> intro hl
  · exact Ret.ret (tells_false.2 fun h => hl (by rw [h.2.1]))
  have hf := few_of hD
  have h30 := hD.2.1.1.2.1
  have hl' : b.2.2.1.length = b.2.1.2.1.length := by omega
  refine Ret.up b.2.2.1.length (fun i _ => ∀ j, j < i → ∀ h : j < b.2.2.1.length, WireP b.2.2.1[j] (sinkCount b.2.1 (j : Int))) (by omega) (by omega) upto_zero ?_ ?_
  · intro i u next hi hI hn
    dsimp only
    refine Ret.must ?_ ?_
    · omega
    refine Ret.atN hi (Ret.call (spec_l05Sinks hN hf _) ?_)
    dsimp only
    rw [sinksL_len]
    refine Ret.call (spec_IsWire hN (hb.2.2.2 _ (List.getElem_mem hi)) _) (Ret.ifnc ?_ ?_) <;> intro e1
    · exact Ret.ret (tells_false.2 fun h => e1 (h.2.2 i hi))
    · exact hn () (upto_succ hI fun _ => e1)
  · intro u next hI
    dsimp only
    refine Ret.mustN ?_ (Ret.ret (tells_true.2 ⟨hD, hl', fun k hk => hI k hk hk⟩))
    omega
end
end Go.Proofs.YtbdokiecpmhjmaaGreatDoor
