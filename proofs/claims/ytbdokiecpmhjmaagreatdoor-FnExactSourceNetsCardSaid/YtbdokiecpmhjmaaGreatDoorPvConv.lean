/- From data to what is known of cells, and back. No condition of its own. -/
import Derived.Test.YtbdokiecpmhjmaaGreatDoorPvRel
namespace Go.Proofs.YtbdokiecpmhjmaaGreatDoor
set_option linter.unusedSimpArgs false
set_option linter.unusedVariables false
open Go.RowKit

theorem Ty.acs_rc : ∀ (τ : Ty) {w : World} {ok : Nat → Prop} {G : GM} {us : List Value} {x : τ.den}, τ.rp w ok us x → RCs w ok G (τ.acs x) us
  | .int _, _, _, _, _, _, h => by obtain ⟨rfl, h⟩ := h; exact RCs.cons ⟨rfl, h⟩ RCs.nil
  | .bool, _, _, _, _, _, h => by rw [show _ = _ from h]; exact RCs.cons rfl RCs.nil
  | .str, _, _, _, _, _, h => by obtain ⟨rfl, h⟩ := h; exact RCs.cons ⟨rfl, h⟩ RCs.nil
  | .slice e, _, _, _, _, _, h => by
    have h' := h
    obtain ⟨A, cap, rfl, _⟩ := h'
    exact RCs.cons h RCs.nil
  | .ptr e, _, _, _, us, x, h => by
    have hl := Ty.rp_len _ h
    match us, hl, h with
    | [v], _, h => exact RCs.cons h RCs.nil
  | .agg t, _, _, _, _, _, h => t.acs_rc h
  | .nil, _, _, _, _, _, h => by rw [show _ = _ from h]; exact RCs.nil
  | .pair a b, _, _, _, _, _, h => by
    obtain ⟨c1, c2, rfl, h1, h2⟩ := h
    exact (a.acs_rc h1).append (b.acs_rc h2)
  | .clo g t, _, _, _, us, x, h => by
    have hl := Ty.rp_len _ h
    match us, hl, h with
    | [v], _, h => exact RCs.cons h RCs.nil

/-- The value of so many cells. -/
def pack1 (τ : Ty) (cs : List Value) : Value := if τ.isAgg then .agg cs.toArray else cs.headD undef
theorem Ty.av_rv (τ : Ty) {w : World} {ok : Nat → Prop} {G : GM} {us : List Value} {x : τ.den} (h : τ.rp w ok us x) (hp : ∀ a b, τ ≠ .pair a b) (hn : τ ≠ .nil) : RV w ok G (τ.av x) (pack1 τ us) := by
  have hr := τ.acs_rc (G := G) h
  cases τ with
  | agg t => exact ⟨us, rfl, hr⟩
  | nil => exact absurd rfl hn
  | pair a b => exact absurd rfl (hp a b)
  | int k => obtain ⟨v, rfl, hv⟩ := hr.one; exact hv
  | bool => obtain ⟨v, rfl, hv⟩ := hr.one; exact hv
  | str => obtain ⟨v, rfl, hv⟩ := hr.one; exact hv
  | slice e => obtain ⟨v, rfl, hv⟩ := hr.one; exact hv
  | ptr e => obtain ⟨v, rfl, hv⟩ := hr.one; exact hv
  | clo g t => obtain ⟨v, rfl, hv⟩ := hr.one; exact hv

theorem sub_get {α : Type} (l : List α) (o n j : Nat) : (sub l o n)[j]? = if j < n then l[o + j]? else none := by
  simp [sub, List.getElem?_take, List.getElem?_drop]
theorem CellsAt.sub {w : World} {b o : Nat} {us : List Value} (h : CellsAt w b o us) (off n : Nat) : CellsAt w b (o + off) (sub us off n) := by
  intro j u hu
  rw [sub_get] at hu
  split at hu
  · have := h _ u hu
    rw [show o + off + j = o + (off + j) by omega]
    exact this
  · cases hu
theorem cell_of_row {w : World} {b : Nat} {cur : Array Value} {t : TypeId} (h : w.heap[b]? = some (.cells cur t (0, 0))) (o : Nat) : w.cell? ⟨b, o, none⟩ = cur[o]? := by
  simp [World.cell?, h]
theorem frozen_of_row {w : World} {b : Nat} {cur : Array Value} {t : TypeId} (h : w.heap[b]? = some (.cells cur t (0, 0))) (o : Nat) : w.frozen? ⟨b, o, none⟩ = false := by
  simp [World.frozen?, h]

theorem bif_some' {α : Type} {b : Bool} {x : Option α} {r : α} (h : (bif b then x else none) = some r) : b = true ∧ x = some r := by
  cases b
  · cases h
  · exact ⟨rfl, h⟩
/-- Data is read out of cells: out of what nobody writes, and out of the call's own memory as far as 'h' says. -/
theorem Ty.ofAcs_rp (h : List (Nat × Ob)) {w : World} {ok okR : Nat → Prop} {G : GM} (hm : ∀ b, ok b → okR b)
    (Hob : ∀ id gh, G id = some gh → (nth h id (0, .gone)).2 ≠ .gone → ObR w ok G gh (nth h id (0, .gone)).2 ∧ ∀ b, (nth h id (0, .gone)).2.uses gh b → okR b) :
    ∀ (τ : Ty) (cs : List AC) (vs : List Value) (x : τ.den), τ.ofAcs h cs = some x → RCs w ok G cs vs → τ.rp w okR vs x := by
  intro τ
  induction τ with
  | int k =>
    intro cs vs x hx hr
    replace hx : ofInt k cs = some x := hx
    unfold ofInt at hx
    split at hx
    · rename_i k' n
      obtain ⟨v, rfl, hv⟩ := hr.one
      by_cases hk : k' = k
      · subst hk
        simp at hx
        subst hx
        obtain ⟨rfl, hw⟩ := hv
        exact ⟨rfl, hw⟩
      · simp [hk] at hx
    · cases hx
  | bool =>
    intro cs vs x hx hr
    replace hx : ofBool cs = some x := hx
    unfold ofBool at hx
    split at hx
    · obtain ⟨v, rfl, hv⟩ := hr.one
      cases hx
      obtain rfl : v = _ := hv
      rfl
    · cases hx
  | str =>
    intro cs vs x hx hr
    replace hx : ofStr cs = some x := hx
    unfold ofStr at hx
    split at hx
    · obtain ⟨v, rfl, hv⟩ := hr.one
      cases hx
      obtain ⟨rfl, hw⟩ := hv
      exact ⟨rfl, hw⟩
    · cases hx
  | slice e _ =>
    intro cs vs x hx hr
    replace hx : ofSlice h e cs = some x := hx
    unfold ofSlice at hx
    split at hx
    · obtain ⟨v, rfl, hv⟩ := hr.one
      obtain ⟨rfl, rfl⟩ := Ty.castL_eq hx
      exact Ty.rp_keep (.slice _) hv (fun _ _ => rfl) hm
    · obtain ⟨v, rfl, hv⟩ := hr.one
      cases hx
      obtain rfl : v = _ := hv
      exact ⟨none, 0, rfl, Nat.le_refl _, by simp [maxLen], fun h0 => absurd h0 (by simp)⟩
    · rename_i id
      obtain ⟨v, rfl, gh, hg, rfl⟩ := hr.one
      split at hx
      · rename_i e' xs ho
        obtain ⟨rfl, rfl⟩ := Ty.castL_eq hx
        obtain ⟨h1, h2⟩ := Hob id gh hg (by rw [ho]; simp)
        rw [ho] at h1 h2
        rcases h1 with ⟨_, h3, rfl⟩ | ⟨b, cap, cur, t, hb, h3, h4, h5, h6, h7, h8⟩
        · rw [h3]
          exact ⟨none, 0, rfl, Nat.le_refl _, by simp [maxLen], fun h0 => absurd h0 (by simp)⟩
        · rw [h3]
          refine ⟨some ⟨b, 0, none⟩, cap, rfl, h5, h6, fun _ => ⟨b, 0, rfl, h2 b hb, fun i hi => ?_⟩⟩
          obtain ⟨us, hr, hu⟩ := h8 i hi
          refine ⟨us, Ty.rp_keep _ hr (fun _ _ => rfl) hm, fun j u hj => ?_⟩
          rw [cell_of_row h4, Nat.zero_add]
          exact hu j u hj
      · rename_i e' xs ho
        obtain ⟨rfl, rfl⟩ := Ty.castL_eq hx
        obtain ⟨h1, h2⟩ := Hob id gh hg (by rw [ho]; simp)
        rw [ho] at h1 h2
        replace h2 : ∀ b, gh.has b → okR b := h2
        rcases h1.1 with ⟨_, h3, rfl⟩ | ⟨b, cap, cur, t, hb, h3, h4, h5, h6, h7, h8⟩
        · rw [h3]
          exact ⟨none, 0, rfl, Nat.le_refl _, by simp [maxLen], fun h0 => absurd h0 (by simp)⟩
        · rw [h3]
          refine ⟨some ⟨b, 0, none⟩, cap, rfl, h5, h6, fun _ => ⟨b, 0, rfl, h2 b (.inl hb), fun i hi => ?_⟩⟩
          obtain ⟨us, hr, hu⟩ := h8 i hi
          refine ⟨us, Ty.rp_keep _ hr (fun _ _ => rfl) (fun b' h => h2 b' (.inr h)), fun j u hj => ?_⟩
          rw [cell_of_row h4, Nat.zero_add]
          exact hu j u hj
      · cases hx
    · cases hx
  | ptr e ih =>
    intro cs vs x hx hr
    replace hx : ofPtr h e (fun ds => e.ofAcs h ds) cs = some x := hx
    unfold ofPtr at hx
    split at hx
    · obtain ⟨v, rfl, hv⟩ := hr.one
      obtain ⟨rfl, rfl⟩ := Ty.castO_eq hx
      exact Ty.rp_keep (.ptr _) hv (fun _ _ => rfl) hm
    · obtain ⟨v, rfl, hv⟩ := hr.one
      cases hx
      obtain rfl : v = _ := hv
      rfl
    · rename_i id off
      obtain ⟨v, rfl, gh, b, hg, hb, rfl⟩ := hr.one
      split at hx
      · rename_i ds ho
        obtain ⟨y, hy, rfl⟩ := Option.map_eq_some_iff.1 hx
        obtain ⟨h1, h2⟩ := Hob id gh hg (by rw [ho]; simp)
        rw [ho] at h1 h2
        obtain ⟨b', us, t, hb', _, h4, h5⟩ := h1
        obtain rfl : b = b' := by rw [hb] at hb'; exact Option.some.inj hb'
        refine ⟨b, off, _, rfl, h2 b hb, ih _ _ y hy (h5.sub off e.sz), ?_⟩
        have hc : CellsAt w b 0 us := fun j u hj => by rw [cell_of_row h4]; simpa using hj
        have := hc.sub off e.sz
        rwa [Nat.zero_add] at this
      · cases hx
    · rename_i e' x' off
      obtain ⟨v, rfl, b, o, us, rfl, hb, hr', hc⟩ := hr.one
      obtain ⟨y, hy, rfl⟩ := Option.map_eq_some_iff.1 hx
      exact ⟨b, o + off, _, rfl, hm b hb, ih _ _ y hy ((e'.acs_rc hr').sub off e.sz), hc.sub off e.sz⟩
    · cases hx
  | agg t ih => exact fun cs vs x hx hr => ih cs vs x hx hr
  | nil =>
    intro cs vs x hx hr
    replace hx : ofNil cs = some x := hx
    unfold ofNil at hx
    split at hx
    · exact List.eq_nil_of_length_eq_zero hr.1.symm
    · cases hx
  | pair a b iha ihb =>
    intro cs vs x hx hr
    replace hx : both (a.ofAcs h (cs.take a.sz)) (b.ofAcs h (cs.drop a.sz)) = some x := hx
    unfold both at hx
    split at hx
    · rename_i y z hy hz
      cases hx
      exact ⟨_, _, (List.take_append_drop a.sz vs).symm, iha _ _ y hy (hr.take _), ihb _ _ z hz (hr.drop _)⟩
    · cases hx
  | clo g t _ =>
    intro cs vs x hx hr
    replace hx : ofClo g t cs = some x := hx
    unfold ofClo at hx
    split at hx
    · rename_i g' t' y
      obtain ⟨v, rfl, hv⟩ := hr.one
      obtain ⟨hg, hx⟩ := bif_some' hx
      obtain rfl := Nat.eq_of_beq_eq_true hg
      obtain ⟨rfl, rfl⟩ := Ty.castD_eq hx
      exact Ty.rp_keep (.clo _ _) hv (fun _ _ => rfl) hm
    · cases hx
/-- Out of what nobody writes. -/
theorem Ty.ofAcs_nil {w : World} {ok : Nat → Prop} {G : GM} {τ : Ty} {cs : List AC} {vs : List Value} {x : τ.den} (hx : τ.ofAcs [] cs = some x) (hr : RCs w ok G cs vs) : τ.rp w ok vs x :=
  Ty.ofAcs_rp [] (okR := ok) (fun _ h => h) (fun id gh _ hn => absurd rfl hn) τ cs vs x hx hr

/-- A row of the call's own, read as data. -/
theorem row_slc {w : World} {ok okR : Nat → Prop} {G : GM} {gh : Gh} {e : Ty} {xs : List e.den} (hm : ∀ b, ok b → okR b) (h : ObR w ok G gh (.row e xs)) (h2 : ∀ b, gh.blk = some b → okR b) : (Ty.slice e).rp w okR [gh.hdr] xs := by
  rcases h with ⟨_, h3, rfl⟩ | ⟨b, cap, cur, t, hb, h3, h4, h5, h6, h7, h8⟩
  · rw [h3]
    exact ⟨none, 0, rfl, Nat.le_refl _, by simp [maxLen], fun h0 => absurd h0 (by simp)⟩
  · rw [h3]
    refine ⟨some ⟨b, 0, none⟩, cap, rfl, h5, h6, fun _ => ⟨b, 0, rfl, h2 b hb, fun i hi => ?_⟩⟩
    obtain ⟨us, hr, hu⟩ := h8 i hi
    refine ⟨us, Ty.rp_keep _ hr (fun _ _ => rfl) hm, fun j u hj => ?_⟩
    rw [cell_of_row h4, Nat.zero_add]
    exact hu j u hj
theorem drow_slc {w : World} {ok okR : Nat → Prop} {G : GM} {gh : Gh} {e : Ty} {xs : List e.den} (h : ObR w ok G gh (.drow e xs)) (h2 : ∀ b, gh.has b → okR b) : (Ty.slice e).rp w okR [gh.hdr] xs := by
  rcases h.1 with ⟨_, h3, rfl⟩ | ⟨b, cap, cur, t, hb, h3, h4, h5, h6, h7, h8⟩
  · rw [h3]
    exact ⟨none, 0, rfl, Nat.le_refl _, by simp [maxLen], fun h0 => absurd h0 (by simp)⟩
  · rw [h3]
    refine ⟨some ⟨b, 0, none⟩, cap, rfl, h5, h6, fun _ => ⟨b, 0, rfl, h2 b (.inl hb), fun i hi => ?_⟩⟩
    obtain ⟨us, hr, hu⟩ := h8 i hi
    refine ⟨us, Ty.rp_keep _ hr (fun _ _ => rfl) (fun b' h => h2 b' (.inr h)), fun j u hj => ?_⟩
    rw [cell_of_row h4, Nat.zero_add]
    exact hu j u hj
/-- No memory in it: where it lies makes no difference. -/
theorem Ty.rp_flat : ∀ (τ : Ty) {w w' : World} {ok ok' : Nat → Prop} {cs : List Value} {x : τ.den}, τ.flat = true → τ.rp w ok cs x → τ.rp w' ok' cs x
  | .int _, _, _, _, _, _, _, _, h => h
  | .bool, _, _, _, _, _, _, _, h => h
  | .str, _, _, _, _, _, _, _, h => h
  | .slice _, _, _, _, _, _, _, hf, _ => by cases hf
  | .ptr _, _, _, _, _, _, _, hf, _ => by cases hf
  | .agg t, _, _, _, _, _, _, hf, h => t.rp_flat hf h
  | .nil, _, _, _, _, _, _, _, h => h
  | .clo _ _, _, _, _, _, _, _, hf, _ => by cases hf
  | .pair a b, _, _, _, _, _, _, hf, h => by
    obtain ⟨c1, c2, rfl, h1, h2⟩ := h
    simp only [Ty.flat, Bool.and_eq_true] at hf
    exact ⟨c1, c2, rfl, a.rp_flat hf.1 h1, b.rp_flat hf.2 h2⟩
end Go.Proofs.YtbdokiecpmhjmaaGreatDoor
