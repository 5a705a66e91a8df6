/- A function's contract out of its text reckoned on plain data. No condition of its own. -/
import Derived.Test.YtbdokiecpmhjmaaGreatDoorPvMain
namespace Go.Proofs.YtbdokiecpmhjmaaGreatDoor
set_option linter.unusedSimpArgs false
set_option linter.unusedVariables false
open Go.RowKit

section
variable {P : Program} {C : Ctx} {N : Nat} {H : Hints} {Pre : World → Prop}

/-- One cell goes over into one cell. -/
def Cell (h : List (Nat × Ob)) (c d : AC) : Prop := ∃ (τ : Ty) (y : τ.den), τ.ofAcs h [c] = some y ∧ τ.acs y = [d]
theorem Cell.slc {h : List (Nat × Ob)} {e : Ty} {xs : List e.den} {d : AC} (H : Cell h (.slc e xs) d) : d = .slc e xs := by
  obtain ⟨τ, y, h1, h2⟩ := H
  induction τ with
  | slice e' _ =>
    replace h1 : Ty.castL (b := e') xs = some y := h1
    obtain ⟨rfl, rfl⟩ := Ty.castL_eq h1
    simpa [Ty.acs] using h2.symm
  | agg t ih => exact ih y h1 h2
  | clo g t _ => cases h1
  | int k => cases h1
  | bool => cases h1
  | str => cases h1
  | ptr e _ => cases h1
  | nil => cases h1
  | pair a b iha ihb =>
    replace h1 : both (a.ofAcs h ([AC.slc e xs].take a.sz)) (b.ofAcs h ([AC.slc e xs].drop a.sz)) = some y := h1
    unfold both at h1
    split at h1
    · rename_i u v hu hv
      cases h1
      have hl := congrArg List.length h2
      replace h2 : a.acs u ++ b.acs v = [d] := h2
      rcases Nat.eq_zero_or_pos a.sz with h0 | h0
      · have : a.acs u = [] := List.eq_nil_of_length_eq_zero (by rw [acs_len, h0])
        rw [this, List.nil_append] at h2
        rw [h0] at hv
        exact ihb v hv h2
      · have hb : b.acs v = [] := by
          have : (a.acs u ++ b.acs v).length = 1 := by rw [h2]; rfl
          rw [List.length_append, acs_len] at this
          exact List.eq_nil_of_length_eq_zero (by omega)
        rw [hb, List.append_nil] at h2
        have ht : ([AC.slc e xs].take a.sz) = [AC.slc e xs] := List.take_of_length_le (by simp; omega)
        rw [ht] at hu
        exact iha u hu h2
    · cases h1
theorem ofAcs_cells (h : List (Nat × Ob)) : ∀ (τ : Ty) (cs : List AC) (x : τ.den), τ.ofAcs h cs = some x → cs.length = τ.sz ∧ ∀ (i : Nat) (c d : AC), cs[i]? = some c → (τ.acs x)[i]? = some d → Cell h c d := by
  have base : ∀ (τ : Ty) (cs : List AC) (x : τ.den), τ.sz = 1 → cs.length = 1 → τ.ofAcs h cs = some x → cs.length = τ.sz ∧ ∀ (i : Nat) (c d : AC), cs[i]? = some c → (τ.acs x)[i]? = some d → Cell h c d := by
    intro τ cs x hs hc hx
    refine ⟨by rw [hs, hc], fun i c d hi hd => ?_⟩
    have hl := acs_len τ x
    rw [hs] at hl
    obtain ⟨c0, rfl⟩ := List.length_eq_one_iff.1 hc
    obtain ⟨d0, hd0⟩ := List.length_eq_one_iff.1 hl
    rw [hd0] at hd
    cases i with
    | zero =>
      simp at hi hd
      subst hi hd
      exact ⟨τ, x, hx, hd0⟩
    | succ i => simp at hi
  intro τ
  induction τ with
  | int k =>
    intro cs x hx
    refine base _ cs x rfl ?_ hx
    replace hx : ofInt k cs = some x := hx
    unfold ofInt at hx
    split at hx
    · rfl
    · cases hx
  | bool =>
    intro cs x hx
    refine base _ cs x rfl ?_ hx
    replace hx : ofBool cs = some x := hx
    unfold ofBool at hx
    split at hx
    · rfl
    · cases hx
  | str =>
    intro cs x hx
    refine base _ cs x rfl ?_ hx
    replace hx : ofStr cs = some x := hx
    unfold ofStr at hx
    split at hx
    · rfl
    · cases hx
  | slice e _ =>
    intro cs x hx
    refine base _ cs x rfl ?_ hx
    replace hx : ofSlice h e cs = some x := hx
    unfold ofSlice at hx
    split at hx <;> first | rfl | cases hx
  | ptr e _ =>
    intro cs x hx
    refine base _ cs x rfl ?_ hx
    replace hx : ofPtr h e (fun ds => e.ofAcs h ds) cs = some x := hx
    unfold ofPtr at hx
    split at hx <;> first | rfl | cases hx
  | clo g t _ =>
    intro cs x hx
    refine base _ cs x rfl ?_ hx
    replace hx : ofClo g t cs = some x := hx
    unfold ofClo at hx
    split at hx <;> first | rfl | cases hx
  | agg t ih => exact fun cs x hx => ih cs x hx
  | nil =>
    intro cs x hx
    replace hx : ofNil cs = some x := hx
    unfold ofNil at hx
    split at hx
    · exact ⟨rfl, fun i c d hi => by simp at hi⟩
    · cases hx
  | pair a b iha ihb =>
    intro cs x hx
    replace hx : both (a.ofAcs h (cs.take a.sz)) (b.ofAcs h (cs.drop a.sz)) = some x := hx
    unfold both at hx
    split at hx
    · rename_i y z hy hz
      cases hx
      obtain ⟨h1, h2⟩ := iha _ y hy
      obtain ⟨h3, h4⟩ := ihb _ z hz
      have hl : a.sz ≤ cs.length := by rw [List.length_take] at h1; omega
      rw [List.length_drop] at h3
      refine ⟨by show cs.length = a.sz + b.sz; omega, fun i c d hi hd => ?_⟩
      replace hd : (a.acs y ++ b.acs z)[i]? = some d := hd
      by_cases hlt : i < a.sz
      · rw [List.getElem?_append_left (by rw [acs_len]; exact hlt)] at hd
        exact h2 i c d (by rw [List.getElem?_take, if_pos hlt]; exact hi) hd
      · rw [List.getElem?_append_right (by rw [acs_len]; omega), acs_len] at hd
        exact h4 (i - a.sz) c d (by rw [List.getElem?_drop, show a.sz + (i - a.sz) = i by omega]; exact hi) hd
    · cases hx

theorem mem_dropIds : ∀ (ids : List Nat) (h : List (Nat × Ob)) (i : Nat), (nth (dropIds ids h) i (0, .gone)).2 ≠ .gone → i ∉ ids ∧ (nth (dropIds ids h) i (0, .gone)).2 = (nth h i (0, .gone)).2
  | [], h, i, hn => ⟨by simp, rfl⟩
  | id :: ids, h, i, hn => by
    unfold dropIds at hn ⊢
    obtain ⟨h1, h2⟩ := mem_dropIds ids _ i hn
    rw [h2] at hn ⊢
    rw [nth_eq, getElem?_setN] at hn ⊢
    split at hn
    · exact absurd rfl hn
    · rename_i hi
      rw [if_neg hi, nth_eq]
      refine ⟨?_, rfl⟩
      rintro hm
      rcases List.mem_cons.1 hm with rfl | hm
      · apply hn
        have : h.length ≤ i := Nat.le_of_not_lt fun hlt => hi ⟨rfl, hlt⟩
        rw [List.getElem?_eq_none this]
        rfl
      · exact h1 hm

theorem takeOwn_own {dp : Bool} {h : List (Nat × Ob)} {fs : List Bool} {id : Nat} {cs cs' : List AC} {ids : List Nat} (ht : takeOwn dp h (true :: fs) (.own id :: cs) = some (ids, cs')) :
    ∃ (e : Ty) (xs : List e.den) (ids0 : List Nat) (cs0 : List AC), (nth h id (0, .gone)).2 = mkRow dp e xs ∧ takeOwn dp h fs cs = some (ids0, cs0) ∧ ids0.contains id = false ∧ ids = id :: ids0 ∧ cs' = .slc e xs :: cs0 := by
  replace ht : (match (nth h id (0, .gone)).2, takeOwn dp h fs cs with | .row e xs, some (ids, cs') => bif ids.contains id || (dp && !e.flat) then none else some (id :: ids, .slc e xs :: cs') | .drow e xs, some (ids, cs') => bif ids.contains id || !(dp && !e.flat) then none else some (id :: ids, .slc e xs :: cs') | _, _ => none) = some (ids, cs') := ht
  split at ht
  · rename_i e xs ids0 cs0 hrow h0
    cases hcon : ids0.contains id with
    | true => rw [hcon] at ht; cases ht
    | false =>
      rw [hcon] at ht
      cases hd : dp && !e.flat with
      | true => rw [hd] at ht; cases ht
      | false =>
        rw [hd] at ht
        cases ht
        exact ⟨e, xs, ids0, cs0, by rw [hrow, mkRow, hd]; rfl, h0, hcon, rfl, rfl⟩
  · rename_i e xs ids0 cs0 hrow h0
    cases hcon : ids0.contains id with
    | true => rw [hcon] at ht; cases ht
    | false =>
      rw [hcon] at ht
      cases hd : dp && !e.flat with
      | false => rw [hd] at ht; cases ht
      | true =>
        rw [hd] at ht
        cases ht
        exact ⟨e, xs, ids0, cs0, by rw [hrow, mkRow, hd]; rfl, h0, hcon, rfl, rfl⟩
  · cases ht
theorem takeOwn_spec {dp : Bool} (h hd : List (Nat × Ob)) {w : World} {ok okR : Nat → Prop} {G G' : GM} (hm : ∀ b, ok b → okR b)
    (Hob : ∀ id gh, G id = some gh → (nth hd id (0, .gone)).2 ≠ .gone → ObR w ok G gh (nth hd id (0, .gone)).2 ∧ ∀ b, (nth hd id (0, .gone)).2.uses gh b → okR b) :
    ∀ (fs : List Bool) (cs : List AC) (ids : List Nat) (cs' ds : List AC) (vs : List Value) (k : Nat), takeOwn dp h fs cs = some (ids, cs') → ds.length = cs'.length → (∀ (i : Nat) (c d : AC), cs'[i]? = some c → ds[i]? = some d → Cell hd c d) → RCs w ok G cs vs →
      (∀ (j id : Nat), ids[j]? = some id → G' (k + j) = G id) → RCs w okR G' (ownAcs dp fs k ds).1 vs ∧ ids.Nodup ∧ (ownAcs dp fs k ds).2.length = ids.length ∧ (∀ (j id : Nat) (p : Nat × Ob), ids[j]? = some id → (ownAcs dp fs k ds).2[j]? = some p → p.2 = (nth h id (0, .gone)).2) ∧ (∀ id ∈ ids, ∃ gh, G id = some gh) := by
  have one : ∀ (c d : AC) (v : Value), Cell hd c d → RC w ok G c v → RC w okR G' d v := by
    intro c d v ⟨τ, y, h1, h2⟩ hc
    have hr := Ty.ofAcs_rp hd hm Hob τ [c] [v] y h1 (RCs.cons hc RCs.nil)
    have := τ.acs_rc (G := G') hr
    rw [h2] at this
    exact this.head
  have stay : ∀ (cs ds : List AC) (vs : List Value), ds.length = cs.length → (∀ (i : Nat) (c d : AC), cs[i]? = some c → ds[i]? = some d → Cell hd c d) → RCs w ok G cs vs → RCs w okR G' ds vs := by
    intro cs ds vs hl hc hr
    refine ⟨hl.trans hr.1, fun i d v hi hv => ?_⟩
    have hlt : i < cs.length := by rw [← hl]; exact (List.getElem?_eq_some_iff.1 hi).1
    exact one _ d v (hc i _ d (List.getElem?_eq_getElem hlt) hi) (hr.2 i _ v (List.getElem?_eq_getElem hlt) hv)
  intro fs
  induction fs with
  | nil =>
    intro cs ids cs' ds vs k ht hl hc hr hG
    have : takeOwn dp h [] cs = some ([], cs) := by cases cs <;> rfl
    rw [this] at ht
    cases ht
    rw [ownAcs_nil]
    exact ⟨stay cs ds vs hl hc hr, List.nodup_nil, rfl, fun j id p hj => by simp at hj, fun id hid => by cases hid⟩
  | cons b fs ih =>
    intro cs ids cs' ds vs k ht hl hc hr hG
    cases cs with
    | nil => cases b <;> cases ht
    | cons c cs =>
      cases b with
      | false =>
        replace ht : (match takeOwn dp h fs cs with | some (ids, cs') => some (ids, c :: cs') | none => none) = some (ids, cs') := ht
        split at ht
        · rename_i ids0 cs0 h0
          cases ht
          match ds, vs, hl, hr with
          | d :: ds, v :: vs, hl, hr =>
            obtain ⟨g1, g2⟩ := ih cs _ cs0 ds vs k h0 (by simpa using hl) (fun i c d hi hd => hc (i + 1) c d (by simpa using hi) (by simpa using hd)) hr.tail hG
            rw [ownAcs_other _ _ _ _ _ (.inl rfl)]
            exact ⟨RCs.cons (one c d v (hc 0 c d rfl rfl) hr.head) g1, g2⟩
          | [], _, hl, _ => simp at hl
          | _ :: _, [], _, hr => exact absurd hr.1 (by simp)
        · cases ht
      | true =>
        cases c with
        | own id =>
          obtain ⟨e, xs, ids0, cs0, hrow, h0, hcon, rfl, rfl⟩ := takeOwn_own ht
          match ds, vs, hl, hr with
          | d :: ds, v :: vs, hl, hr =>
            obtain rfl := (hc 0 _ d rfl rfl).slc
            obtain ⟨g1, g2, g3, g4, g5⟩ := ih cs ids0 cs0 ds vs (k + 1) h0 (by simpa using hl) (fun i c d hi hd => hc (i + 1) c d (by simpa using hi) (by simpa using hd)) hr.tail (fun j id' hj => by rw [show k + 1 + j = k + (j + 1) by omega]; exact hG (j + 1) id' (by simpa using hj))
            obtain ⟨gh, hg, hv⟩ := hr.head
            rw [ownAcs_slc]
            refine ⟨RCs.cons ⟨gh, by have := hG 0 id rfl; rw [Nat.add_zero] at this; rw [this]; exact hg, hv⟩ g1, List.nodup_cons.2 ⟨by simpa using hcon, g2⟩, by simp [g3], fun j id' p hj hp => ?_, fun id' hid => ?_⟩
            · cases j with
              | zero => simp at hj hp; subst hj hp; exact hrow.symm
              | succ j => exact g4 j id' p (by simpa using hj) (by simpa using hp)
            · rcases List.mem_cons.1 hid with rfl | hid
              · exact ⟨gh, hg⟩
              · exact g5 id' hid
          | [], _, hl, _ => simp at hl
          | _ :: _, [], _, hr => exact absurd hr.1 (by simp)
        | _ => cases ht

def resF (tmps : Array Value) : ResultVar → Sem Value
  | .tmp t => pure (tmps.getD t undef)
  | .cell a t => do loadVar t (← asAddr (tmps.getD a undef))
def packV : List Value → Value
  | [v] => v
  | vs => .tuple vs.toArray
theorem results_list (fn : Func) (tmps : Array Value) (w : World) (Vs : List Value) (h : (fn.results.toList.mapM (resF tmps)).run P w = .ok Vs w) : (results fn tmps).run P w = .ok (packV Vs) w := by
  have : results fn tmps = (do let vs ← fn.results.mapM (resF tmps); pure (if h : vs.size = 1 then vs[0] else .tuple vs)) := rfl
  rw [this, Array.mapM_eq_mapM_toList]
  simp only [Sem.run_bind, map_eq_pure_bind, bind_assoc, pure_bind, h, Result.andThen_ok, Sem.run_pure]
  rcases Vs with _ | ⟨v, _ | ⟨u, vs⟩⟩ <;> simp [packV]
/-- The results' values. -/
theorem resAVs_run {w0 : World} {ok0 : Nat → Prop} {fr : Nat → Value} {σ : Env} {a : Act} {w : World} {G : GM} (hR : Rel w0 ok0 fr σ a w G) : ∀ (rs : List ResultVar) (vs : List AV), resAVs P σ rs = some vs →
    ∃ Vs : List Value, (rs.mapM (resF a.tmps)).run P w = .ok Vs w ∧ Vs.length = vs.length ∧ ∀ (i : Nat) (v : AV) (V : Value), vs[i]? = some v → Vs[i]? = some V → RV w (imm w0 ok0 w G) G v V
  | [], vs, h => by
    cases h
    exact ⟨[], by simp, rfl, fun i v V hi => by simp at hi⟩
  | .tmp t :: rs, vs, h => by
    obtain ⟨us, hu, rfl⟩ := Option.map_eq_some_iff.1 h
    obtain ⟨Vs, h1, h2, h3⟩ := resAVs_run hR rs us hu
    refine ⟨a.tmps.getD t undef :: Vs, by simp only [List.mapM_cons, resF, Sem.run_bind, Sem.run_pure, Result.andThen_ok, h1], by simp [h2], fun i v V hv hV => ?_⟩
    cases i with
    | zero =>
      simp only [List.getElem?_cons_zero, Option.some.injEq] at hv hV
      subst hv hV
      exact hR.ev (.tmp t)
    | succ i => exact h3 i v V (by simpa using hv) (by simpa using hV)
  | .cell b t :: rs, vs, h => by
    simp only [resAVs] at h
    split at h
    · rename_i id off hb
      split at h
      · rename_i cs hob
        obtain ⟨v, d, ht, hk, hv⟩ := loadK_sound h
        obtain ⟨us, hu, rfl⟩ := Option.map_eq_some_iff.1 hk
        obtain ⟨Vs, h1, h2, h3⟩ := resAVs_run hR rs us hu
        have hev := hR.ev (.tmp b)
        simp only [Env.ev, hb] at hev
        obtain ⟨gh, blk, hg, hblk, he⟩ := hev
        have ho := ob_of hR hg
        rw [hob] at ho
        obtain ⟨blk', ws, ty, hb', _, hh, hr⟩ := ho
        obtain rfl : blk = blk' := by rw [hblk] at hb'; exact Option.some.inj hb'
        have hc : CellsAt w blk 0 ws := fun j u hj => by rw [cell_of_row hh]; simpa using hj
        obtain ⟨V, hV, hrv⟩ := loadV ht hv hr hc
        rw [Nat.zero_add] at hV
        replace he : a.tmps.getD b undef = .pointer (some ⟨blk, off, none⟩) := he
        refine ⟨V :: Vs, by simp only [List.mapM_cons, resF, Sem.run_bind, Sem.run_pure, Result.andThen_ok, he, asAddr, hV, h1], by simp [h2], fun i v' V' hv' hV' => ?_⟩
        cases i with
        | zero =>
          simp only [List.getElem?_cons_zero, Option.some.injEq] at hv' hV'
          subst hv' hV'
          exact hrv
        | succ i => exact h3 i v' V' (by simpa using hv') (by simpa using hV')
      · cases h
    · cases h

theorem res_packs {w : World} {ok : Nat → Prop} {G : GM} : ∀ (τ : Ty) (vs : List AV) (Vs : List Value), aggsOk τ vs = true → Vs.length = vs.length → (∀ (i : Nat) (v : AV) (V : Value), vs[i]? = some v → Vs[i]? = some V → RV w ok G v V) →
    (vs.flatMap AV.cells).any isBadC = false → ∃ us : List Value, RCs w ok G (vs.flatMap AV.cells) us ∧ packs τ us = Vs
  | .pair a b, v :: vs, [], _, hl, _, _ => by simp at hl
  | .pair a b, v :: vs, V :: Vs, h, hl, hr, hb => by
    simp only [aggsOk, Bool.and_eq_true, beq_iff_eq] at h
    obtain ⟨⟨⟨h1, h2⟩, h3⟩, h4⟩ := h
    have h2 := Nat.eq_of_beq_eq_true h2
    simp only [List.flatMap_cons, List.any_append, Bool.or_eq_false_iff] at hb
    obtain ⟨us, g1, g2⟩ := res_packs b vs Vs h4 (by simpa using hl) (fun i v V hv hV => hr (i + 1) v V (by simpa using hv) (by simpa using hV)) hb.2
    have hv := hr 0 v V rfl rfl
    have : ∃ u : List Value, RCs w ok G v.cells u ∧ V = pack1 a u := by
      cases v with
      | one c => exact ⟨[V], RCs.cons hv RCs.nil, by simp [pack1, ← h1, AV.isAgg]⟩
      | agg cs => obtain ⟨u, rfl, hu⟩ := hv; exact ⟨u, hu, by simp [pack1, ← h1, AV.isAgg]⟩
      | tup l => exact absurd hb.1 (by simp [AV.cells, isBadC])
    obtain ⟨u, hu, rfl⟩ := this
    refine ⟨u ++ us, by rw [List.flatMap_cons]; exact hu.append g1, ?_⟩
    have hul : u.length = a.sz := by rw [← hu.1, h2]
    simp only [packs]
    rw [← hul, List.take_left, List.drop_left, g2]
  | .pair _ _, [], _, h, _, _, _ => by cases h
  | .nil, [], Vs, _, hl, _, _ => ⟨[], RCs.nil, by
    have : Vs = [] := List.eq_nil_of_length_eq_zero hl
    rw [this]; rfl⟩
  | .nil, _ :: _, _, h, _, _, _ => by cases h
  | .int _, _, _, h, _, _, _ => by cases h
  | .bool, _, _, h, _, _, _ => by cases h
  | .str, _, _, h, _, _, _ => by cases h
  | .slice _, _, _, h, _, _, _ => by cases h
  | .ptr _, _, _, h, _, _, _ => by cases h
  | .agg _, _, _, h, _, _, _ => by cases h
  | .clo _ _, _, _, h, _, _, _ => by cases h

/-- What the call hands back. -/
theorem ret_sound {S : FnSpec} {fn : Func} {e : Exit} {σ : Env} {r : S.rs.den} (h : retK P S fn e σ = some r) (he : e = .normal ∨ e = .ret) {ok : Nat → Prop} {w0 w : World} {a : Act} {G : GM} {fr : Nat → Value} (hR : Rel w0 ok fr σ a w G) (hlow : ∀ b, ok b → b < w0.heap.size) :
    ∃ V, (results fn a.tmps).run P w = .ok V w ∧ ResOk S w0 ok w V r := by
  have h' : (match resAVs P σ fn.results.toList with
    | some vs => bif aggsOk S.rs vs && !(vs.flatMap AV.cells).any isBadC then
        match takeOwn S.deep σ.h S.own (vs.flatMap AV.cells) with
        | some (ids, cs) => S.rs.ofAcs (dropIds ids σ.h) cs
        | none => none
      else none
    | none => none) = some r := by rcases he with rfl | rfl <;> exact h
  split at h'
  · rename_i vs hvs
    obtain ⟨hag, h2⟩ := bif_some h'
    simp only [Bool.and_eq_true, Bool.not_eq_true'] at hag
    split at h2
    · rename_i ids cs htk
      obtain ⟨Vs, hrun, hlen, hrv⟩ := resAVs_run hR _ _ hvs
      obtain ⟨us, hus, hpk⟩ := res_packs S.rs vs Vs hag.1 hlen hrv hag.2
      obtain ⟨hl, hcell⟩ := ofAcs_cells (dropIds ids σ.h) S.rs cs r h2
      let G' : GM := fun k => (ids[k]?).bind G
      have hG' : ∀ k gh, G' k = some gh → ∃ id, ids[k]? = some id ∧ G id = some gh := fun k gh hg => by
        cases hk : ids[k]? with
        | none => simp [G', hk] at hg
        | some id => exact ⟨id, rfl, by simpa [G', hk] using hg⟩
      have hm : ∀ b, imm w0 ok w G b → imm w0 ok w G' b := fun b hb => ⟨hb.1, hb.2.1, fun k gh hg => by
        obtain ⟨id, _, hg'⟩ := hG' k gh hg
        exact hb.2.2 id gh hg'⟩
      have Hob : ∀ id gh, G id = some gh → (nth (dropIds ids σ.h) id (0, .gone)).2 ≠ .gone → ObR w (imm w0 ok w G) G gh (nth (dropIds ids σ.h) id (0, .gone)).2 ∧ ∀ b, (nth (dropIds ids σ.h) id (0, .gone)).2.uses gh b → imm w0 ok w G' b := by
        intro id gh hg hn
        obtain ⟨h3, h4⟩ := mem_dropIds ids σ.h id hn
        rw [h4]
        refine ⟨ob_of hR hg, fun b hbu => have hb := Ob.uses_has hbu; ⟨.inr (hR.st.low id gh b hg hb).1, (hR.st.low id gh b hg hb).2, fun k gh' hg' hb' => ?_⟩⟩
        obtain ⟨id', h5, h6⟩ := hG' k gh' hg'
        have := hR.st.inj id id' gh gh' b hg h6 hb hb'
        subst this
        exact h3 (List.mem_of_getElem? h5)
      obtain ⟨g1, g2, g3, g4, g5⟩ := takeOwn_spec σ.h (dropIds ids σ.h) (G' := G') hm Hob S.own _ ids cs (S.rs.acs r) us 0 htk (by rw [acs_len, hl]) hcell hus (fun j id hj => by simp [G', hj])
      refine ⟨packR S.rs us, ?_, G', us, rfl, g1, ⟨fun k gh hg => ?_, fun k k' gh gh' b e1 e2 e3 e4 => ?_, fun k gh b hg hb => ?_, hR.st.ext⟩⟩
      · rw [results_list fn a.tmps w Vs hrun, ← hpk]
        rfl
      · obtain ⟨id, h5, h6⟩ := hG' k gh hg
        have hk : k < (ownAcs S.deep S.own 0 (S.rs.acs r)).2.length := by rw [g3]; exact (List.getElem?_eq_some_iff.1 h5).1
        refine ⟨_, List.getElem?_eq_getElem hk, ?_⟩
        have h7 := g4 k id _ h5 (List.getElem?_eq_getElem hk)
        have h8 := ob_of hR h6
        obtain ⟨e', xs, h9⟩ := ownAcs_rows (dp := S.deep) S.own 0 (S.rs.acs r) _ (List.getElem_mem hk)
        rw [Env.ob, ← h7, h9] at h8
        rw [h9]
        rcases mkRow_or S.deep e' xs with hmk | hmk
        case inr => rw [hmk] at h8 ⊢; exact h8
        rw [hmk] at h8 ⊢
        rcases h8 with h8 | ⟨b, cap, cur, t, k1, k2, k3, k4, k5, k6, k7⟩
        · exact .inl h8
        · exact .inr ⟨b, cap, cur, t, k1, k2, k3, k4, k5, k6, fun i hi => by
            obtain ⟨ws, hw, hc⟩ := k7 i hi
            exact ⟨ws, Ty.rp_keep _ hw (fun _ _ => rfl) hm, hc⟩⟩
      · obtain ⟨id, h5, h6⟩ := hG' k gh e1
        obtain ⟨id', h7, h8⟩ := hG' k' gh' e2
        have := hR.st.inj id id' gh gh' b h6 h8 e3 e4
        subst this
        exact (List.getElem?_inj (List.getElem?_eq_some_iff.1 h5).1 g2).1 (h5.trans h7.symm)
      · obtain ⟨id, _, h6⟩ := hG' k gh hg
        exact hR.st.low id gh b h6 hb
    · cases h2
  · cases h'

theorem ArgsOk.len {w : World} {ok : Nat → Prop} : ∀ (τ : Ty) (vs : List Value) (x : τ.den), ArgsOk w ok τ vs x → (τ.avs x).length = vs.length
  | .pair a b, [], _, h => h.elim
  | .pair a b, _ :: vs, x, h => by simp [Ty.avs, ArgsOk.len b vs x.2 h.2]
  | .nil, [], _, _ => rfl
  | .nil, _ :: _, _, h => h.elim
  | .int _, [], _, h => h.elim
  | .int _, _ :: _, _, h => h.elim
  | .bool, [], _, h => h.elim
  | .bool, _ :: _, _, h => h.elim
  | .str, [], _, h => h.elim
  | .str, _ :: _, _, h => h.elim
  | .slice _, [], _, h => h.elim
  | .slice _, _ :: _, _, h => h.elim
  | .ptr _, [], _, h => h.elim
  | .ptr _, _ :: _, _, h => h.elim
  | .agg _, [], _, h => h.elim
  | .agg _, _ :: _, _, h => h.elim
  | .clo _ _, [], _, h => h.elim
  | .clo _ _, _ :: _, _, h => h.elim
theorem ArgsOk.rv {w : World} {ok ok' : Nat → Prop} {G : GM} (hm : ∀ b, ok b → ok' b) : ∀ (τ : Ty) (vs : List Value) (x : τ.den), properL τ = true → ArgsOk w ok τ vs x → ∀ (i : Nat) (p : AV) (v : Value), (τ.avs x)[i]? = some p → vs[i]? = some v → RV w ok' G p v
  | .pair a b, [], _, _, h, _, _, _, _, _ => h.elim
  | .pair a b, v :: vs, x, hp, h, i, p, u, hi, hu => by
    simp only [properL, Bool.and_eq_true] at hp
    cases i with
    | zero =>
      simp only [Ty.avs, List.getElem?_cons_zero, Option.some.injEq] at hi hu
      subst hi hu
      obtain ⟨⟨cs, rfl, hr⟩, _⟩ := h
      exact Ty.av_rv a (Ty.rp_keep a hr (fun _ _ => rfl) hm) (fun u v e => by subst e; cases hp.1) (fun e => by subst e; cases hp.1)
    | succ i => exact ArgsOk.rv hm b vs x.2 hp.2 h.2 i p u (by simpa [Ty.avs] using hi) (by simpa using hu)
  | .nil, _, _, _, _, i, p, v, hi, _ => by simp [Ty.avs] at hi
  | .int _, _, _, h, _, _, _, _, _, _ => by cases h
  | .bool, _, _, h, _, _, _, _, _, _ => by cases h
  | .str, _, _, h, _, _, _, _, _, _ => by cases h
  | .slice _, _, _, h, _, _, _, _, _, _ => by cases h
  | .ptr _, _, _, h, _, _, _, _, _, _ => by cases h
  | .agg _, _, _, h, _, _, _, _, _, _ => by cases h
  | .clo _ _, _, _, h, _, _, _, _, _, _ => by cases h

/-- A call gone through in place. -/
theorem findI_mem : ∀ {L : List InF} {f : FuncId} {x : InF}, findI L f = some x → x ∈ L ∧ x.fid = f
  | [], _, _, h => by cases h
  | y :: r, f, x, h => by
    unfold findI at h
    cases hb : Nat.beq y.fid f with
    | true => rw [hb] at h; cases h; exact ⟨by simp, Nat.eq_of_beq_eq_true hb⟩
    | false => rw [hb] at h; obtain ⟨h1, h2⟩ := findI_mem h; exact ⟨by simp [h1], h2⟩
theorem zipB_len : ∀ (t l : List (Nat × AV)), (zipB t l).length = t.length
  | [], _ => rfl
  | _ :: ps, [] => by simp [zipB, zipB_len ps []]
  | _ :: ps, _ :: qs => by simp [zipB, zipB_len ps qs]
theorem zipB_get : ∀ (t l : List (Nat × AV)) (i : Nat) (p : Nat × AV), (zipB t l)[i]? = some p → (∃ q, t[i]? = some q ∧ p.1 = q.1 + 1) ∧ (p.2 = .one .bad ∨ ∃ q, l[i]? = some q ∧ p.2 = q.2)
  | [], _, i, p, h => by simp [zipB] at h
  | a :: ps, [], 0, p, h => by simp [zipB] at h; subst h; exact ⟨⟨a, rfl, rfl⟩, .inl rfl⟩
  | a :: ps, [], i + 1, p, h => by
    obtain ⟨h1, h2⟩ := zipB_get ps [] i p (by simpa [zipB] using h)
    exact ⟨by simpa using h1, by simpa using h2⟩
  | a :: ps, b :: qs, 0, p, h => by simp [zipB] at h; subst h; exact ⟨⟨a, rfl, rfl⟩, .inr ⟨b, rfl, rfl⟩⟩
  | a :: ps, b :: qs, i + 1, p, h => by
    obtain ⟨h1, h2⟩ := zipB_get ps qs i p (by simpa [zipB] using h)
    exact ⟨by simpa using h1, by simpa using h2⟩
theorem frAbove_spec {n : Nat} {h : List (Nat × Ob)} (H : frAbove n h = true) {id : Nat} {p : Nat × Ob} {k : Nat} {l : List (Nat × AV)} (hp : h[id]? = some p) (hk : p.2 = .frame k l) : n < k := by
  have := List.all_eq_true.1 H p (List.mem_of_getElem? hp)
  rw [hk] at this
  simpa [Nat.blt_eq] using this
theorem res_one {w : World} {ok : Nat → Prop} {G : GM} {vs : List AV} {Vs : List Value} (hl : Vs.length = vs.length) (h : ∀ (i : Nat) (p : AV) (V : Value), vs[i]? = some p → Vs[i]? = some V → RV w ok G p V) : RV w ok G (resV vs) (packV Vs) := by
  have many : RV w ok G (.tup (vs.map fun v => (v.isAgg, v.cells))) (.tuple Vs.toArray) := by
    refine ⟨Vs, rfl, by simpa using hl, fun i p u hp hu => ?_⟩
    rw [List.getElem?_map] at hp
    obtain ⟨v, hv, rfl⟩ := Option.map_eq_some_iff.1 hp
    have hr := h i v u hv hu
    cases v with
    | one c => exact RCs.cons hr RCs.nil
    | agg cs => exact hr
    | tup l => exact RCs.cons trivial RCs.nil
  match vs, Vs, hl, h, many with
  | [v], [V], _, h, _ => exact h 0 v V rfl rfl
  | [], [], _, _, many => exact many
  | _ :: _ :: _, _ :: _ :: _, _, _, many => exact many
  | [], _ :: _, hl, _, _ => simp at hl
  | [_], [], hl, _, _ => simp at hl
  | [_], _ :: _ :: _, hl, _, _ => simp at hl
  | _ :: _ :: _, [], hl, _, _ => simp at hl
  | _ :: _ :: _, [_], hl, _, _ => simp at hl
theorem inl_ok {ρ : Type} {fns : CtxL} {L : List InF} {w0 : World} {ok0 : Nat → Prop} (hcalls : ∀ f k S, fns.find f k = some S → Sound P Pre f S ∧ Callable P f) (hpre : ∀ w, Ext w0 w → Pre w) (hlow : ∀ b, ok0 b → b < w0.heap.size)
    (hm : P.follows .mixedOrders = true) (hL : ∀ x ∈ L, P.funcs[x.fid]? = some x.fn ∧ Callable P x.fid) : ∀ n, InlOk (ρ := ρ) P w0 ok0 (inlK P fns N L n)
  | 0 => inlOk_none
  | n + 1 => by
    intro f vs σ0 K r h
    unfold inlK at h
    split at h
    case h_2 => cases h
    rename_i x hx
    obtain ⟨hxL, rfl⟩ := findI_mem hx
    obtain ⟨hfn, hcb⟩ := hL x hxL
    split at h
    case h_2 => cases h
    rename_i c hc
    have hF : Fr σ0 (dropS x vs σ0) := by unfold dropS; cases x.drop; exact Fr.refl _; exact Fr.dropT _ _
    have hRd : ∀ (fr : Nat → Value) (a : Act) (w : World) (G : GM), Rel w0 ok0 fr σ0 a w G → Rel w0 ok0 fr (dropS x vs σ0) a w G := fun fr a w G hR => by unfold dropS; cases x.drop; exact hR; exact hR.dropT _
    generalize dropS x vs σ0 = σ at h hF hRd
    obtain ⟨hab, h⟩ := bif_some h
    have hp : Place P ⟨fns, x.raw, [], []⟩ Pre w0 ok0 := ⟨hcalls, hpre, hlow, fun w _ => tabsAt_nil w⟩
    obtain ⟨e, σ1, g1, g2, g3⟩ := pev_sound (H := x.H) hp (inl_ok hcalls hpre hlow hm hL n) hm c 0 _ _ r h
    have he : e = .normal ∨ e = .ret := by cases e <;> first | exact .inl rfl | exact .inr rfl | cases g1
    have g1' : (match resAVs P σ1 x.fn.results.toList, nth σ1.h σ.h.length (0, .gone) with
      | some vs, (m, .frame k' l) => bif Nat.beq k' n && frAbove n (setN σ1.h σ.h.length (m + 1, .gone)) then K ((resV vs).mapC (AC.kill σ.h.length)) (Env.kill ⟨bif Nat.beq m 0 then σ.t else zipB σ.t l, setN σ1.h σ.h.length (m + 1, .gone)⟩ σ.h.length) else none
      | _, _ => none) = some r := by rcases he with rfl | rfl <;> exact g1
    clear g1
    split at g1'
    case h_2 => cases g1'
    rename_i vs' m k' l hvs hnth
    obtain ⟨hck, hK⟩ := bif_some g1'
    simp only [Bool.and_eq_true] at hck
    obtain ⟨hkn, hab'⟩ := hck
    obtain rfl : k' = n := Nat.eq_of_beq_eq_true hkn
    have hm0 : σ1.h[σ.h.length]? = some (m, .frame k' l) := by
      rw [nth_eq] at hnth
      cases hi : σ1.h[σ.h.length]? with
      | none => rw [hi] at hnth; cases hnth
      | some q => rw [hi] at hnth; exact congrArg some hnth
    have hlt1 : σ.h.length < σ1.h.length := (List.getElem?_eq_some_iff.1 hm0).1
    have hin : (inEntry k' x.fn vs σ).h[σ.h.length]? = some (0, .frame k' σ.t) := by simp [inEntry]
    have hsame : m = 0 → l = σ.t := fun hz => by
      have := (g2.h _ _ _ hin hm0).2 hz
      have := congrArg Prod.snd this
      injection this
    have hold : ∀ i, i < σ.h.length → (inEntry k' x.fn vs σ).h[i]? = σ.h[i]? := fun i hi => by simp [inEntry, List.getElem?_append_left hi]
    refine ⟨_, _, hK, ?_, hcb, fun fr a w G Vs hR0 hlen hrel => ?_⟩
    · refine hF.trans ?_
      refine Fr.trans (b := ⟨bif Nat.beq m 0 then σ.t else zipB σ.t l, setN σ1.h σ.h.length (m + 1, .gone)⟩) ⟨?_, ?_, fun i p p' hp hp' => ?_, fun i p p' hp hp' => ?_⟩ (Fr.kill _ _)
      · cases Nat.beq m 0
        · exact zipB_len _ _
        · rfl
      · simp only [length_setN]; omega
      · cases hb : Nat.beq m 0 with
        | true =>
          simp only [hb, cond_true] at hp'
          rw [hp] at hp'; cases hp'
          exact ⟨Nat.le_refl _, fun _ => rfl⟩
        | false =>
          simp only [hb, cond_false] at hp'
          obtain ⟨⟨q, hq, h1⟩, _⟩ := zipB_get _ _ i p' hp'
          rw [hp] at hq; cases hq
          exact ⟨by omega, fun e => by omega⟩
      · have hi : i < σ.h.length := (List.getElem?_eq_some_iff.1 hp).1
        simp only [getElem?_setN] at hp'
        rw [if_neg (fun e => by omega)] at hp'
        exact g2.h i p p' (by rw [hold i hi]; exact hp) hp'
    -- the callee's start
    have hR := hRd fr a w G hR0
    have hst1 : St w0 ok0 (σ.h ++ [(0, .frame k' σ.t)]) w G := by
      refine ⟨fun id gh hg => ?_, hR.st.inj, hR.st.low, hR.st.ext⟩
      obtain ⟨p, hp, ho⟩ := hR.st.ob id gh hg
      exact ⟨p, by rw [List.getElem?_append_left (List.getElem?_eq_some_iff.1 hp).1]; exact hp, ho⟩
    have hnone : G σ.h.length = none := by
      cases hg : G σ.h.length with
      | none => rfl
      | some gh =>
        obtain ⟨p, hp, _⟩ := hR.st.ob _ gh hg
        have := (List.getElem?_eq_some_iff.1 hp).1
        omega
    obtain ⟨G1, q1, q2, q3, q4⟩ := hst1.make (w' := w) (n := σ.h.length) (p := (0, .frame k' σ.t)) (by simp) hnone (.mk0 none (.func (.func 0) #[] a.tmps)) (Ext.refl w) (fun b hb => nomatch Gh.has0.1 hb) (fun G' hl _ => ⟨rfl, a.tmps.toList, by simp, by rw [hR.len]; simp, fun i p v hp hv => (hR.tmp i p v hp (by simpa using hv)).later hl⟩)
    let fr' : Nat → Value := fun j => if j = k' then .func (.func 0) #[] a.tmps else fr j
    have hfr' : fr' k' = .func (.func 0) #[] a.tmps := if_pos rfl
    have hRin : Rel w0 ok0 fr' (inEntry k' x.fn vs σ) { tmps := Vs.toArray ++ Array.replicate (x.fn.ntmps - Vs.toArray.size) undef, defers := [] } w G1 := by
      refine ⟨by simp [inEntry, hlen], fun i p v hp hv => ?_, rfl, q2, fun id p k l' hp hk => ?_⟩
      · simp only [inEntry, List.getElem?_map, Option.map_eq_some_iff] at hp
        obtain ⟨q, hq, rfl⟩ := hp
        by_cases hi : i < vs.length
        · rw [List.getElem?_append_left hi] at hq
          rw [Array.getElem?_append_left (by simpa [hlen] using hi)] at hv
          exact (hrel i q v hq (by simpa using hv)).later q3
        · rw [List.getElem?_append_right (by omega), List.getElem?_replicate] at hq
          rw [Array.getElem?_append_right (by simp [hlen]; omega), Array.getElem?_replicate] at hv
          split at hq
          · split at hv
            · cases hq; cases hv; rfl
            · cases hv
          · cases hq
      · simp only [inEntry] at hp
        rw [List.getElem?_append] at hp
        split at hp
        · have hgt := frAbove_spec hab hp hk
          obtain ⟨gh, h1, h2⟩ := hR.frm id p k l' hp hk
          refine ⟨gh, q3.old id gh h1, ?_⟩
          rw [h2]
          exact (if_neg (by omega)).symm
        · rename_i hge
          have hz : id = σ.h.length := by
            have := (List.getElem?_eq_some_iff.1 hp).1
            simp at this; omega
          subst hz
          simp at hp
          subst hp
          cases hk
          exact ⟨_, q1, hfr'.symm⟩
    refine calls_of_wp hfn hc ?_
    refine g3 fr' _ w G1 _ hRin fun a' w' G' hR' => ?_
    obtain ⟨Vs', hrun, hlen', hrv⟩ := resAVs_run hR' _ _ hvs
    have hres := results_list x.fn a'.tmps w' Vs' hrun
    obtain ⟨gh, hg1, hg2⟩ := hR'.frm _ _ _ _ hm0 rfl
    rw [hfr'] at hg2
    have hob := ob_of hR' hg1
    rw [Env.ob, hnth] at hob
    obtain ⟨_, ts, ht1, ht2, ht3⟩ := hob
    have hts : ts = a.tmps.toList := by
      rw [hg2] at ht1
      have : a.tmps = ts.toArray := by injection ht1
      rw [this]
    subst hts
    let G3 : GM := fun id => if id = σ.h.length then none else G' id
    have g3n : ∀ id, id ≠ σ.h.length → G3 id = G' id := fun id h => if_neg h
    have old : ∀ id gh, G3 id = some gh → id ≠ σ.h.length ∧ G' id = some gh := fun id gh h => by
      by_cases hi : id = σ.h.length
      · subst hi; simp [G3] at h
      · exact ⟨hi, by rw [← g3n id hi]; exact h⟩
    have him : ∀ b, imm w0 ok0 w' G' b → imm w0 ok0 w' G3 b := fun b hb => ⟨hb.1, hb.2.1, fun id gh hg => hb.2.2 id gh (old id gh hg).2⟩
    have hrc : ∀ c v, RC w' (imm w0 ok0 w' G') G' c v → RC w' (imm w0 ok0 w' G3) G3 (c.kill σ.h.length) v := fun c v h => h.killed _ (fun _ _ => rfl) him fun i gh hi hg => by rw [g3n i hi]; exact hg
    have hRout : Rel w0 ok0 fr (Env.kill ⟨bif Nat.beq m 0 then σ.t else zipB σ.t l, setN σ1.h σ.h.length (m + 1, .gone)⟩ σ.h.length) a w' G3 := by
      refine ⟨?_, fun i p v hp hv => ?_, hR.dfs, ⟨fun id gh hg => ?_, fun i j g g' b h1 h2 => hR'.st.inj i j g g' b (old _ _ h1).2 (old _ _ h2).2, fun i g b h1 => hR'.st.low i g b (old _ _ h1).2, hR'.st.ext⟩, fun id p k l' hp hk => ?_⟩
      · rw [(kill_len _ _).1, ← hR.len]
        cases Nat.beq m 0
        · exact zipB_len _ _
        · rfl
      · obtain ⟨q, hq, hqe⟩ := killT _ _ i p hp
        rw [hqe]
        have hv' : a.tmps.toList[i]? = some v := by simpa using hv
        have hqv : RV w' (imm w0 ok0 w' G') G' q.2 v := by
          cases hb : Nat.beq m 0 with
          | true =>
            simp only [hb, cond_true] at hq
            rw [← hsame (Nat.eq_of_beq_eq_true hb)] at hq
            exact ht3 i q v hq hv'
          | false =>
            simp only [hb, cond_false] at hq
            rcases (zipB_get _ _ i q hq).2 with hbad | ⟨q', hq', he'⟩
            · rw [hbad]; exact trivial
            · rw [he']; exact ht3 i q' v hq' hv'
        exact hqv.mapC hrc
      · obtain ⟨hne, hg'⟩ := old id gh hg
        obtain ⟨p, hp, ho⟩ := hR'.st.ob id gh hg'
        obtain ⟨p', hp', he'⟩ := killH ⟨bif Nat.beq m 0 then σ.t else zipB σ.t l, setN σ1.h σ.h.length (m + 1, .gone)⟩ σ.h.length id p (by simp only [getElem?_setN]; rw [if_neg (fun e => hne e.1)]; exact hp)
        refine ⟨p', hp', ?_⟩
        rw [he']
        exact ho.mapC (fun _ _ => rfl) him (fun _ _ => rfl) hrc
      · obtain ⟨q, hq, hqe⟩ := killH' _ _ id p hp
        obtain ⟨l2, hl2⟩ := frame_mapC (hqe.symm.trans hk)
        have hgt := frAbove_spec hab' hq hl2
        simp only [getElem?_setN] at hq
        split at hq
        · cases hq; cases hl2
        · rename_i hne
          have hne' : id ≠ σ.h.length := fun e => hne ⟨e, hlt1⟩
          obtain ⟨gh', h1, h2⟩ := hR'.frm id q k l2 hq hl2
          refine ⟨gh', by rw [g3n id hne']; exact h1, ?_⟩
          rw [h2]
          exact if_neg (by omega)
    have hfin : ∃ V, (results x.fn a'.tmps).run P w' = .ok V w' ∧ ∃ V2, Ending.returned V = Ending.returned V2 ∧ ∃ G', Rel w0 ok0 fr (Env.kill ⟨bif Nat.beq m 0 then σ.t else zipB σ.t l, setN σ1.h σ.h.length (m + 1, .gone)⟩ σ.h.length) a w' G' ∧ RV w' (imm w0 ok0 w' G') G' ((resV vs').mapC (AC.kill σ.h.length)) V2 :=
      ⟨_, hres, _, rfl, G3, hRout, (res_one hlen' hrv).mapC hrc⟩
    obtain ⟨V, hV, hfin⟩ := hfin
    rcases he with rfl | rfl
    · exact ⟨hR'.dfs, V, hV, hfin⟩
    · exact ⟨hR'.dfs, V, hV, hfin⟩

/-- What is asked of the program and of the functions called. -/
structure Site (P : Program) (C : Ctx) (Pre : World → Prop) : Prop where
  calls : ∀ f k S, C.fns.find f k = some S → Sound P Pre f S ∧ Callable P f
  pre : ∀ w w', Pre w → Ext w w' → Pre w'
  inl : ∀ x ∈ C.inl, P.funcs[x.fid]? = some x.fn ∧ Callable P x.fid
  mixed : P.follows .mixedOrders = true
  tabs : ∀ w, Pre w → TabsAt C.tabs w

/-- The contract's core: at one call. -/
theorem core_of_pev {f : FuncId} {fn : Func} {S : FnSpec} (hs : Site P C Pre) (hf : P.funcs[f]? = some fn) {w : World} {args : Array Value} {ok : Nat → Prop} {vs : List AV} {r : S.rs.den} (hpre : Pre w) (hlow : ∀ b, ok b → b < w.heap.size)
    (hal : vs.length = args.size) (hrv : ∀ (i : Nat) (q : AV) (v : Value), vs[i]? = some q → args[i]? = some v → RV w (imm w ok w fun _ => none) (fun _ => none) q v) (h1 : pevFnW P C N H S fn vs = some r) :
    Calls P f args w (fun e w' => ∃ V, e = .returned V ∧ ResOk S w ok w' V r) := by
  unfold pevFnW at h1
  split at h1
  · rename_i c hc
    have hp : Place P C Pre w ok := ⟨hs.calls, fun w' hw => hs.pre w w' hpre hw, hlow, fun w' hw => hs.tabs w' (hs.pre w w' hpre hw)⟩
    obtain ⟨e, σ', g1, g2, g3⟩ := pev_sound (H := H) hp (inl_ok (N := N) hp.calls hp.pre hp.low hs.mixed hs.inl 4) hs.mixed c 0 _ (fun e σ => retK P S fn e ((σ.mkOwn H.rets).mkOwnC H.retc)) r h1
    refine calls_of_wp hf hc ?_
    have hR : Rel w ok (fun _ => undef) (entryW fn vs) { tmps := args ++ Array.replicate (fn.ntmps - args.size) undef, defers := [] } w (fun _ => none) := by
      refine ⟨by simp [entryW, hal], fun i p v hp hv => ?_, rfl, ⟨(fun id gh hg => by cases hg), (fun id id' gh gh' b hg => by cases hg), (fun id gh b hg => by cases hg), Ext.refl w⟩, (fun id p k l hp => by simp [entryW] at hp)⟩
      simp only [entryW, List.getElem?_map, Option.map_eq_some_iff] at hp
      obtain ⟨q, hq, rfl⟩ := hp
      by_cases hi : i < args.size
      · rw [List.getElem?_append_left (by rw [hal]; exact hi)] at hq
        rw [Array.getElem?_append_left hi] at hv
        exact hrv i q v hq hv
      · rw [List.getElem?_append_right (by omega), List.getElem?_replicate] at hq
        rw [Array.getElem?_append_right (by omega), Array.getElem?_replicate] at hv
        split at hq
        · split at hv
          · cases hq; cases hv; rfl
          · cases hv
        · cases hq
    refine g3 _ _ w _ _ hR fun a' w' G' hR' => ?_
    have he : e = .normal ∨ e = .ret := by cases e <;> first | exact .inl rfl | exact .inr rfl | cases g1
    obtain ⟨G0, hR0⟩ := hR'.mkOwn H.rets
    obtain ⟨G1, hR1⟩ := hR0.mkOwnC H.retc
    obtain ⟨V, hV, hres⟩ := ret_sound g1 he hR1 hlow
    rcases he with rfl | rfl
    · exact ⟨hR'.dfs, V, hV, V, rfl, hres⟩
    · exact ⟨hR'.dfs, V, hV, V, rfl, hres⟩
  · cases h1
/-- The contract. -/
theorem sound_of_pev {f : FuncId} {fn : Func} {S : FnSpec} (hs : Site P C Pre) (hf : P.funcs[f]? = some fn) (hpl : properL S.ps = true) (h : ∀ x r, S.fn x = some r → pevFn P C N H S fn x = some r) : Sound P Pre f S := by
  intro w args x r ok hpre hlow hargs hx
  exact core_of_pev hs hf hpre hlow (by rw [hargs.len]; simp) (fun i q v hq hv => hargs.rv (fun b hb => ⟨.inl hb, hlow b hb, fun id gh hg => by cases hg⟩) S.ps _ x hpl i q v hq (by simpa using hv)) (h x r hx)
/-- The contract of a function that asks whether its slice is nil. -/
theorem sound_of_pev_nil {f : FuncId} {fn : Func} {e rs : Ty} {own : List Bool} {dp : Bool} {F : (Ty.pair (.slice e) .nil).den → Option rs.den} (hs : Site P C Pre) (hf : P.funcs[f]? = some fn)
    (h1 : ∀ xs r, F (xs, ()) = some r → pevFnW P C N H ⟨.pair (.slice e) .nil, rs, own, F, dp⟩ fn [.one (.sln e xs)] = some r)
    (h2 : ∀ r, F ([], ()) = some r → pevFnW P C N H ⟨.pair (.slice e) .nil, rs, own, F, dp⟩ fn [.one (.slz e)] = some r) : Sound P Pre f ⟨.pair (.slice e) .nil, rs, own, F, dp⟩ := by
  intro w args x r ok hpre hlow hargs hx
  obtain ⟨xs, u⟩ := x
  match hl : args.toList, hargs with
  | [v], hargs =>
    have hae : args = #[v] := by cases args; simp_all
    subst hae
    obtain ⟨⟨cs, hv, hr⟩, _⟩ := hargs
    obtain ⟨A, cap, rfl, k1, k2, k3⟩ := hr
    have hv : v = .slice A xs.length cap := hv
    subst hv
    have hm : ∀ b, ok b → imm w ok w (fun _ => none) b := fun b hb => ⟨.inl hb, hlow b hb, fun id gh hg => by cases hg⟩
    have hsl : (Ty.slice e).rp w (imm w ok w fun _ => none) [.slice A xs.length cap] xs := Ty.rp_keep (.slice e) ⟨A, cap, rfl, k1, k2, k3⟩ (fun _ _ => rfl) hm
    cases A with
    | some A =>
      refine core_of_pev (vs := [.one (.sln e xs)]) hs hf hpre hlow rfl (fun i q v hq hv => ?_) (h1 xs r hx)
      match i, hq, hv with
      | 0, hq, hv => simp at hq hv; subst hq hv; exact ⟨hsl, A, _, _, rfl⟩
      | i + 1, hq, hv => simp at hq
    | none =>
      have hx0 : xs = [] := by
        cases xs with
        | nil => rfl
        | cons y ys => obtain ⟨b, o, h, _⟩ := k3 (by simp); cases h
      subst hx0
      refine core_of_pev (vs := [.one (.slz e)]) hs hf hpre hlow rfl (fun i q v hq hv => ?_) (h2 r hx)
      match i, hq, hv with
      | 0, hq, hv => simp at hq hv; subst hq hv; exact ⟨_, _, rfl⟩
      | i + 1, hq, hv => simp at hq
  | [], hargs => exact hargs.elim
  | _ :: _ :: _, hargs => exact hargs.2.elim

theorem ctx_nil : ∀ p ∈ ([] : CtxL), Sound P Pre p.1.1 p.2 ∧ Callable P p.1.1 := fun p h => by cases h
theorem ctx_cons {f : FuncId} {k : List FuncId} {S : FnSpec} {C : CtxL} (h : Sound P Pre f S) (hk : Callable P f) (hc : ∀ p ∈ C, Sound P Pre p.1.1 p.2 ∧ Callable P p.1.1) : ∀ p ∈ (((f, k), S) :: C : CtxL), Sound P Pre p.1.1 p.2 ∧ Callable P p.1.1 := by
  intro p hp
  rcases List.mem_cons.1 hp with rfl | hp
  · exact ⟨h, hk⟩
  · exact hc p hp
theorem CtxL.find_mem : ∀ {C : CtxL} {f : FuncId} {k : List FuncId} {S : FnSpec}, C.find f k = some S → ∃ k', ((f, k'), S) ∈ C
  | [], _, _, _, h => by cases h
  | (g, s) :: r, f, k, S, h => by
    unfold CtxL.find at h
    cases hb : Nat.beq g.1 f && keyEq g.2 k with
    | true =>
      rw [hb] at h
      cases h
      simp only [Bool.and_eq_true] at hb
      refine ⟨g.2, ?_⟩
      rw [← Nat.eq_of_beq_eq_true hb.1]
      exact List.mem_cons_self
    | false =>
      rw [hb] at h
      obtain ⟨k', hk⟩ := CtxL.find_mem h
      exact ⟨k', List.mem_cons_of_mem _ hk⟩
theorem site_of {C : Ctx} (hpre : ∀ w w', Pre w → Ext w w' → Pre w') (hm : P.follows .mixedOrders = true) (h : ∀ p ∈ C.fns, Sound P Pre p.1.1 p.2 ∧ Callable P p.1.1) (hi : ∀ x ∈ C.inl, P.funcs[x.fid]? = some x.fn ∧ Callable P x.fid := by intro x hx; cases hx) (ht : ∀ w, Pre w → TabsAt C.tabs w := by exact fun w _ => tabsAt_nil w) : Site P C Pre :=
  ⟨fun f k S hf => by
    obtain ⟨k', hk⟩ := CtxL.find_mem hf
    exact h _ hk, hpre, hi, hm, ht⟩
theorem inl_nil : ∀ x ∈ ([] : List InF), P.funcs[x.fid]? = some x.fn ∧ Callable P x.fid := fun x h => by cases h
theorem inl_cons {y : InF} {L : List InF} (hf : P.funcs[y.fid]? = some y.fn) (hk : Callable P y.fid) (h : ∀ x ∈ L, P.funcs[x.fid]? = some x.fn ∧ Callable P x.fid) : ∀ x ∈ y :: L, P.funcs[x.fid]? = some x.fn ∧ Callable P x.fid := by
  intro x hx
  rcases List.mem_cons.1 hx with rfl | hx
  · exact ⟨hf, hk⟩
  · exact h x hx
end
end Go.Proofs.YtbdokiecpmhjmaaGreatDoor
