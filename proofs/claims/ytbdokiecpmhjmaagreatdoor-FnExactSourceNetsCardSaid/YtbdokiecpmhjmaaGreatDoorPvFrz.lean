/- Memory of the call's own that is written no more. No condition of its own. -/
import Derived.Test.YtbdokiecpmhjmaaGreatDoorPvLoop
namespace Go.Proofs.YtbdokiecpmhjmaaGreatDoor
set_option linter.unusedSimpArgs false
set_option linter.unusedVariables false
open Go.RowKit

theorem swap_same {id : Nat} {d : AC} {f : Nat → AC} {c : AC} (h : c.has id = false) : AC.swap id d f c = c := by
  cases c <;> first | rfl | (simp only [AC.has] at h; simp only [AC.swap, h, cond_false])
theorem swap_mapL {id : Nat} {d : AC} {f : Nat → AC} : ∀ (cs : List AC), cs.any (AC.has id) = false → cs.map (AC.swap id d f) = cs
  | [], _ => rfl
  | c :: cs, h => by
    simp only [List.any_cons, Bool.or_eq_false_iff] at h
    rw [List.map_cons, swap_same h.1, swap_mapL cs h.2]
theorem swap_mapV {id : Nat} {d : AC} {f : Nat → AC} {v : AV} (h : v.anyC (AC.has id) = false) : v.mapC (AC.swap id d f) = v := by
  cases v with
  | one c => simp only [AV.mapC]; rw [swap_same h]
  | agg cs => simp only [AV.mapC]; rw [swap_mapL cs h]
  | tup vs =>
    simp only [AV.mapC, AV.anyC] at h ⊢
    congr 1
    induction vs with
    | nil => rfl
    | cons p vs ih =>
      simp only [List.any_cons, Bool.or_eq_false_iff] at h
      rw [List.map_cons, swap_mapL _ h.1, ih h.2]
theorem swap_mapO {id : Nat} {d : AC} {f : Nat → AC} {v : Ob} (h : v.anyC (AC.has id) = false) : v.mapC (AC.swap id d f) = v := by
  cases v with
  | var cs => simp only [Ob.mapC]; rw [swap_mapL cs h]
  | frame k l =>
    simp only [Ob.mapC, Ob.anyC] at h ⊢
    congr 1
    induction l with
    | nil => rfl
    | cons p l ih =>
      simp only [List.any_cons, Bool.or_eq_false_iff] at h
      rw [List.map_cons, swap_mapV h.1, ih h.2]
  | _ => rfl

/-- A row of rows of the call's own, read as data. -/
theorem tree_slc {w : World} {ok okR : Nat → Prop} {G : GM} {gh : Gh} {e : Ty} {xs : List (List e.den)} (hm : ∀ b, ok b → okR b) (h : ObR w ok G gh (.tree e xs none)) (h2 : ∀ b, gh.has b → okR b) : (Ty.slice (.slice e)).rp w okR [gh.hdr] xs := by
  obtain ⟨b, cap, cur, t, hb, h3, h4, h5, h6, h7, _, _, h8⟩ := h
  rw [h3]
  refine ⟨some ⟨b, 0, none⟩, cap, rfl, h5, h6, fun _ => ⟨b, 0, rfl, h2 b (.inl hb), fun i hi => ?_⟩⟩
  obtain ⟨hr, hc⟩ := h8 i hi
  refine ⟨[gh.ihdr i], row_slc (G := G) (gh := .mk0 (gh.inn i) (gh.ihdr i)) hm hr (fun b' h => h2 b' (.inr ⟨i, h⟩)), fun j u hj => ?_⟩
  match j, hj with
  | 0, hj =>
    simp at hj
    subst hj
    rw [cell_of_row h4]
    simpa [Ty.sz] using hc (by simp)
  | j + 1, hj => simp at hj

section
variable {w0 : World} {ok0 : Nat → Prop} {fr : Nat → Value} {σ : Env} {a : Act} {w : World} {G : GM}

theorem swap_rel (hR : Rel w0 ok0 fr σ a w G) (id : Nat) (d : AC) (f : Nat → AC)
    (hd : ∀ (ok' : Nat → Prop) (G' : GM) (gh : Gh), G id = some gh → (∀ b, imm w0 ok0 w G b → ok' b) → (∀ b, gh.has b → ok' b) → RC w ok' G' d gh.hdr)
    (hf : ∀ (ok' : Nat → Prop) (G' : GM) (gh : Gh) (b o : Nat), G id = some gh → gh.blk = some b → (∀ b, imm w0 ok0 w G b → ok' b) → ok' b → RC w ok' G' (f o) (.pointer (some ⟨b, o, none⟩))) :
    Rel w0 ok0 fr (σ.swap id d f) a w (fun k => if k = id then none else G k) := by
  have gne : ∀ k, k ≠ id → (fun k => if k = id then none else G k) k = G k := fun k h => if_neg h
  have old : ∀ k gh, (if k = id then none else G k) = some gh → k ≠ id ∧ G k = some gh := fun k gh h => by
    split at h
    · cases h
    · rename_i hh; exact ⟨hh, h⟩
  have hm : ∀ b, imm w0 ok0 w G b → imm w0 ok0 w (fun k => if k = id then none else G k) b := fun b hb => ⟨hb.1, hb.2.1, fun k gh hg => hb.2.2 k gh (old k gh hg).2⟩
  have hnew : ∀ gh b, G id = some gh → gh.has b → imm w0 ok0 w (fun k => if k = id then none else G k) b := fun gh b hg hb =>
    ⟨.inr (hR.st.low id gh b hg hb).1, (hR.st.low id gh b hg hb).2, fun k gh' hg' hb' => by
      obtain ⟨h1, h2⟩ := old k gh' hg'
      exact h1 (hR.st.inj k id gh' gh b h2 hg hb' hb)⟩
  have hrc : ∀ c v, RC w (imm w0 ok0 w G) G c v → RC w (imm w0 ok0 w (fun k => if k = id then none else G k)) (fun k => if k = id then none else G k) (AC.swap id d f c) v := by
    intro c v h
    have keep : ∀ i, i ≠ id → Nat.beq i id = false := fun i hi => by
      cases hb : Nat.beq i id
      · rfl
      · exact absurd (Nat.eq_of_beq_eq_true hb) hi
    cases c with
    | own i =>
      by_cases hi : i = id
      · subst hi
        simp only [AC.swap, Nat.beq_refl, cond_true]
        obtain ⟨gh, hg, rfl⟩ := h
        exact hd _ _ gh hg hm (fun b hb => hnew gh b hg hb)
      · simp only [AC.swap, keep i hi, cond_false]
        obtain ⟨gh, hg, rfl⟩ := h
        exact ⟨gh, by rw [gne i hi]; exact hg, rfl⟩
    | vptr i o =>
      by_cases hi : i = id
      · subst hi
        simp only [AC.swap, Nat.beq_refl, cond_true]
        obtain ⟨gh, b, hg, hb, rfl⟩ := h
        exact hf _ _ gh b o hg hb hm (hnew gh b hg (.inl hb))
      · simp only [AC.swap, keep i hi, cond_false]
        obtain ⟨gh, b, hg, hb, rfl⟩ := h
        exact ⟨gh, b, by rw [gne i hi]; exact hg, hb, rfl⟩
    | eptr i e k o =>
      by_cases hi : i = id
      · subst hi
        simp only [AC.swap, Nat.beq_refl, cond_true]
        exact trivial
      · simp only [AC.swap, keep i hi, cond_false]
        obtain ⟨gh, b, hg, hb, rfl⟩ := h
        exact ⟨gh, b, by rw [gne i hi]; exact hg, hb, rfl⟩
    | opre i e k =>
      by_cases hi : i = id
      · subst hi
        simp only [AC.swap, Nat.beq_refl, cond_true]
        exact trivial
      · simp only [AC.swap, keep i hi, cond_false]
        obtain ⟨gh, A, n, c, hg, h⟩ := h
        exact ⟨gh, A, n, c, by rw [gne i hi]; exact hg, h⟩
    | osub i e k =>
      by_cases hi : i = id
      · subst hi
        simp only [AC.swap, Nat.beq_refl, cond_true]
        exact trivial
      · simp only [AC.swap, keep i hi, cond_false]
        obtain ⟨gh, A, n, c, hg, h⟩ := h
        exact ⟨gh, A, n, c, by rw [gne i hi]; exact hg, h⟩
    | inn i k =>
      by_cases hi : i = id
      · subst hi
        simp only [AC.swap, Nat.beq_refl, cond_true]
        exact trivial
      · simp only [AC.swap, keep i hi, cond_false]
        obtain ⟨gh, hg, h⟩ := h
        exact ⟨gh, by rw [gne i hi]; exact hg, h⟩
    | cloA g cs =>
      simp only [AC.swap]
      cases hb : cs.any (Cap.has id) with
      | true => exact trivial
      | false =>
        refine RC.mono (c := .cloA g cs) h (fun _ _ => rfl) hm (fun k gh hl hg => ?_)
        have hk : k ≠ id := by
          rintro rfl
          obtain ⟨c, hc, hl⟩ := hl
          have : cs.any (Cap.has k) = true := List.any_eq_true.2 ⟨c, hc, Cap.has_of_leads hl⟩
          rw [hb] at this; cases this
        exact (if_neg hk).trans hg
    | _ => exact RC.mono h (fun _ _ => rfl) hm (fun k gh hl => hl.elim)
  refine ⟨by simpa [Env.swap, Env.setOb] using hR.len, fun i p v hp hv => ?_, hR.dfs, ⟨fun k gh hg => ?_, fun i j g g' b h1 h2 => hR.st.inj i j g g' b (old _ _ h1).2 (old _ _ h2).2, fun i g b h1 => hR.st.low i g b (old _ _ h1).2, hR.st.ext⟩, fun i p k l hp hk' => ?_⟩
  rotate_left 2
  · simp only [Env.swap, Env.setOb, getElem?_setN] at hp
    split at hp
    · cases hp; cases hk'
    · rename_i hne
      rw [List.getElem?_map] at hp
      obtain ⟨q, hq, rfl⟩ := Option.map_eq_some_iff.1 hp
      have hi : i ≠ id := by
        rintro rfl
        exact hne ⟨rfl, by rw [List.length_map]; exact (List.getElem?_eq_some_iff.1 hq).1⟩
      have hfr : ∃ l', q.2 = .frame k l' := by
        cases hb : q.2.anyC (AC.has id) with
        | true => rw [hb] at hk'; exact frame_mapC hk'
        | false => rw [hb] at hk'; exact ⟨l, hk'⟩
      obtain ⟨l', hl'⟩ := hfr
      obtain ⟨gh, h1, h2⟩ := hR.frm i q k l' hq hl'
      exact ⟨gh, (if_neg hi).trans h1, h2⟩
  · simp only [Env.swap, Env.setOb, List.getElem?_map] at hp
    obtain ⟨q, hq, rfl⟩ := Option.map_eq_some_iff.1 hp
    have := (hR.tmp i q v hq hv).mapC hrc
    cases hb : q.2.anyC (AC.has id) with
    | true => exact this
    | false => rw [swap_mapV hb] at this; exact this
  · obtain ⟨hne, hg'⟩ := old k gh hg
    obtain ⟨p, hp, ho⟩ := hR.st.ob k gh hg'
    have h2 := ho.mapC (f := AC.swap id d f) (fun _ _ => rfl) hm (fun _ _ => rfl) hrc
    refine ⟨bif p.2.anyC (AC.has id) then (p.1 + 1, p.2.mapC (AC.swap id d f)) else p, ?_, ?_⟩
    · simp only [Env.swap, Env.setOb, getElem?_setN]
      rw [if_neg (fun h => hne h.1), List.getElem?_map, hp]
      rfl
    · cases hb : p.2.anyC (AC.has id) with
      | true => exact h2
      | false => rw [swap_mapO hb] at h2; exact h2
theorem Fr.swap (σ : Env) (id : Nat) (d : AC) (f : Nat → AC) : Fr σ (σ.swap id d f) := by
  refine Fr.trans (b := ⟨σ.t.map fun p => bif p.2.anyC (AC.has id) then (p.1 + 1, p.2.mapC (AC.swap id d f)) else p, σ.h.map fun p => bif p.2.anyC (AC.has id) then (p.1 + 1, p.2.mapC (AC.swap id d f)) else p⟩) ⟨by simp, by simp, fun i p p' hp hp' => ?_, fun i p p' hp hp' => ?_⟩ (Fr.setOb _ _ _)
  · simp only [List.getElem?_map, hp, Option.map_some, Option.some.injEq] at hp'
    subst hp'
    cases p.2.anyC (AC.has id)
    · exact ⟨Nat.le_refl _, fun _ => rfl⟩
    · exact ⟨Nat.le_succ _, fun e => by simp at e⟩
  · simp only [List.getElem?_map, hp, Option.map_some, Option.some.injEq] at hp'
    subst hp'
    cases p.2.anyC (AC.has id)
    · exact ⟨Nat.le_refl _, fun _ => rfl⟩
    · exact ⟨Nat.le_succ _, fun e => by simp at e⟩
theorem freeze_rel {z : Nat × Option Ty} {σ' : Env} (h : σ.freeze z = some σ') (hR : Rel w0 ok0 fr σ a w G) : ∃ G', Rel w0 ok0 fr σ' a w G' := by
  unfold Env.freeze at h
  split at h
  · rename_i id hid
    split at h
    · rename_i e xs hob
      cases h
      refine ⟨_, swap_rel hR id _ _ (fun ok' G' gh hg hm hb => ?_) (fun _ _ _ _ _ _ _ _ _ => trivial)⟩
      have := ob_of hR hg
      rw [hob] at this
      exact row_slc hm this fun b h => hb b (.inl h)
    · rename_i e xs hob
      cases h
      refine ⟨_, swap_rel hR id _ _ (fun ok' G' gh hg hm hb => ?_) (fun _ _ _ _ _ _ _ _ _ => trivial)⟩
      have := ob_of hR hg
      rw [hob] at this
      exact tree_slc hm this hb
    · rename_i e xs hob
      cases h
      refine ⟨_, swap_rel hR id _ _ (fun ok' G' gh hg hm hb => ?_) (fun _ _ _ _ _ _ _ _ _ => trivial)⟩
      have := ob_of hR hg
      rw [hob] at this
      exact drow_slc this hb
    · cases h
  · rename_i id e0 n hid
    split at h
    · rename_i e xs hob
      cases h
      obtain ⟨G1, hR1⟩ := hR.trim hid hob
      refine ⟨_, swap_rel hR1 id _ _ (fun ok' G' gh hg hm hb => ?_) (fun _ _ _ _ _ _ _ _ _ => trivial)⟩
      have := ob_of hR1 hg
      have hlt : id < σ.h.length := by
        by_cases hlt : id < σ.h.length
        · exact hlt
        · rw [Env.ob, nth_eq, List.getElem?_eq_none (by omega)] at hob; cases hob
      have he : Env.ob (((σ.kill id).setOb id (.row e (xs.take n))).put (some z.1) (.one (.own id))) id = .row e (xs.take n) := by
        simp only [Env.ob, Env.put, Env.setOb]
        rw [nth_eq, getElem?_setN, if_pos ⟨rfl, by rw [(kill_len σ id).2]; exact hlt⟩]
        rfl
      rw [he] at this
      exact row_slc hm this fun b h => hb b (.inl h)
    · cases h
  · rename_i id off hid
    split at h
    · rename_i e cs hz hob
      split at h
      · rename_i x hx
        cases h
        refine ⟨_, swap_rel hR id _ _ (fun _ _ _ _ _ _ => trivial) (fun ok' G' gh b o hg hb hm hok => ?_)⟩
        have := ob_of hR hg
        rw [hob] at this
        obtain ⟨b', vs, t, hb', _, hh, hr⟩ := this
        obtain rfl : b = b' := by rw [hb] at hb'; exact Option.some.inj hb'
        exact ⟨b, 0, vs, by rw [Nat.zero_add], hok, Ty.rp_keep e (Ty.ofAcs_nil hx hr) (fun _ _ => rfl) hm, fun j u hj => by rw [cell_of_row hh]; simpa using hj⟩
      · cases h
    · cases h
  · cases h; exact ⟨G, hR⟩
theorem freeze_fr {z : Nat × Option Ty} {σ' : Env} (h : σ.freeze z = some σ') : Fr σ σ' := by
  unfold Env.freeze at h
  split at h
  · split at h
    · cases h; exact Fr.swap _ _ _ _
    · cases h; exact Fr.swap _ _ _ _
    · cases h; exact Fr.swap _ _ _ _
    · cases h
  · split at h
    · cases h; exact (((Fr.kill σ _).trans (Fr.setOb _ _ _)).trans (Fr.put _ (some z.1) _)).trans (Fr.swap _ _ _ _)
    · cases h
  · split at h
    · split at h
      · cases h; exact Fr.swap _ _ _ _
      · cases h
    · cases h
  · cases h; exact Fr.refl σ
theorem freezes_ok : ∀ (l : List (Nat × Option Ty)) {σ σ' : Env} {G : GM}, σ.freezes l = some σ' → Fr σ σ' ∧ (Rel w0 ok0 fr σ a w G → ∃ G', Rel w0 ok0 fr σ' a w G')
  | [], σ, σ', G, h => by cases h; exact ⟨Fr.refl _, fun hR => ⟨G, hR⟩⟩
  | z :: zs, σ, σ', G, h => by
    unfold Env.freezes at h
    split at h
    · rename_i σ1 h1
      refine ⟨(freeze_fr h1).trans (freezes_ok (G := G) zs h).1, fun hR => ?_⟩
      obtain ⟨G1, hR1⟩ := freeze_rel h1 hR
      exact (freezes_ok zs h).2 hR1
    · cases h
end
end Go.Proofs.YtbdokiecpmhjmaaGreatDoor
