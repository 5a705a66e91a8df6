/- What a loop carries. No condition of its own. -/
import Derived.Test.YtbdokiecpmhjmaaGreatDoorPvCode
namespace Go.Proofs.YtbdokiecpmhjmaaGreatDoor
set_option linter.unusedSimpArgs false
set_option linter.unusedVariables false
open Go.RowKit

section
variable {w0 : World} {ok0 : Nat → Prop} {fr : Nat → Value} {a : Act} {w : World} {G : GM}

theorem Rel.forget {σ : Env} (hR : Rel w0 ok0 fr σ a w G) (i : Nat) : Rel w0 ok0 fr (σ.put (some i) (.one .bad)) a w G := by
  refine ⟨by simp [Env.put, length_setN, hR.len], fun k p u hp hu => ?_, hR.dfs, hR.st, hR.frm⟩
  simp only [Env.put, getElem?_setN] at hp
  split at hp
  · cases hp; exact trivial
  · exact hR.tmp k p u hp hu
theorem Rel.dropT : ∀ (l : List Nat) {σ : Env}, Rel w0 ok0 fr σ a w G → Rel w0 ok0 fr (σ.dropT l) a w G
  | [], _, h => h
  | i :: is, _, h => Rel.dropT is (h.forget i)
theorem Fr.dropT : ∀ (l : List Nat) (σ : Env), Fr σ (σ.dropT l)
  | [], σ => Fr.refl σ
  | i :: is, σ => (Fr.put σ (some i) _).trans (Fr.dropT is _)
/-- A slot that holds the beginning of a row: the row is cut there. -/
theorem Rel.trim {σ : Env} {G : GM} (hR : Rel w0 ok0 fr σ a w G) {i id n : Nat} {e0 e' : Ty} {xs : List e'.den} (hn : (nth σ.t i (0, .one .bad)).2 = .one (.opre id e0 n)) (hob : σ.ob id = .row e' xs) :
    ∃ G', Rel w0 ok0 fr (((σ.kill id).setOb id (.row e' (xs.take n))).put (some i) (.one (.own id))) a w G' := by
  by_cases hi : i < σ.t.length
  · have h1 : σ.t[i]? = some σ.t[i] := List.getElem?_eq_getElem hi
    have hia : i < a.tmps.size := by rw [← hR.len]; exact hi
    have hv := hR.tmp i _ _ h1 (Array.getElem?_eq_getElem hia)
    rw [nth_eq, h1] at hn
    simp only [Option.getD_some] at hn
    rw [hn] at hv
    obtain ⟨gh, A, m, c, hg, hhd, hnm, hve⟩ := hv
    have ho := hR.st.obOf (h := σ.h) (fun i p hp => ⟨p, hp, rfl⟩) hg (by rw [show (nth σ.h id (0, .gone)).2 = _ from hob]; simp)
    rw [show (nth σ.h id (0, .gone)).2 = _ from hob] at ho
    obtain ⟨G', g1, g2⟩ := hR.regrow (gh' := { gh with hdr := .slice A n c }) (ob := .row e' (xs.take n)) hg (w' := w) ⟨rfl, rfl, rfl, Nat.le_refl _, fun _ _ _ => rfl⟩ (.inl rfl) rfl (fun G' hk hm => by
      rcases ho with ⟨k1, k2, rfl⟩ | ⟨b, cap, cur, t, k1, k2, k3, k4, k5, k6, k7⟩
      · rw [k2] at hhd
        cases hhd
        obtain rfl : n = 0 := by omega
        exact .inl ⟨k1, rfl, rfl⟩
      · rw [k2] at hhd
        cases hhd
        have hl : (xs.take n).length = n := by rw [List.length_take]; omega
        refine .inr ⟨b, c, cur, t, k1, by rw [hl], k3, by omega, k5, k6, fun j hj => ?_⟩
        obtain ⟨us, hu, hc⟩ := k7 j (by rw [List.length_take] at hj; omega)
        exact ⟨us, by rw [List.getElem_take]; exact Ty.rp_keep _ hu hk hm, hc⟩)
    refine ⟨G', ⟨by simpa [Env.put, length_setN] using g2.len, fun k p u hp hu => ?_, g2.dfs, g2.st, g2.frm⟩⟩
    simp only [Env.put, getElem?_setN] at hp
    split at hp
    · rename_i hk
      obtain ⟨rfl, _⟩ := hk
      cases hp
      rw [Array.getElem?_eq_getElem hia] at hu
      cases hu
      exact ⟨_, g1, hve⟩
    · exact g2.tmp k p u hp hu
  · exfalso
    rw [nth_eq, List.getElem?_eq_none (by omega)] at hn
    cases hn
theorem Rel.mkOwn : ∀ (l : List (Nat × Ty)) {σ : Env} {G : GM}, Rel w0 ok0 fr σ a w G → ∃ G', Rel w0 ok0 fr (σ.mkOwn l) a w G'
  | [], _, _, h => ⟨_, h⟩
  | (i, e) :: is, σ, G, hR => by
    unfold Env.mkOwn
    split
    · rename_i hn
      have hst1 : St w0 ok0 (σ.h ++ [(0, .row e [])]) w G := by
        refine ⟨fun id gh hg => ?_, hR.st.inj, hR.st.low, hR.st.ext⟩
        obtain ⟨p, hp, ho⟩ := hR.st.ob id gh hg
        exact ⟨p, by rw [List.getElem?_append_left (List.getElem?_eq_some_iff.1 hp).1]; exact hp, ho⟩
      have hnone : G σ.h.length = none := by
        cases hg : G σ.h.length with
        | none => rfl
        | some gh =>
          obtain ⟨p, hp, _⟩ := hR.st.ob _ gh hg
          have := (List.getElem?_eq_some_iff.1 hp).1
          omega
      obtain ⟨G', g1, g2, g3, _⟩ := hst1.make (w' := w) (n := σ.h.length) (p := (0, .row e [])) (by simp) hnone (.mk0 none (.slice none 0 0)) (Ext.refl w) (fun b hb => nomatch Gh.has0.1 hb) (fun G' _ _ => .inl ⟨rfl, rfl, rfl⟩)
      refine Rel.mkOwn is (G := G') ⟨by simp [Env.put, Env.newOb, length_setN, hR.len], fun k p u hp hu => ?_, hR.dfs, g2, (hR.frm.append1 (fun k l h => by cases h)).later g3⟩
      simp only [Env.put, Env.newOb, getElem?_setN] at hp
      split at hp
      · rename_i hk
        obtain ⟨rfl, hlt⟩ := hk
        cases hp
        have h1 : σ.t[k]? = some σ.t[k] := List.getElem?_eq_getElem hlt
        have := hR.tmp k _ u h1 hu
        rw [nth_eq, h1] at hn
        simp only [Option.getD_some] at hn
        rw [hn] at this
        obtain rfl : u = _ := this
        exact ⟨_, g1, rfl⟩
      · exact (hR.tmp k p u hp hu).later g3
    · rename_i id e0 n hn
      split
      · rename_i e' xs hob
        obtain ⟨G', hR'⟩ := hR.trim hn hob
        exact Rel.mkOwn is hR'
      · exact Rel.mkOwn is hR
    · exact Rel.mkOwn is hR
theorem Fr.mkOwn : ∀ (l : List (Nat × Ty)) (σ : Env), Fr σ (σ.mkOwn l)
  | [], σ => Fr.refl σ
  | (i, e) :: is, σ => by
    unfold Env.mkOwn
    split
    · exact (Fr.newObs σ [(0, .row e [])]).trans ((Fr.put (σ.newOb (.row e [])) (some i) _).trans (Fr.mkOwn is _))
    · split
      · exact ((Fr.kill σ _).trans (Fr.setOb _ _ _)).trans ((Fr.put _ (some i) _).trans (Fr.mkOwn is _))
      · exact Fr.mkOwn is σ
    · exact Fr.mkOwn is σ

theorem setN_get {α : Type} {l : List α} {i : Nat} {b d : α} (h : nth l i d = b) (hne : b ≠ d) : ∃ h : i < l.length, l[i] = b := by
  rw [nth_eq] at h
  cases hi : l[i]? with
  | none => rw [hi] at h; exact absurd h.symm hne
  | some p =>
    rw [hi] at h
    obtain ⟨hlt, he⟩ := List.getElem?_eq_some_iff.1 hi
    exact ⟨hlt, by rw [he]; exact h⟩
theorem Rel.mkOwnC : ∀ (l : List (Nat × Nat × Ty)) {σ : Env} {G : GM}, Rel w0 ok0 fr σ a w G → ∃ G', Rel w0 ok0 fr (σ.mkOwnC l) a w G'
  | [], _, _, h => ⟨_, h⟩
  | (id, i, e) :: is, σ, G, hR => by
    unfold Env.mkOwnC
    split
    · rename_i cs hob
      split
      · rename_i hnil
        have hst1 : St w0 ok0 (σ.h ++ [(0, .row e [])]) w G := by
          refine ⟨fun id gh hg => ?_, hR.st.inj, hR.st.low, hR.st.ext⟩
          obtain ⟨p, hp, ho⟩ := hR.st.ob id gh hg
          exact ⟨p, by rw [List.getElem?_append_left (List.getElem?_eq_some_iff.1 hp).1]; exact hp, ho⟩
        have hnone : G σ.h.length = none := by
          cases hg : G σ.h.length with
          | none => rfl
          | some gh =>
            obtain ⟨p, hp, _⟩ := hR.st.ob _ gh hg
            have := (List.getElem?_eq_some_iff.1 hp).1
            omega
        obtain ⟨G', g1, g2, g3, g4⟩ := hst1.make (w' := w) (n := σ.h.length) (p := (0, .row e [])) (by simp) hnone (.mk0 none (.slice none 0 0)) (Ext.refl w) (fun b hb => nomatch Gh.has0.1 hb) (fun G' _ _ => .inl ⟨rfl, rfl, rfl⟩)
        have hR1 : Rel w0 ok0 fr (σ.newOb (.row e [])) a w G' := ⟨hR.len, fun k p u hp hu => (hR.tmp k p u hp hu).later g3, hR.dfs, g2, (hR.frm.append1 (fun k l h => by cases h)).later g3⟩
        refine Rel.mkOwnC is (G := G') ⟨hR1.len, hR1.tmp, hR1.dfs, ⟨fun k gh hg => ?_, hR1.st.inj, hR1.st.low, hR1.st.ext⟩, hR1.frm.setN (fun k l h => by cases h)⟩
        · obtain ⟨p, hp, ho⟩ := hR1.st.ob k gh hg
          simp only [Env.setOb, getElem?_setN]
          by_cases hk : k = id
          · subst hk
            rw [if_pos ⟨rfl, (List.getElem?_eq_some_iff.1 hp).1⟩]
            refine ⟨_, rfl, ?_⟩
            have hlt : k < σ.h.length := by
              by_cases h : k < σ.h.length
              · exact h
              · exfalso
                rw [Env.ob, nth_eq, List.getElem?_eq_none (by omega)] at hob
                cases hob
            have hp2 : p.2 = .var cs := by
              simp only [Env.newOb] at hp
              rw [List.getElem?_append_left hlt] at hp
              rw [Env.ob, nth_eq, hp] at hob
              exact hob
            rw [hp2] at ho
            obtain ⟨b, vs, t, h1, h2, h3, h4⟩ := ho
            refine ⟨b, vs, t, h1, h2, h3, ?_⟩
            obtain ⟨hic, hce⟩ := setN_get hnil (by simp)
            have hiv : i < vs.length := by rw [← h4.1]; exact hic
            have hvn : vs[i] = .slice none 0 0 := by
              have := h4.2 i _ _ (List.getElem?_eq_getElem hic) (List.getElem?_eq_getElem hiv)
              rw [hce] at this
              exact this
            refine ⟨by simp [length_setN, h4.1], fun j c v hc hv => ?_⟩
            rw [getElem?_setN] at hc
            split at hc
            · rename_i hj
              obtain ⟨rfl, _⟩ := hj
              cases hc
              rw [List.getElem?_eq_getElem hiv] at hv
              cases hv
              exact ⟨_, g1, hvn⟩
            · exact h4.2 j c v hc hv
          · rw [if_neg (fun h => hk h.1)]
            exact ⟨p, hp, ho⟩
      · exact Rel.mkOwnC is hR
    · exact Rel.mkOwnC is hR
theorem Fr.mkOwnC : ∀ (l : List (Nat × Nat × Ty)) (σ : Env), Fr σ (σ.mkOwnC l)
  | [], σ => Fr.refl σ
  | (id, i, e) :: is, σ => by
    unfold Env.mkOwnC
    split
    · split
      · exact (Fr.newObs σ [(0, .row e [])]).trans ((Fr.setOb (σ.newOb (.row e [])) id _).trans (Fr.mkOwnC is _))
      · exact Fr.mkOwnC is σ
    · exact Fr.mkOwnC is σ

/-- What lies in some of the cells. -/
def ksR (w : World) (ok : Nat → Prop) : (ks : List (Option Ty)) → ksDen ks → List Value → Prop
  | [], _, vs => vs = []
  | some τ :: ks, x, v :: vs => τ.rp w ok [v] x.1 ∧ ksR w ok ks x.2 vs
  | none :: ks, x, _ :: vs => ksR w ok ks x vs
  | _, _, _ => False
theorem decVar_spec {w : World} {ok : Nat → Prop} {G : GM} : ∀ (ks : List (Option Ty)) (cs : List AC) (vs : List Value) (x : ksDen ks), decVar ks cs = some x → RCs w ok G cs vs → ksR w ok ks x vs
  | [], [], vs, x, _, hr => List.eq_nil_of_length_eq_zero hr.1.symm
  | [], _ :: _, _, _, h, _ => by cases h
  | some _ :: _, [], _, _, h, _ => by cases h
  | none :: _, [], _, _, h, _ => by cases h
  | some τ :: ks, c :: cs, [], x, _, hr => absurd hr.1 (by simp)
  | none :: ks, c :: cs, [], x, _, hr => absurd hr.1 (by simp)
  | some τ :: ks, c :: cs, v :: vs, x, h, hr => by
    replace h : both (τ.ofAcs [] [c]) (decVar ks cs) = some x := h
    unfold both at h
    split at h
    · rename_i y z hy hz
      cases h
      exact ⟨Ty.ofAcs_nil hy (RCs.cons hr.head RCs.nil), decVar_spec ks cs vs z hz hr.tail⟩
    · cases h
  | none :: ks, c :: cs, v :: vs, x, h, hr => decVar_spec ks cs vs x h hr.tail
theorem encVar_spec {w : World} {ok : Nat → Prop} {G : GM} : ∀ (ks : List (Option Ty)) (cs : List AC) (vs : List Value) (x : ksDen ks), ksR w ok ks x vs → RCs w ok G cs vs → RCs w ok G (encVar ks x cs) vs
  | [], cs, vs, x, h, hr => by
    obtain rfl : vs = [] := h
    have : cs = [] := List.eq_nil_of_length_eq_zero hr.1
    subst this
    exact RCs.nil
  | some τ :: ks, [], vs, x, h, hr => by
    have : vs = [] := List.eq_nil_of_length_eq_zero hr.1.symm
    subst this
    exact h.elim
  | none :: ks, [], vs, x, h, hr => by
    have : vs = [] := List.eq_nil_of_length_eq_zero hr.1.symm
    subst this
    exact h.elim
  | some τ :: ks, c :: cs, [], x, h, hr => absurd hr.1 (by simp)
  | none :: ks, c :: cs, [], x, h, hr => absurd hr.1 (by simp)
  | some τ :: ks, c :: cs, v :: vs, x, h, hr => by
    have h1 := τ.acs_rc (G := G) h.1
    exact h1.append (encVar_spec ks cs vs x.2 h.2 hr.tail)
  | none :: ks, c :: cs, v :: vs, x, h, hr => RCs.cons hr.head (encVar_spec ks cs vs x h hr.tail)

/-- A carried thing is what the data say. -/
def ShOk (w0 : World) (ok0 : Nat → Prop) (a : Act) (w : World) (G : GM) : (i : ShI) → i.den → Prop
  | .tmp i τ, x => ∀ V, a.tmps[i]? = some V → RV w (imm w0 ok0 w G) G (τ.av x) V
  | .var id ks, x => ∀ gh b vs t, G id = some gh → gh.blk = some b → w.heap[b]? = some (.cells (List.toArray vs) t (0, 0)) → ksR w (imm w0 ok0 w G) ks x vs
  | .row id e, x => ∀ gh, G id = some gh → ObR w (imm w0 ok0 w G) G gh (.row e x)
  | .tree id e, x => ∀ gh, G id = some gh → ObR w (imm w0 ok0 w G) G gh (.tree e x none)
  | .drow id e, x => ∀ gh, G id = some gh → ObR w (imm w0 ok0 w G) G gh (.drow e x)
def shOk (w0 : World) (ok0 : Nat → Prop) (a : Act) (w : World) (G : GM) : (l : List ShI) → shDen l → Prop
  | [], _ => True
  | i :: is, x => ShOk w0 ok0 a w G i x.1 ∧ shOk w0 ok0 a w G is x.2

theorem ob_of {σ : Env} (hR : Rel w0 ok0 fr σ a w G) {id : Nat} {gh : Gh} (hg : G id = some gh) : ObR w (imm w0 ok0 w G) G gh (σ.ob id) := by
  obtain ⟨p, hp, ho⟩ := hR.st.ob id gh hg
  simp only [Env.ob, nth_eq, hp, Option.getD_some]
  exact ho
theorem dec_ok {σ : Env} (hR : Rel w0 ok0 fr σ a w G) (i : ShI) (x : i.den) (h : i.dec σ = some x) : ShOk w0 ok0 a w G i x := by
  cases i with
  | tmp i τ =>
    obtain ⟨hb, h'⟩ := bif_some h
    simp only [Bool.and_eq_true, beq_iff_eq] at hb
    intro V hV
    have hlt : i < σ.t.length := by rw [hR.len]; exact (Array.getElem?_eq_some_iff.1 hV).1
    have h1 : σ.t[i]? = some σ.t[i] := List.getElem?_eq_getElem hlt
    have hr := hR.tmp i _ V h1 hV
    have e : (nth σ.t i (0, .one .bad)).2 = σ.t[i].2 := by rw [nth_eq, h1]; rfl
    rw [e] at hb h'
    obtain ⟨cs, rfl, hrp⟩ := arg_one (h := []) (okR := imm w0 ok0 w G) (fun _ h => h) (fun id gh _ hn => absurd rfl hn) hr hb.1 hb.2 h'
    exact Ty.av_rv τ hrp (fun u v e => by subst e; cases hb.2) (fun e => by subst e; cases hb.2)
  | var id ks =>
    intro gh b vs t hg hb hh
    have ho := ob_of hR hg
    replace h : (match σ.ob id with | .var cs => decVar ks cs | _ => none) = some x := h
    split at h
    · rename_i cs hob
      rw [hob] at ho
      obtain ⟨b', vs', t', hb', _, hh', hr⟩ := ho
      obtain rfl : b = b' := by rw [hb] at hb'; exact Option.some.inj hb'
      rw [hh] at hh'
      have hv : vs = vs' := by simpa using (Obj.cells.inj (Option.some.inj hh')).1
      subst hv
      exact decVar_spec ks cs vs x h hr
    · cases h
  | row id e =>
    intro gh hg
    have ho := ob_of hR hg
    replace h : (match σ.ob id with | .row _ xs => Ty.castL (b := e) xs | _ => none) = some x := h
    split at h
    · rename_i e' xs hob
      obtain ⟨rfl, rfl⟩ := Ty.castL_eq h
      rw [hob] at ho
      exact ho
    · cases h
  | tree id e =>
    intro gh hg
    have ho := ob_of hR hg
    replace h : (match σ.ob id with | .tree e' xs none => Ty.castL (a := .slice e') (b := .slice e) xs | _ => none) = some x := h
    split at h
    · rename_i e' xs hob
      obtain ⟨he, rfl⟩ := Ty.castL_eq h
      cases he
      rw [hob] at ho
      exact ho
    · cases h
  | drow id e =>
    intro gh hg
    have ho := ob_of hR hg
    replace h : (match σ.ob id with | .drow _ xs => Ty.castL (b := e) xs | _ => none) = some x := h
    split at h
    · rename_i e' xs hob
      obtain ⟨rfl, rfl⟩ := Ty.castL_eq h
      rw [hob] at ho
      exact ho
    · cases h
theorem shDec_ok {σ : Env} (hR : Rel w0 ok0 fr σ a w G) : ∀ (l : List ShI) (x : shDen l), shDec σ l = some x → shOk w0 ok0 a w G l x
  | [], _, _ => trivial
  | i :: is, x, h => by
    replace h : both (i.dec σ) (shDec σ is) = some x := h
    unfold both at h
    split at h
    · rename_i y z hy hz
      cases h
      exact ⟨dec_ok hR i y hy, shDec_ok hR is z hz⟩
    · cases h
theorem enc_rel {σ : Env} (hR : Rel w0 ok0 fr σ a w G) (i : ShI) (x : i.den) (h : ShOk w0 ok0 a w G i x) : Rel w0 ok0 fr (i.enc σ x) a w G := by
  cases i with
  | tmp i τ =>
    refine ⟨by simp [ShI.enc, Env.put, length_setN, hR.len], fun k p u hp hu => ?_, hR.dfs, hR.st, hR.frm⟩
    simp only [ShI.enc, Env.put, getElem?_setN] at hp
    split at hp
    · rename_i hk
      obtain ⟨rfl, _⟩ := hk
      cases hp
      exact h u hu
    · exact hR.tmp k p u hp hu
  | var id ks =>
    show Rel w0 ok0 fr (match σ.ob id with | .var cs => σ.setOb id (.var (encVar ks x cs)) | _ => σ) a w G
    split
    · rename_i cs hob
      refine ⟨hR.len, hR.tmp, hR.dfs, ⟨fun k gh hg => ?_, hR.st.inj, hR.st.low, hR.st.ext⟩, hR.frm.setN (fun k l h => by cases h)⟩
      obtain ⟨p, hp, ho⟩ := hR.st.ob k gh hg
      simp only [Env.setOb, getElem?_setN]
      by_cases hk : k = id
      · subst hk
        rw [if_pos ⟨rfl, (List.getElem?_eq_some_iff.1 hp).1⟩]
        refine ⟨_, rfl, ?_⟩
        have ho2 := ob_of hR hg
        rw [hob] at ho2
        obtain ⟨b, vs, t, h1, h2, h3, h4⟩ := ho2
        exact ⟨b, vs, t, h1, h2, h3, encVar_spec ks cs vs x (h gh b vs t hg h1 h3) h4⟩
      · rw [if_neg (fun e => hk e.1)]
        exact ⟨p, hp, ho⟩
    · exact hR
  | row id e =>
    refine ⟨hR.len, hR.tmp, hR.dfs, ⟨fun k gh hg => ?_, hR.st.inj, hR.st.low, hR.st.ext⟩, hR.frm.setN (fun k l h => by cases h)⟩
    obtain ⟨p, hp, ho⟩ := hR.st.ob k gh hg
    simp only [ShI.enc, Env.setOb, getElem?_setN]
    by_cases hk : k = id
    · subst hk
      rw [if_pos ⟨rfl, (List.getElem?_eq_some_iff.1 hp).1⟩]
      exact ⟨_, rfl, h gh hg⟩
    · rw [if_neg (fun e => hk e.1)]
      exact ⟨p, hp, ho⟩
  | tree id e =>
    refine ⟨hR.len, hR.tmp, hR.dfs, ⟨fun k gh hg => ?_, hR.st.inj, hR.st.low, hR.st.ext⟩, hR.frm.setN (fun k l h => by cases h)⟩
    obtain ⟨p, hp, ho⟩ := hR.st.ob k gh hg
    simp only [ShI.enc, Env.setOb, getElem?_setN]
    by_cases hk : k = id
    · subst hk
      rw [if_pos ⟨rfl, (List.getElem?_eq_some_iff.1 hp).1⟩]
      exact ⟨_, rfl, h gh hg⟩
    · rw [if_neg (fun e => hk e.1)]
      exact ⟨p, hp, ho⟩
  | drow id e =>
    refine ⟨hR.len, hR.tmp, hR.dfs, ⟨fun k gh hg => ?_, hR.st.inj, hR.st.low, hR.st.ext⟩, hR.frm.setN (fun k l h => by cases h)⟩
    obtain ⟨p, hp, ho⟩ := hR.st.ob k gh hg
    simp only [ShI.enc, Env.setOb, getElem?_setN]
    by_cases hk : k = id
    · subst hk
      rw [if_pos ⟨rfl, (List.getElem?_eq_some_iff.1 hp).1⟩]
      exact ⟨_, rfl, h gh hg⟩
    · rw [if_neg (fun e => hk e.1)]
      exact ⟨p, hp, ho⟩
theorem shEnc_rel : ∀ (l : List ShI) {σ : Env} (x : shDen l), Rel w0 ok0 fr σ a w G → shOk w0 ok0 a w G l x → Rel w0 ok0 fr (shEnc σ l x) a w G
  | [], _, _, h, _ => h
  | i :: is, _, x, h, hx => shEnc_rel is x.2 (enc_rel h i x.1 hx.1) hx.2
theorem Fr.enc (σ : Env) (i : ShI) (x : i.den) : Fr σ (i.enc σ x) := by
  cases i with
  | tmp i τ => exact Fr.put σ (some i) _
  | var id ks =>
    show Fr σ (match σ.ob id with | .var cs => σ.setOb id (.var (encVar ks x cs)) | _ => σ)
    split
    · exact Fr.setOb _ _ _
    · exact Fr.refl _
  | row id e => exact Fr.setOb σ id _
  | tree id e => exact Fr.setOb σ id _
  | drow id e => exact Fr.setOb σ id _
theorem Fr.shEnc : ∀ (l : List ShI) (σ : Env) (x : shDen l), Fr σ (shEnc σ l x)
  | [], σ, _ => Fr.refl σ
  | i :: is, σ, x => (Fr.enc σ i x.1).trans (Fr.shEnc is _ x.2)

/-- Blocks from number n on are forgotten. -/
theorem RC.cut {ok ok' : Nat → Prop} {G' : GM} {n : Nat} {c : AC} {v : Value} (h : RC w ok G c v) (hm : ∀ b, ok b → ok' b) (hG : ∀ id gh, id < n → G id = some gh → G' id = some gh) : RC w ok' G' (c.cut n) v := by
  cases c with
  | own i =>
    simp only [AC.cut]
    cases hb : Nat.blt i n
    · exact trivial
    · exact RC.mono (c := .own i) h (fun _ _ => rfl) hm (fun id gh hl => hG id gh (by obtain rfl : i = id := hl; simpa [Nat.blt_eq] using hb))
  | vptr i o =>
    simp only [AC.cut]
    cases hb : Nat.blt i n
    · exact trivial
    · exact RC.mono (c := .vptr i o) h (fun _ _ => rfl) hm (fun id gh hl => hG id gh (by obtain rfl : i = id := hl; simpa [Nat.blt_eq] using hb))
  | eptr i e k o =>
    simp only [AC.cut]
    cases hb : Nat.blt i n
    · exact trivial
    · exact RC.mono (c := .eptr i e k o) h (fun _ _ => rfl) hm (fun id gh hl => hG id gh (by obtain rfl : i = id := hl; simpa [Nat.blt_eq] using hb))
  | opre i e o =>
    simp only [AC.cut]
    cases hb : Nat.blt i n
    · exact trivial
    · exact RC.mono (c := .opre i e o) h (fun _ _ => rfl) hm (fun id gh hl => hG id gh (by obtain rfl : i = id := hl; simpa [Nat.blt_eq] using hb))
  | osub i e o =>
    simp only [AC.cut]
    cases hb : Nat.blt i n
    · exact trivial
    · exact RC.mono (c := .osub i e o) h (fun _ _ => rfl) hm (fun id gh hl => hG id gh (by obtain rfl : i = id := hl; simpa [Nat.blt_eq] using hb))
  | inn i o =>
    simp only [AC.cut]
    cases hb : Nat.blt i n
    · exact trivial
    · exact RC.mono (c := .inn i o) h (fun _ _ => rfl) hm (fun id gh hl => hG id gh (by obtain rfl : i = id := hl; simpa [Nat.blt_eq] using hb))
  | cloA g cs =>
    simp only [AC.cut]
    cases hb : cs.all (Cap.below n)
    · exact trivial
    · refine RC.mono (c := .cloA g cs) h (fun _ _ => rfl) hm (fun id gh hl => hG id gh ?_)
      obtain ⟨c, hc, hl⟩ := hl
      have := List.all_eq_true.1 hb c hc
      cases c with
      | vptr i o => obtain rfl : i = id := hl; simpa [Cap.below, Nat.blt_eq] using this
      | own i => obtain rfl : i = id := hl; simpa [Cap.below, Nat.blt_eq] using this
      | dat τ x => exact hl.elim
  | _ => exact RC.mono h (fun _ _ => rfl) hm (fun id gh hl => hl.elim)
theorem Rel.cut {σ : Env} (hR : Rel w0 ok0 fr σ a w G) (n : Nat) : Rel w0 ok0 fr (σ.cut n) a w (fun id => if id < n then G id else none) := by
  have hm : ∀ b, imm w0 ok0 w G b → imm w0 ok0 w (fun id => if id < n then G id else none) b := fun b hb => ⟨hb.1, hb.2.1, fun id gh hg => by
    replace hg : (if id < n then G id else none) = some gh := hg
    split at hg
    · exact hb.2.2 id gh hg
    · cases hg⟩
  have hG : ∀ id gh, id < n → G id = some gh → (if id < n then G id else none) = some gh := fun id gh h hg => by rw [if_pos h]; exact hg
  have old : ∀ id gh, (if id < n then G id else none) = some gh → id < n ∧ G id = some gh := fun id gh h => by
    split at h
    · rename_i hh; exact ⟨hh, h⟩
    · cases h
  have hrc : ∀ c v, RC w (imm w0 ok0 w G) G c v → RC w (imm w0 ok0 w (fun id => if id < n then G id else none)) (fun id => if id < n then G id else none) (c.cut n) v := fun c v h => h.cut hm hG
  refine ⟨by simp [Env.cut, hR.len], fun i p v hp hv => ?_, hR.dfs, ⟨fun id gh hg => ?_, fun i j g g' b h1 h2 => hR.st.inj i j g g' b (old _ _ h1).2 (old _ _ h2).2, fun i g b h1 => hR.st.low i g b (old _ _ h1).2, hR.st.ext⟩, fun i p k l hp hk' => ?_⟩
  rotate_left 2
  · simp only [Env.cut, List.getElem?_map, List.getElem?_take] at hp
    obtain ⟨q, hq, rfl⟩ := Option.map_eq_some_iff.1 hp
    split at hq
    · rename_i hi
      obtain ⟨l', hl'⟩ := frame_mapC hk'
      obtain ⟨gh, h1, h2⟩ := hR.frm i q k l' hq hl'
      exact ⟨gh, hG i gh hi h1, h2⟩
    · cases hq
  · simp only [Env.cut, List.getElem?_map] at hp
    obtain ⟨q, hq, rfl⟩ := Option.map_eq_some_iff.1 hp
    exact (hR.tmp i q v hq hv).mapC hrc
  · obtain ⟨hlt, hg'⟩ := old id gh hg
    obtain ⟨p, hp, ho⟩ := hR.st.ob id gh hg'
    refine ⟨(p.1, p.2.mapC (AC.cut n)), ?_, ho.mapC (fun _ _ => rfl) hm (fun _ _ => rfl) hrc⟩
    simp only [Env.cut, List.getElem?_map, List.getElem?_take, hlt, if_true, hp, Option.map_some]

/-- Only what stands there counts. -/
theorem Rel.congr {σ τ : Env} (hR : Rel w0 ok0 fr σ a w G) (ht : τ.t.length = σ.t.length) (h1 : ∀ (i : Nat) (p : Nat × AV), τ.t[i]? = some p → p.2 = .one .bad ∨ ∃ q : Nat × AV, σ.t[i]? = some q ∧ p.2 = q.2)
    (h2 : ∀ (i : Nat) (q : Nat × Ob), (∃ gh, G i = some gh) → σ.h[i]? = some q → ∃ p : Nat × Ob, τ.h[i]? = some p ∧ p.2 = q.2) (h3 : ∀ (i : Nat) (p : Nat × Ob), τ.h[i]? = some p → ∃ q : Nat × Ob, σ.h[i]? = some q ∧ q.2 = p.2) : Rel w0 ok0 fr τ a w G := by
  refine ⟨by rw [ht, hR.len], fun i p v hp hv => ?_, hR.dfs, ⟨fun id gh hg => ?_, hR.st.inj, hR.st.low, hR.st.ext⟩, fun i p k l hp hk' => by
    obtain ⟨q, hq, he⟩ := h3 i p hp
    exact hR.frm i q k l hq (he.trans hk')⟩
  · rcases h1 i p hp with hb | ⟨q, hq, he⟩
    · rw [hb]; exact trivial
    · rw [he]; exact hR.tmp i q v hq hv
  · obtain ⟨q, hq, ho⟩ := hR.st.ob id gh hg
    obtain ⟨p, hp, he⟩ := h2 id q ⟨gh, hg⟩ hq
    exact ⟨p, hp, by rw [he]; exact ho⟩

theorem sameC_eq {c d : AC} (h : sameC c d = true) : c = d := by
  unfold sameC at h
  split at h
  · rw [Nat.eq_of_beq_eq_true h]
  · simp only [Bool.and_eq_true] at h
    rw [Nat.eq_of_beq_eq_true h.1, Nat.eq_of_beq_eq_true h.2]
  · rfl
  · rfl
  · rfl
  · cases h
theorem sameV_eq {c d : AV} (h : sameV c d = true) : c = d := by
  unfold sameV at h
  split at h
  · rw [sameC_eq h]
  · cases h
theorem cut_same {n : Nat} {c : AC} (h : (!c.below n) = false) : c.cut n = c := by
  cases c <;> first | rfl | (simp only [AC.below, Bool.not_eq_false'] at h; simp only [AC.cut, h, cond_true])
theorem cut_sameL {n : Nat} : ∀ (cs : List AC), (cs.any fun c => !c.below n) = false → cs.map (AC.cut n) = cs
  | [], _ => rfl
  | c :: cs, h => by
    simp only [List.any_cons, Bool.or_eq_false_iff] at h
    rw [List.map_cons, cut_same h.1, cut_sameL cs h.2]
theorem cut_sameV {n : Nat} {v : AV} (h : (v.anyC fun c => !c.below n) = false) : v.mapC (AC.cut n) = v := by
  cases v with
  | one c => simp only [AV.mapC]; rw [cut_same h]
  | agg cs => simp only [AV.mapC]; rw [cut_sameL cs h]
  | tup vs =>
    simp only [AV.mapC, AV.anyC] at h ⊢
    congr 1
    induction vs with
    | nil => rfl
    | cons p vs ih =>
      simp only [List.any_cons, Bool.or_eq_false_iff] at h
      rw [List.map_cons, cut_sameL _ h.1, ih h.2]
theorem cut_sameO {n : Nat} {v : Ob} (h : (v.anyC fun c => !c.below n) = false) : v.mapC (AC.cut n) = v := by
  cases v with
  | var cs => simp only [Ob.mapC]; rw [cut_sameL cs h]
  | frame k l =>
    simp only [Ob.mapC, Ob.anyC] at h ⊢
    congr 1
    induction l with
    | nil => rfl
    | cons p l ih =>
      simp only [List.any_cons, Bool.or_eq_false_iff] at h
      rw [List.map_cons, cut_sameV h.1, ih h.2]
  | _ => rfl
theorem keepVar_enc {n : Nat} : ∀ (ks : List (Option Ty)) (cs ds : List AC), keepVar n ks cs ds = true → ∀ x : ksDen ks, encVar ks x cs = encVar ks x (ds.map (AC.cut n))
  | [], [], [], _, _ => rfl
  | some τ :: ks, c :: cs, d :: ds, h, x => by
    show τ.acs x.1 ++ encVar ks x.2 cs = τ.acs x.1 ++ encVar ks x.2 (ds.map (AC.cut n))
    rw [keepVar_enc ks cs ds h x.2]
  | none :: ks, c :: cs, d :: ds, h, x => by
    simp only [keepVar, Bool.and_eq_true] at h
    show c :: encVar ks x cs = d.cut n :: encVar ks x (ds.map (AC.cut n))
    rw [← sameC_eq h.1.1, cut_same (by rw [h.1.2]; rfl), keepVar_enc ks cs ds h.2 x]
  | [], [], _ :: _, h, _ => by cases h
  | [], _ :: _, _, h, _ => by cases h
  | some _ :: _, [], _, h, _ => by cases h
  | some _ :: _, _ :: _, [], h, _ => by cases h
  | none :: _, [], _, h, _ => by cases h
  | none :: _, _ :: _, [], h, _ => by cases h

/-- Two sets of plain values that are the same but for what is still to be laid. -/
structure Ag (l : List ShI) (σ τ : Env) : Prop where
  tl : σ.t.length = τ.t.length
  hl : σ.h.length = τ.h.length
  t : ∀ (i : Nat) (p q : Nat × AV), σ.t[i]? = some p → τ.t[i]? = some q → p.2 = .one .bad ∨ p.2 = q.2 ∨ l.any (ShI.hasT i) = true
  h : ∀ (i : Nat) (p q : Nat × Ob), σ.h[i]? = some p → τ.h[i]? = some q → p.2 = q.2 ∨ ∃ it ∈ l, (∃ e, it = .row i e ∨ it = .tree i e ∨ it = .drow i e) ∨ ∃ ks cs ds, it = .var i ks ∧ p.2 = .var cs ∧ q.2 = .var ds ∧ ∀ x : ksDen ks, encVar ks x cs = encVar ks x ds
theorem nth_of {α : Type} {l : List α} {i : Nat} {p d : α} (h : l[i]? = some p) : nth l i d = p := by rw [nth_eq, h]; rfl
theorem Ag.enc {it : ShI} {l : List ShI} {σ τ : Env} (h : Ag (it :: l) σ τ) (x : it.den) (hdis : ∀ n, it.obj = some n → ∀ j ∈ l, j.obj ≠ some n) : Ag l (it.enc σ x) (it.enc τ x) := by
  cases it with
  | tmp n ty =>
    refine ⟨by simp [ShI.enc, Env.put, length_setN, h.tl], h.hl, fun i p q hp hq => ?_, fun i p q hp hq => ?_⟩
    · simp only [ShI.enc, Env.put, getElem?_setN] at hp hq
      by_cases hi : i = n
      · subst hi
        by_cases hlt : i < σ.t.length
        · rw [if_pos ⟨rfl, hlt⟩] at hp
          rw [if_pos ⟨rfl, by rw [← h.tl]; exact hlt⟩] at hq
          cases hp; cases hq
          exact .inr (.inl rfl)
        · rw [if_neg (fun e => hlt e.2)] at hp
          exact absurd (List.getElem?_eq_some_iff.1 hp).1 hlt
      · rw [if_neg (fun e => hi e.1)] at hp
        rw [if_neg (fun e => hi e.1)] at hq
        rcases h.t i p q hp hq with h1 | h1 | h1
        · exact .inl h1
        · exact .inr (.inl h1)
        · simp only [List.any_cons, ShI.hasT, Bool.or_eq_true] at h1
          rcases h1 with h1 | h1
          · exact absurd (Nat.eq_of_beq_eq_true h1).symm hi
          · exact .inr (.inr h1)
    · rcases h.h i p q hp hq with h1 | ⟨it, hm, h1⟩
      · exact .inl h1
      · rcases List.mem_cons.1 hm with rfl | hm
        · rcases h1 with ⟨e, h1 | h1 | h1⟩ | ⟨_, _, _, h1, _⟩ <;> cases h1
        · exact .inr ⟨it, hm, h1⟩
  | row n e =>
    refine ⟨h.tl, by simp [ShI.enc, Env.setOb, length_setN, h.hl], fun i p q hp hq => ?_, fun i p q hp hq => ?_⟩
    · rcases h.t i p q hp hq with h1 | h1 | h1
      · exact .inl h1
      · exact .inr (.inl h1)
      · exact .inr (.inr (by simpa [ShI.hasT] using h1))
    · simp only [ShI.enc, Env.setOb, getElem?_setN] at hp hq
      by_cases hi : i = n
      · subst hi
        by_cases hlt : i < σ.h.length
        · rw [if_pos ⟨rfl, hlt⟩] at hp
          rw [if_pos ⟨rfl, by rw [← h.hl]; exact hlt⟩] at hq
          cases hp; cases hq
          exact .inl rfl
        · rw [if_neg (fun e => hlt e.2)] at hp
          exact absurd (List.getElem?_eq_some_iff.1 hp).1 hlt
      · rw [if_neg (fun e => hi e.1)] at hp
        rw [if_neg (fun e => hi e.1)] at hq
        rcases h.h i p q hp hq with h1 | ⟨it, hm, h1⟩
        · exact .inl h1
        · rcases List.mem_cons.1 hm with rfl | hm
          · rcases h1 with ⟨e', h1 | h1 | h1⟩ | ⟨_, _, _, h1, _⟩
            · cases h1; exact absurd rfl hi
            · cases h1
            · cases h1
            · cases h1
          · exact .inr ⟨it, hm, h1⟩
  | tree n e =>
    refine ⟨h.tl, by simp [ShI.enc, Env.setOb, length_setN, h.hl], fun i p q hp hq => ?_, fun i p q hp hq => ?_⟩
    · rcases h.t i p q hp hq with h1 | h1 | h1
      · exact .inl h1
      · exact .inr (.inl h1)
      · exact .inr (.inr (by simpa [ShI.hasT] using h1))
    · simp only [ShI.enc, Env.setOb, getElem?_setN] at hp hq
      by_cases hi : i = n
      · subst hi
        by_cases hlt : i < σ.h.length
        · rw [if_pos ⟨rfl, hlt⟩] at hp
          rw [if_pos ⟨rfl, by rw [← h.hl]; exact hlt⟩] at hq
          cases hp; cases hq
          exact .inl rfl
        · rw [if_neg (fun e => hlt e.2)] at hp
          exact absurd (List.getElem?_eq_some_iff.1 hp).1 hlt
      · rw [if_neg (fun e => hi e.1)] at hp
        rw [if_neg (fun e => hi e.1)] at hq
        rcases h.h i p q hp hq with h1 | ⟨it, hm, h1⟩
        · exact .inl h1
        · rcases List.mem_cons.1 hm with rfl | hm
          · rcases h1 with ⟨e', h1 | h1 | h1⟩ | ⟨_, _, _, h1, _⟩
            · cases h1
            · cases h1; exact absurd rfl hi
            · cases h1
            · cases h1
          · exact .inr ⟨it, hm, h1⟩
  | drow n e =>
    refine ⟨h.tl, by simp [ShI.enc, Env.setOb, length_setN, h.hl], fun i p q hp hq => ?_, fun i p q hp hq => ?_⟩
    · rcases h.t i p q hp hq with h1 | h1 | h1
      · exact .inl h1
      · exact .inr (.inl h1)
      · exact .inr (.inr (by simpa [ShI.hasT] using h1))
    · simp only [ShI.enc, Env.setOb, getElem?_setN] at hp hq
      by_cases hi : i = n
      · subst hi
        by_cases hlt : i < σ.h.length
        · rw [if_pos ⟨rfl, hlt⟩] at hp
          rw [if_pos ⟨rfl, by rw [← h.hl]; exact hlt⟩] at hq
          cases hp; cases hq
          exact .inl rfl
        · rw [if_neg (fun e => hlt e.2)] at hp
          exact absurd (List.getElem?_eq_some_iff.1 hp).1 hlt
      · rw [if_neg (fun e => hi e.1)] at hp
        rw [if_neg (fun e => hi e.1)] at hq
        rcases h.h i p q hp hq with h1 | ⟨it, hm, h1⟩
        · exact .inl h1
        · rcases List.mem_cons.1 hm with rfl | hm
          · rcases h1 with ⟨e', h1 | h1 | h1⟩ | ⟨_, _, _, h1, _⟩
            · cases h1
            · cases h1
            · cases h1; exact absurd rfl hi
            · cases h1
          · exact .inr ⟨it, hm, h1⟩
  | var n ks =>
    have obv : ∀ (ρ : Env) (cs : List AC), ρ.ob n = .var cs → (ShI.var n ks).enc ρ x = ρ.setOb n (.var (encVar ks x cs)) := fun ρ cs hc => by
      show (match ρ.ob n with | .var cs => ρ.setOb n (.var (encVar ks x cs)) | _ => ρ) = _
      rw [hc]
    have obn : ∀ (ρ : Env), (∀ cs, ρ.ob n ≠ .var cs) → (ShI.var n ks).enc ρ x = ρ := fun ρ hc => by
      show (match ρ.ob n with | .var cs => ρ.setOb n (.var (encVar ks x cs)) | _ => ρ) = _
      cases ho : ρ.ob n with
      | var cs => exact absurd ho (hc cs)
      | row e xs => rfl
      | gone => rfl
      | frame k l => rfl
      | tree e xs p => rfl
      | drow e xs => rfl
    have len : ∀ (ρ : Env), ((ShI.var n ks).enc ρ x).t = ρ.t ∧ ((ShI.var n ks).enc ρ x).h.length = ρ.h.length := fun ρ => by
      cases ho : ρ.ob n with
      | var cs => rw [obv ρ cs ho]; simp [Env.setOb, length_setN]
      | row e xs => rw [obn ρ (fun cs h => by rw [ho] at h; cases h)]; exact ⟨rfl, rfl⟩
      | gone => rw [obn ρ (fun cs h => by rw [ho] at h; cases h)]; exact ⟨rfl, rfl⟩
      | frame k l => rw [obn ρ (fun cs h => by rw [ho] at h; cases h)]; exact ⟨rfl, rfl⟩
      | tree e xs p => rw [obn ρ (fun cs h => by rw [ho] at h; cases h)]; exact ⟨rfl, rfl⟩
      | drow e xs => rw [obn ρ (fun cs h => by rw [ho] at h; cases h)]; exact ⟨rfl, rfl⟩
    have other : ∀ (ρ : Env) (i : Nat), i ≠ n → ((ShI.var n ks).enc ρ x).h[i]? = ρ.h[i]? := fun ρ i hi => by
      cases ho : ρ.ob n with
      | var cs => rw [obv ρ cs ho]; simp only [Env.setOb, getElem?_setN]; rw [if_neg (fun e => hi e.1)]
      | row e xs => rw [obn ρ (fun cs h => by rw [ho] at h; cases h)]
      | gone => rw [obn ρ (fun cs h => by rw [ho] at h; cases h)]
      | frame k l => rw [obn ρ (fun cs h => by rw [ho] at h; cases h)]
      | tree e xs p => rw [obn ρ (fun cs h => by rw [ho] at h; cases h)]
      | drow e xs => rw [obn ρ (fun cs h => by rw [ho] at h; cases h)]
    have self : ∀ (ρ : Env) (p : Nat × Ob), ((ShI.var n ks).enc ρ x).h[n]? = some p → ∃ p0 : Nat × Ob, ρ.h[n]? = some p0 ∧ ((∃ cs, p0.2 = .var cs ∧ p.2 = .var (encVar ks x cs)) ∨ ((∀ cs, p0.2 ≠ .var cs) ∧ p.2 = p0.2)) := fun ρ p hp => by
      have hlt : n < ρ.h.length := by rw [← (len ρ).2]; exact (List.getElem?_eq_some_iff.1 hp).1
      refine ⟨ρ.h[n], List.getElem?_eq_getElem hlt, ?_⟩
      have hob : ρ.ob n = ρ.h[n].2 := by rw [Env.ob, nth_of (List.getElem?_eq_getElem hlt)]
      cases ho : ρ.ob n with
      | var cs =>
        rw [obv ρ cs ho] at hp
        simp only [Env.setOb, getElem?_setN] at hp
        rw [if_pos (by exact ⟨trivial, hlt⟩)] at hp
        cases hp
        exact .inl ⟨cs, by rw [← hob, ho], rfl⟩
      | row e xs =>
        rw [obn ρ (fun cs h => by rw [ho] at h; cases h), List.getElem?_eq_getElem hlt] at hp
        cases hp
        exact .inr ⟨(fun cs h => by rw [← hob, ho] at h; cases h), rfl⟩
      | gone =>
        rw [obn ρ (fun cs h => by rw [ho] at h; cases h), List.getElem?_eq_getElem hlt] at hp
        cases hp
        exact .inr ⟨(fun cs h => by rw [← hob, ho] at h; cases h), rfl⟩
      | frame k l =>
        rw [obn ρ (fun cs h => by rw [ho] at h; cases h), List.getElem?_eq_getElem hlt] at hp
        cases hp
        exact .inr ⟨(fun cs h => by rw [← hob, ho] at h; cases h), rfl⟩
      | tree e xs p =>
        rw [obn ρ (fun cs h => by rw [ho] at h; cases h), List.getElem?_eq_getElem hlt] at hp
        cases hp
        exact .inr ⟨(fun cs h => by rw [← hob, ho] at h; cases h), rfl⟩
      | drow e xs =>
        rw [obn ρ (fun cs h => by rw [ho] at h; cases h), List.getElem?_eq_getElem hlt] at hp
        cases hp
        exact .inr ⟨(fun cs h => by rw [← hob, ho] at h; cases h), rfl⟩
    refine ⟨by rw [(len σ).1, (len τ).1]; exact h.tl, by rw [(len σ).2, (len τ).2]; exact h.hl, fun i p q hp hq => ?_, fun i p q hp hq => ?_⟩
    · rw [(len σ).1] at hp
      rw [(len τ).1] at hq
      rcases h.t i p q hp hq with h1 | h1 | h1
      · exact .inl h1
      · exact .inr (.inl h1)
      · exact .inr (.inr (by simpa [ShI.hasT] using h1))
    · by_cases hi : i = n
      · subst hi
        obtain ⟨p0, hp0, hpp⟩ := self σ p hp
        obtain ⟨q0, hq0, hqq⟩ := self τ q hq
        rcases h.h i p0 q0 hp0 hq0 with h1 | ⟨it, hm, h1⟩
        · rcases hpp with ⟨cs, hc, hpe⟩ | ⟨hn, hpe⟩
          · rcases hqq with ⟨ds, hd, hqe⟩ | ⟨hn, _⟩
            · rw [h1, hd] at hc
              cases hc
              exact .inl (by rw [hpe, hqe])
            · exact absurd (h1 ▸ hc) (hn _)
          · rcases hqq with ⟨ds, hd, _⟩ | ⟨_, hqe⟩
            · exact absurd (h1.trans hd) (hn _)
            · exact .inl (by rw [hpe, hqe, h1])
        · rcases List.mem_cons.1 hm with rfl | hm
          · rcases h1 with ⟨e, h1 | h1 | h1⟩ | ⟨ks', cs, ds, h1, hc, hd, he⟩
            · cases h1
            · cases h1
            · cases h1
            · cases h1
              rcases hpp with ⟨cs', hc', hpe⟩ | ⟨hn, _⟩
              · rcases hqq with ⟨ds', hd', hqe⟩ | ⟨hn, _⟩
                · rw [hc] at hc'
                  rw [hd] at hd'
                  cases hc'; cases hd'
                  exact .inl (by rw [hpe, hqe, he x])
                · exact absurd hd (hn _)
              · exact absurd hc (hn _)
          · exfalso
            have := hdis i rfl it hm
            rcases h1 with ⟨e, h1 | h1 | h1⟩ | ⟨ks', cs, ds, h1, _⟩ <;> (subst h1; exact this rfl)
      · rw [other σ i hi] at hp
        rw [other τ i hi] at hq
        rcases h.h i p q hp hq with h1 | ⟨it, hm, h1⟩
        · exact .inl h1
        · rcases List.mem_cons.1 hm with rfl | hm
          · rcases h1 with ⟨e', h1 | h1 | h1⟩ | ⟨_, _, _, h1, _⟩
            · cases h1
            · cases h1
            · cases h1
            · cases h1; exact absurd rfl hi
          · exact .inr ⟨it, hm, h1⟩
theorem distinctObj_spec {i : ShI} {is : List ShI} (h : distinctObj (i :: is) = true) : (∀ n, i.obj = some n → ∀ j ∈ is, j.obj ≠ some n) ∧ distinctObj is = true := by
  simp only [distinctObj, Bool.and_eq_true] at h
  refine ⟨fun n hn j hj hjn => ?_, h.2⟩
  have h1 := h.1
  rw [hn] at h1
  simp only [Bool.not_eq_true', List.any_eq_false] at h1
  have := h1 j hj
  rw [hjn] at this
  simp at this
theorem Ag.all : ∀ (l : List ShI) {σ τ : Env} (x : shDen l), distinctObj l = true → Ag l σ τ → Ag [] (shEnc σ l x) (shEnc τ l x)
  | [], _, _, _, _, h => h
  | i :: is, _, _, x, hd, h => Ag.all is x.2 (distinctObj_spec hd).2 (h.enc x.1 (distinctObj_spec hd).1)

theorem sameT_spec {sh : List ShI} {n : Nat} : ∀ {as bs : List (Nat × AV)} {k : Nat}, sameT sh n k as bs = true → as.length = bs.length ∧ ∀ i p q, as[i]? = some p → bs[i]? = some q →
    sh.any (ShI.hasT (k + i)) = true ∨ p.2 = .one .bad ∨ ((p.1 = q.1 ∨ p.2 = q.2) ∧ (p.2.anyC fun c => !c.below n) = false)
  | [], [], k, _ => ⟨rfl, fun i p q h => by simp at h⟩
  | [], _ :: _, _, h => by cases h
  | _ :: _, [], _, h => by cases h
  | a :: as, b :: bs, k, h => by
    simp only [sameT, Bool.and_eq_true, Bool.or_eq_true, beq_iff_eq] at h
    obtain ⟨h1, h2⟩ := h
    obtain ⟨g1, g2⟩ := sameT_spec h2
    refine ⟨by simp [g1], fun i p q hp hq => ?_⟩
    cases i with
    | zero =>
      simp only [List.getElem?_cons_zero, Option.some.injEq] at hp hq
      subst hp hq
      rcases h1 with (h1 | h1) | ⟨h1, h3⟩
      · exact .inl h1
      · refine .inr (.inl ?_)
        unfold isBad at h1
        split at h1
        · assumption
        · cases h1
      · exact .inr (.inr ⟨h1.imp Nat.eq_of_beq_eq_true sameV_eq, h3⟩)
    | succ i =>
      have := g2 i p q (by simpa using hp) (by simpa using hq)
      rwa [show k + 1 + i = k + (i + 1) by omega] at this
theorem sameH_spec {sh : List ShI} {n : Nat} : ∀ {as bs : List (Nat × Ob)} {k : Nat}, sameH sh n k as bs = true → as.length = bs.length ∧ ∀ i p q, as[i]? = some p → bs[i]? = some q →
    sh.any (ShI.hasH n (k + i) p.2 q.2) = true ∨ (p.1 = q.1 ∧ (p.2.anyC fun c => !c.below n) = false)
  | [], [], k, _ => ⟨rfl, fun i p q h => by simp at h⟩
  | [], _ :: _, _, h => by cases h
  | _ :: _, [], _, h => by cases h
  | a :: as, b :: bs, k, h => by
    simp only [sameH, Bool.and_eq_true, Bool.or_eq_true, beq_iff_eq] at h
    obtain ⟨h1, h2⟩ := h
    obtain ⟨g1, g2⟩ := sameH_spec h2
    refine ⟨by simp [g1], fun i p q hp hq => ?_⟩
    cases i with
    | zero =>
      simp only [List.getElem?_cons_zero, Option.some.injEq] at hp hq
      subst hp hq
      exact h1.imp id fun h => ⟨Nat.eq_of_beq_eq_true h.1, h.2⟩
    | succ i =>
      have := g2 i p q (by simpa using hp) (by simpa using hq)
      rwa [show k + 1 + i = k + (i + 1) by omega] at this

/-- At a round's end: the head's plain values, the carried data laid anew. -/
theorem back_rel {σ0 σ' : Env} {sh : List ShI} {s s' : shDen sh} (hR : Rel w0 ok0 fr σ' a w G) (hF : Fr (shEnc σ0 sh s) σ') (hd : distinctObj sh = true)
    (ht : sameT sh σ0.h.length 0 σ0.t σ'.t = true) (hh : sameH sh σ0.h.length 0 σ0.h (σ'.h.take σ0.h.length) = true) (hs : shDec (σ'.cut σ0.h.length) sh = some s') : ∃ G', Rel w0 ok0 fr (shEnc σ0 sh s') a w G' := by
  have hc := hR.cut σ0.h.length
  have hok := shDec_ok hc sh s' hs
  have hrel := shEnc_rel sh s' hc hok
  obtain ⟨tl, t2⟩ := sameT_spec ht
  obtain ⟨hl, h2⟩ := sameH_spec hh
  have hF0 := (Fr.shEnc sh σ0 s).trans hF
  have hlen : σ0.h.length ≤ σ'.h.length := hF0.hl
  have hag : Ag sh σ0 (σ'.cut σ0.h.length) := by
    refine ⟨by simp [Env.cut, tl], by simp [Env.cut]; omega, fun i p q hp hq => ?_, fun i p q hp hq => ?_⟩
    · simp only [Env.cut, List.getElem?_map] at hq
      obtain ⟨q', hq', rfl⟩ := Option.map_eq_some_iff.1 hq
      rcases t2 i p q' hp hq' with h1 | h1 | ⟨h1, h3⟩
      · rw [Nat.zero_add] at h1; exact .inr (.inr h1)
      · exact .inl h1
      · refine .inr (.inl ?_)
        have e : q'.2 = p.2 := by
          rcases h1 with h1 | h1
          · rw [(hF0.t i p q' hp hq').2 h1.symm]
          · exact h1.symm
        rw [e, cut_sameV h3]
    · simp only [Env.cut, List.getElem?_map] at hq
      obtain ⟨q', hq', rfl⟩ := Option.map_eq_some_iff.1 hq
      have hlt : i < σ0.h.length := (List.getElem?_eq_some_iff.1 hp).1
      have hq'' : σ'.h[i]? = some q' := by rw [List.getElem?_take, if_pos hlt] at hq'; exact hq'
      rcases h2 i p q' hp hq' with h1 | ⟨h1, h3⟩
      · obtain ⟨it, hm, hit⟩ := List.any_eq_true.1 h1
        rw [Nat.zero_add] at hit
        cases it with
        | tmp j τ => cases hit
        | row j e =>
          obtain rfl : j = i := Nat.eq_of_beq_eq_true hit
          exact .inr ⟨_, hm, .inl ⟨e, .inl rfl⟩⟩
        | tree j e =>
          obtain rfl : j = i := Nat.eq_of_beq_eq_true hit
          exact .inr ⟨_, hm, .inl ⟨e, .inr (.inl rfl)⟩⟩
        | drow j e =>
          obtain rfl : j = i := Nat.eq_of_beq_eq_true hit
          exact .inr ⟨_, hm, .inl ⟨e, .inr (.inr rfl)⟩⟩
        | var j ks =>
          simp only [ShI.hasH, Bool.and_eq_true] at hit
          obtain ⟨hj, hkv⟩ := hit
          obtain rfl : j = i := Nat.eq_of_beq_eq_true hj
          split at hkv
          · rename_i cs ds hcs hds
            refine .inr ⟨_, hm, .inr ⟨ks, cs, ds.map (AC.cut σ0.h.length), rfl, hcs, by rw [hds]; rfl, fun x => ?_⟩⟩
            exact keepVar_enc ks cs ds hkv x
          · cases hkv
      · have e : q' = p := (hF0.h i p q' hp hq'').2 h1.symm
        rw [e]
        exact .inl (cut_sameO h3).symm
  have hfin := Ag.all sh s' hd hag
  refine ⟨_, hrel.congr hfin.tl (fun i p hp => ?_) (fun i q _ hq => ?_) (fun i p hp => ?_)⟩
  · have hlt : i < (shEnc (σ'.cut σ0.h.length) sh s').t.length := by rw [← hfin.tl]; exact (List.getElem?_eq_some_iff.1 hp).1
    rcases hfin.t i p _ hp (List.getElem?_eq_getElem hlt) with h | h | h
    · exact .inl h
    · exact .inr ⟨_, List.getElem?_eq_getElem hlt, h⟩
    · cases h
  · have hlt : i < (shEnc σ0 sh s').h.length := by rw [hfin.hl]; exact (List.getElem?_eq_some_iff.1 hq).1
    refine ⟨_, List.getElem?_eq_getElem hlt, ?_⟩
    rcases hfin.h i _ q (List.getElem?_eq_getElem hlt) hq with h | ⟨it, hm, _⟩
    · exact h
    · cases hm
  · have hlt : i < (shEnc (σ'.cut σ0.h.length) sh s').h.length := by rw [← hfin.hl]; exact (List.getElem?_eq_some_iff.1 hp).1
    refine ⟨_, List.getElem?_eq_getElem hlt, ?_⟩
    rcases hfin.h i p _ hp (List.getElem?_eq_getElem hlt) with h | ⟨it, hm, _⟩
    · exact h.symm
    · cases hm
end
end Go.Proofs.YtbdokiecpmhjmaaGreatDoor
