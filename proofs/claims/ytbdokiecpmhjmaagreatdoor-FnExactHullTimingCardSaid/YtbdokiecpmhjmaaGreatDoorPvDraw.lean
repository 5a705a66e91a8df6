/- A region whose order is drawn. No condition of its own. -/
import Derived.Test.YtbdokiecpmhjmaaGreatDoorPvReg
import Derived.Orders
namespace Go.Proofs.YtbdokiecpmhjmaaGreatDoor
set_option linter.unusedSimpArgs false
set_option linter.unusedVariables false
open Go.RowKit

section
variable {ρ : Type} {P : Program} {C : Ctx} {Pre : World → Prop} {w0 : World} {ok0 : Nat → Prop} {fr : Nat → Value}

theorem Env.refine_same {σ : Env} {n : Nat} {b : Bool} (h : (nth σ.t n (0, .one .bad)).2 = .one (.bool b)) : σ.refine (.tmp n) b = σ := by
  have : setN σ.t n ((nth σ.t n (0, .one .bad)).1, .one (.bool b)) = σ.t := by
    apply List.ext_getElem?
    intro i
    rw [getElem?_setN]
    split
    · rename_i hi
      obtain ⟨rfl, hlt⟩ := hi
      rw [nth_eq, List.getElem?_eq_getElem hlt] at h ⊢
      simp only [Option.getD_some] at h ⊢
      rw [← h]
    · rfl
  simp only [Env.refine]
  rw [this]

abbrev En := AV × List (Nat × Ob)
def stepEnv (σ : Env) (o : Oper) (e : En) : Env := Env.put { σ with h := σ.h ++ e.2 } o.dst e.1
/-- What an operation of the text has come to. -/
def vpK (σ : Env) : Op → Prop
  | .move _ => True
  | .fieldAddr _ x _ => ∃ id off, σ.ev x = .one (.vptr id off)
  | .load _ x => ∃ id off, σ.ev x = .one (.vptr id off)
  | _ => False
/-- It only looks up. -/
def PureL (P : Program) (C : Ctx) (σ : Env) (o : Oper) (e : En) : Prop := vpK σ o.op → e.2 = [] ∧ opK P C noInl σ o (fun v τ => some (v, τ)) = some (e.1, σ)
def GoodE (P : Program) (C : Ctx) (w0 : World) (ok0 : Nat → Prop) (ops : List Oper) (σ : Env) (o : Oper) (e : En) : Prop :=
  (o.guard = none ∧ Stable P w0 ok0 σ e.2 o e.1 ∧ PureL P C σ o e) ∨
  ∃ j want d, o.guard = some (j, want) ∧ guardTmp ops j = some d ∧
    (((nth σ.t d (0, .one .bad)).2 = .one (.bool want) ∧ Stable P w0 ok0 σ e.2 o e.1) ∨
     (((nth σ.t d (0, .one .bad)).2 = .one (.bool (!want)) ∨ (nth σ.t d (0, .one .bad)).2 = .one .und) ∧ e = (.one .und, [])))
inductive Trace (P : Program) (C : Ctx) (w0 : World) (ok0 : Nat → Prop) (ops : List Oper) : List Oper → Env → List En → Env → Prop
  | nil (σ : Env) : Trace P C w0 ok0 ops [] σ [] σ
  | cons {o : Oper} {l : List Oper} {σ σ' : Env} {e : En} {es : List En} : GoodE P C w0 ok0 ops σ o e → Trace P C w0 ok0 ops l (stepEnv σ o e) es σ' → Trace P C w0 ok0 ops (o :: l) σ (e :: es) σ'

theorem loadK_bind {σ : Env} {t : TypeId} {cs : List AC} {off : Nat} {K : AV → Env → Option ρ} {r : ρ} (h : loadK P σ t cs off K = some r) : ∃ v, loadK P σ t cs off (fun v τ => some (v, τ)) = some (v, σ) ∧ K v σ = some r := by
  unfold loadK at h ⊢
  split at h
  · rename_i d hd
    cases hb : aggD d
    · rw [hb, cond_false] at h
      obtain ⟨h1, h2⟩ := bif_some h
      simp only [cond_false, h1, cond_true]
      exact ⟨_, rfl, h2⟩
    · rw [hb, cond_true] at h
      obtain ⟨h1, h2⟩ := bif_some h
      simp only [h1, cond_true]
      exact ⟨_, rfl, h2⟩
  · cases h
theorem opK_bind {σ : Env} {o : Oper} {K : AV → Env → Option ρ} {r : ρ} (hv : vpK σ o.op) (h : opK P C noInl σ o K = some r) : ∃ v, opK P C noInl σ o (fun v τ => some (v, τ)) = some (v, σ) ∧ K v σ = some r := by
  cases ho : o.op with
  | move x =>
    simp only [opK, ho] at h ⊢
    exact ⟨_, rfl, h⟩
  | fieldAddr s x f =>
    rw [ho] at hv
    obtain ⟨id, off, hx⟩ := hv
    cases hf : fieldOf P s f with
    | none => simp only [opK, ho, hx, hf] at h; cases h
    | some p =>
      obtain ⟨fo, ft⟩ := p
      simp only [opK, ho, hx, hf] at h ⊢
      obtain ⟨h1, h2⟩ := bif_some h
      simp only [h1, cond_true]
      exact ⟨_, rfl, h2⟩
  | load t x =>
    rw [ho] at hv
    obtain ⟨id, off, hx⟩ := hv
    simp only [opK, ho, hx] at h ⊢
    split at h
    · rename_i cs hcs
      exact loadK_bind h
    · cases h
  | _ => rw [ho] at hv; exact absurd hv (by simp [vpK])
theorem trace_of (hp : Place P C Pre w0 ok0) (ops : List Oper) : ∀ (l rest : List Oper) (σ : Env) (K : Env → Option ρ) (r : ρ), l.all stableB = true → regK P C noInl ops (l ++ rest) σ K = some r →
    ∃ es σ', Trace P C w0 ok0 ops l σ es σ' ∧ regK P C noInl ops rest σ' K = some r
  | [], rest, σ, K, r, _, h => ⟨[], σ, .nil σ, h⟩
  | o :: l, rest, σ, K, r, hs, h => by
    simp only [List.all_cons, Bool.and_eq_true] at hs
    have on : (∀ D v, Stable P w0 ok0 σ D o v → PureL P C σ o (v, D) → GoodE P C w0 ok0 ops σ o (v, D)) → opK P C noInl σ o (fun v σ' => regK P C noInl ops (l ++ rest) (σ'.put o.dst v) K) = some r → ∃ es σ', Trace P C w0 ok0 ops (o :: l) σ es σ' ∧ regK P C noInl ops rest σ' K = some r := by
      intro hg hk
      by_cases hv : vpK σ o.op
      · obtain ⟨v, h0, h1⟩ := opK_bind hv hk
        obtain ⟨v', D, h2, h3⟩ := goes_stable hp hs.1 h0
        simp only [Option.some.injEq, Prod.mk.injEq] at h2
        obtain ⟨rfl, h2⟩ := h2
        have hD : D = [] := by
          have := congrArg (fun e : Env => e.h.length) h2
          simp only [List.length_append] at this
          exact List.eq_nil_of_length_eq_zero (by omega)
        subst hD
        obtain ⟨es, σ', g1, g2⟩ := trace_of hp ops l rest _ K r hs.2 h1
        have e : stepEnv σ o (v', []) = σ.put o.dst v' := by simp [stepEnv]
        exact ⟨(v', []) :: es, σ', .cons (hg [] v' h3 fun _ => ⟨rfl, h0⟩) (by rw [e]; exact g1), g2⟩
      · obtain ⟨v, D, h1, h2⟩ := goes_stable hp hs.1 hk
        obtain ⟨es, σ', g1, g2⟩ := trace_of hp ops l rest _ K r hs.2 h1
        exact ⟨(v, D) :: es, σ', .cons (hg D v h2 fun h => absurd h hv) g1, g2⟩
    have off : GoodE P C w0 ok0 ops σ o (.one .und, []) → regK P C noInl ops (l ++ rest) (σ.put o.dst (.one .und)) K = some r → ∃ es σ', Trace P C w0 ok0 ops (o :: l) σ es σ' ∧ regK P C noInl ops rest σ' K = some r := by
      intro hg hk
      have e : stepEnv σ o (.one .und, []) = σ.put o.dst (.one .und) := by simp [stepEnv]
      obtain ⟨es, σ', g1, g2⟩ := trace_of hp ops l rest _ K r hs.2 hk
      exact ⟨(.one .und, []) :: es, σ', .cons hg (by rw [e]; exact g1), g2⟩
    rw [List.cons_append] at h
    unfold regK at h
    split at h
    · rename_i hg
      simp only [frzAfter_stable hs.1] at h
      exact on (fun D v hst hpl => .inl ⟨hg, hst, hpl⟩) h
    · rename_i j want hg
      split at h
      · cases h
      · rename_i d hd
        split at h
        · rename_i hu
          exact off (.inr ⟨j, want, d, hg, hd, .inr ⟨.inr hu, rfl⟩⟩) h
        · rename_i b hb
          cases want <;> cases b <;> simp only [cond_true, cond_false] at h <;> rw [Env.refine_same hb] at h
          · exact on (fun D v hst _ => .inr ⟨j, _, d, hg, hd, .inl ⟨hb, hst⟩⟩) h
          · exact off (.inr ⟨j, _, d, hg, hd, .inr ⟨.inl hb, rfl⟩⟩) h
          · exact off (.inr ⟨j, _, d, hg, hd, .inr ⟨.inl hb, rfl⟩⟩) h
          · exact on (fun D v hst _ => .inr ⟨j, _, d, hg, hd, .inl ⟨hb, hst⟩⟩) h
        · cases h

theorem dstOf_shift : ∀ (l : List Oper) (i t : Nat), dstOf l (i + 1) t = (dstOf l i t).map (· + 1)
  | [], _, _ => rfl
  | o :: os, i, t => by
    simp only [dstOf]
    cases o.dst with
    | none => exact dstOf_shift os (i + 1) t
    | some d =>
      dsimp only
      cases Nat.beq d t
      · exact dstOf_shift os (i + 1) t
      · rfl
theorem dstOf_cons (o : Oper) (os : List Oper) (t : Nat) : dstOf (o :: os) 0 t = if o.dst = some t then some 0 else (dstOf os 0 t).map (· + 1) := by
  simp only [dstOf]
  cases hd : o.dst with
  | none => simp [dstOf_shift]
  | some d =>
    by_cases h : d = t
    · subst h; simp [Nat.beq_refl]
    · have : Nat.beq d t = false := by
        cases hb : Nat.beq d t
        · rfl
        · exact absurd (Nat.eq_of_beq_eq_true hb) h
      simp [h, this, dstOf_shift]
theorem dstOf_spec : ∀ (l : List Oper) (t j : Nat), dstOf l 0 t = some j → ∃ o, l[j]? = some o ∧ o.dst = some t
  | [], _, _, h => by cases h
  | o :: os, t, j, h => by
    rw [dstOf_cons] at h
    split at h
    · rename_i hd; cases h; exact ⟨o, rfl, hd⟩
    · obtain ⟨k, hk, rfl⟩ := Option.map_eq_some_iff.1 h
      exact dstOf_spec os t k hk
theorem dstOf_all : ∀ (l : List Oper), dstsOk l = true → ∀ (j t : Nat) (o : Oper), l[j]? = some o → o.dst = some t → dstOf l 0 t = some j
  | [], _, j, t, o, h, _ => by simp at h
  | o' :: os, hd, j, t, o, h, ht => by
    simp only [dstsOk, Bool.and_eq_true] at hd
    rw [dstOf_cons]
    cases j with
    | zero =>
      simp only [List.getElem?_cons_zero, Option.some.injEq] at h
      subst h
      rw [if_pos ht]
    | succ j =>
      simp only [List.getElem?_cons_succ] at h
      have := dstOf_all os hd.2 j t o h ht
      rw [this]
      split
      · rename_i h'
        have h1 := hd.1
        rw [h'] at h1
        simp [this] at h1
      · rfl
theorem dstOf_left {l rest : List Oper} {t j : Nat} (h : dstOf l 0 t = some j) : dstOf (l ++ rest) 0 t = some j := by
  induction l generalizing j with
  | nil => cases h
  | cons o os ih =>
    rw [List.cons_append, dstOf_cons]
    rw [dstOf_cons] at h
    split at h
    · rename_i hd; rw [if_pos hd]; exact h
    · rename_i hd
      rw [if_neg hd]
      obtain ⟨k, hk, rfl⟩ := Option.map_eq_some_iff.1 h
      rw [ih hk]; rfl
theorem dstOf_right {l rest : List Oper} {t j : Nat} (h : dstOf (l ++ rest) 0 t = some j) (hj : j < l.length) : dstOf l 0 t = some j := by
  induction l generalizing j with
  | nil => simp at hj
  | cons o os ih =>
    rw [List.cons_append, dstOf_cons] at h
    rw [dstOf_cons]
    split at h
    · rename_i hd; rw [if_pos hd]; exact h
    · rename_i hd
      rw [if_neg hd]
      obtain ⟨k, hk, rfl⟩ := Option.map_eq_some_iff.1 h
      rw [ih hk (by simp at hj; omega)]; rfl
theorem dstsOk_left {l rest : List Oper} (h : dstsOk (l ++ rest) = true) : dstsOk l = true := by
  induction l with
  | nil => rfl
  | cons o os ih =>
    rw [List.cons_append] at h
    simp only [dstsOk, Bool.and_eq_true] at h ⊢
    refine ⟨?_, ih h.2⟩
    have h1 := h.1
    cases hd : o.dst with
    | none => rfl
    | some d =>
      rw [hd] at h1
      simp only at h1 ⊢
      cases hk : dstOf os 0 d with
      | none => rfl
      | some k => rw [dstOf_left hk] at h1; cases h1

/-- A slot when those of L have come up. -/
def expAV (l : List Oper) (es : List En) (σ : Env) (L : Nat → Bool) (t : Nat) : AV := match dstOf l 0 t with
  | some j => if L j then (es.map (·.1)).getD j (.one .bad) else (nth σ.t t (0, .one .bad)).2
  | none => (nth σ.t t (0, .one .bad)).2
def offs (σ : Env) (es : List En) (k : Nat) : Nat := σ.h.length + ((es.take k).map (·.2.length)).sum
theorem offs_cons (σ : Env) (o : Oper) (e : En) (es : List En) (k : Nat) : offs σ (e :: es) (k + 1) = offs (stepEnv σ o e) es k := by
  have : (stepEnv σ o e).h.length = σ.h.length + e.2.length := by
    unfold stepEnv Env.put
    split <;> simp
  simp [offs, this]; omega
theorem offs_le (σ : Env) (es : List En) (k : Nat) (e : En) (h : es[k]? = some e) : ∀ m, k < m → offs σ es k + e.2.length ≤ offs σ es m := by
  intro m hm
  have hlt := (List.getElem?_eq_some_iff.1 h).1
  have hke : es[k] = e := (List.getElem?_eq_some_iff.1 h).2
  unfold offs
  have h1 : (es.take (k + 1)) = es.take k ++ [e] := by rw [List.take_succ_eq_append_getElem hlt, hke]
  have h2 : es.take m = es.take (k + 1) ++ (es.drop (k + 1)).take (m - (k + 1)) := by
    rw [← List.take_add]; congr 1; omega
  rw [h2, h1]
  simp [Nat.add_assoc]
theorem stepEnv_t (σ : Env) (o : Oper) (e : En) (t : Nat) : (nth (stepEnv σ o e).t t (0, .one .bad)).2 = if o.dst = some t ∧ t < σ.t.length then e.1 else (nth σ.t t (0, .one .bad)).2 := by
  unfold stepEnv Env.put
  cases o.dst with
  | none => simp
  | some d =>
    simp only [nth_eq, getElem?_setN]
    by_cases h : t = d
    · subst h
      by_cases hl : t < σ.t.length
      · simp [hl]
      · simp [hl]
    · rw [if_neg (fun x => h x.1), if_neg (fun x => h (Option.some.inj x.1).symm)]
theorem stepEnv_len (σ : Env) (o : Oper) (e : En) : (stepEnv σ o e).t.length = σ.t.length := by
  unfold stepEnv Env.put
  split <;> simp [length_setN]
theorem stepEnv_h (σ : Env) (o : Oper) (e : En) : (stepEnv σ o e).h = σ.h ++ e.2 := by
  unfold stepEnv Env.put
  split <;> rfl
theorem Fr.stepEnv (σ : Env) (o : Oper) (e : En) : Fr σ (stepEnv σ o e) := (Fr.newObs σ e.2).trans (Fr.put _ _ _)

theorem Pfx.append (h D : List (Nat × Ob)) : Pfx h (h ++ D) := fun i p hi => ⟨p, by rw [List.getElem?_append_left (List.getElem?_eq_some_iff.1 hi).1]; exact hi, rfl⟩
theorem Pfx.trans' {a b c : List (Nat × Ob)} (h : Pfx a b) (k : Pfx b c) : Pfx a c := fun i p hi => by
  obtain ⟨p', h1, h2⟩ := h i p hi
  obtain ⟨p'', k1, k2⟩ := k i p' h1
  exact ⟨p'', k1, k2.trans h2⟩
theorem Trace.pfx {ops l : List Oper} {σ σ' : Env} {es : List En} (h : Trace P C w0 ok0 ops l σ es σ') : Pfx σ.h σ'.h := by
  induction h with
  | nil σ => exact fun i p hi => ⟨p, hi, rfl⟩
  | @cons o l σ σ' e es hg ht ih => rw [stepEnv_h] at ih; exact (Pfx.append _ _).trans' ih
theorem GoodE.nf {ops : List Oper} {σ : Env} {o : Oper} {e : En} (h : GoodE P C w0 ok0 ops σ o e) : NoFrames e.2 := by
  rcases h with ⟨_, h, _⟩ | ⟨_, _, _, _, _, ⟨_, h⟩ | ⟨_, h⟩⟩
  · exact h.1
  · exact h.1
  · rw [h]; intro p hp; simp at hp
theorem Trace.frames {ops l : List Oper} {σ σ' : Env} {es : List En} (h : Trace P C w0 ok0 ops l σ es σ') : ∀ (id : Nat) (p : Nat × Ob) (k : Nat) (m : List (Nat × AV)), σ'.h[id]? = some p → p.2 = .frame k m → ∃ q, σ.h[id]? = some q ∧ q.2 = .frame k m := by
  induction h with
  | nil σ => exact fun id p k m hp hk => ⟨p, hp, hk⟩
  | cons hg _ ih =>
    intro id p k m hp hk
    obtain ⟨q, hq, hq2⟩ := ih id p k m hp hk
    rw [stepEnv_h, List.getElem?_append] at hq
    split at hq
    · exact ⟨q, hq, hq2⟩
    · exact absurd hq2 (hg.nf q (List.mem_of_getElem? hq) k m)
theorem Trace.frE {ops l : List Oper} {σ σ' : Env} {es : List En} (h : Trace P C w0 ok0 ops l σ es σ') : Fr σ σ' := by
  induction h with
  | nil σ => exact Fr.refl σ
  | cons hg ht ih => exact (Fr.stepEnv _ _ _).trans ih
theorem Trace.len {ops l : List Oper} {σ σ' : Env} {es : List En} (h : Trace P C w0 ok0 ops l σ es σ') : es.length = l.length := by
  induction h with
  | nil σ => rfl
  | cons hg ht ih => simp [ih]
theorem exp_step {l : List Oper} {o : Oper} {e : En} {es : List En} {σ : Env} (hd : dstsOk (o :: l) = true) (L : Nat → Bool) (h0 : L 0 = true) (t : Nat) (hlt : t < σ.t.length) :
    expAV (o :: l) (e :: es) σ L t = expAV l es (stepEnv σ o e) (fun j => L (j + 1)) t := by
  simp only [dstsOk, Bool.and_eq_true] at hd
  unfold expAV
  rw [dstOf_cons, stepEnv_t]
  by_cases h : o.dst = some t
  · rw [if_pos h, if_pos ⟨h, hlt⟩]
    have h1 := hd.1
    rw [h] at h1
    simp only [Option.isNone_iff_eq_none] at h1
    simp [h0, h1]
  · rw [if_neg h, if_neg (fun x => h x.1)]
    cases hk : dstOf l 0 t with
    | none => simp
    | some k => simp
theorem exp_none {l : List Oper} {es : List En} {σ : Env} (L : Nat → Bool) (h : ∀ j, L j = false) (t : Nat) : expAV l es σ L t = (nth σ.t t (0, .one .bad)).2 := by
  unfold expAV
  split
  · rw [h]; rfl
  · rfl
theorem Trace.last {ops l : List Oper} {σ σ' : Env} {es : List En} (h : Trace P C w0 ok0 ops l σ es σ') : dstsOk l = true → ∀ t, t < σ.t.length → (nth σ'.t t (0, .one .bad)).2 = expAV l es σ (fun _ => true) t := by
  induction h with
  | nil σ => intro _ t _; rfl
  | @cons o l σ σ' e es hg ht ih =>
    intro hd t hlt
    rw [exp_step hd _ rfl t hlt]
    simp only [dstsOk, Bool.and_eq_true] at hd
    exact ih hd.2 t (by rw [stepEnv_len]; exact hlt)
theorem Trace.at {ops l : List Oper} {σ σ' : Env} {es : List En} (h : Trace P C w0 ok0 ops l σ es σ') : dstsOk l = true → ∀ (k : Nat) (o : Oper), l[k]? = some o →
    ∃ σk e, es[k]? = some e ∧ GoodE P C w0 ok0 ops σk o e ∧ σk.t.length = σ.t.length ∧ σk.h.length = offs σ es k ∧ Pfx (σk.h ++ e.2) σ'.h ∧
      ∀ t, t < σ.t.length → (nth σk.t t (0, .one .bad)).2 = expAV l es σ (fun j => decide (j < k)) t := by
  induction h with
  | nil σ => intro _ k o h; simp at h
  | @cons o' l σ σ' e es hg ht ih =>
    intro hd k o ho
    cases k with
    | zero =>
      simp only [List.getElem?_cons_zero, Option.some.injEq] at ho
      subst ho
      refine ⟨σ, e, rfl, hg, rfl, by simp [offs], ?_, fun t _ => (exp_none _ (by simp) t).symm⟩
      have := ht.pfx
      rwa [stepEnv_h] at this
    | succ k =>
      have hd' := hd
      simp only [dstsOk, Bool.and_eq_true] at hd'
      obtain ⟨σk, e', h1, h2, h3, h4, h5, h6⟩ := ih hd'.2 k o (by simpa using ho)
      refine ⟨σk, e', by simpa using h1, h2, by rw [h3, stepEnv_len], by rw [h4, offs_cons σ o' e es k], h5, fun t ht => ?_⟩
      rw [exp_step hd _ (by simp) t ht, h6 t (by rw [stepEnv_len]; exact ht)]
      simp

theorem ready_eq_iff {ops : Array Oper} {listed : Array Bool} {j : Nat} : j ∈ Region.ready .any ops listed ↔ listed.getD j true = false ∧ ∃ o, ops[j]? = some o ∧ ∀ e ∈ o.after, bindsB e = true → listed.getD e.on false = true := mem_ready

theorem stable_split (ops : List Oper) : ∀ (l : List Oper) (j : Nat), ∃ k, splitAt ops l j = j + k ∧ k ≤ l.length ∧ (l.take k).all stableB = true
  | [], j => ⟨0, rfl, Nat.le_refl _, rfl⟩
  | o :: os, j => by
    unfold splitAt
    cases h : stableB o
    · exact ⟨0, rfl, Nat.zero_le _, rfl⟩
    · obtain ⟨k, h1, h2, h3⟩ := stable_split ops os (j + 1)
      exact ⟨k + 1, by rw [cond_true, h1]; omega, by simp; omega, by simp [h, h3]⟩
theorem ancs_lt {ops : List Oper} (he : ∀ j o, ops[j]? = some o → edgesOk o j = true) : ∀ (n j k : Nat), k ∈ ancs ops n j → k < j
  | 0, _, _, h => by cases h
  | n + 1, j, k, h => by
    unfold ancs at h
    split at h
    · rename_i o ho
      obtain ⟨e, h1, h2⟩ := List.mem_flatMap.1 h
      obtain ⟨h3, h4⟩ := List.mem_filter.1 h1
      have h5 := List.all_eq_true.1 (he j o ho) e h3
      rw [h4] at h5
      have h6 : e.on < j := by simpa [Nat.blt_eq] using h5
      rcases List.mem_cons.1 h2 with rfl | h2
      · exact h6
      · exact Nat.lt_trans (ancs_lt he n e.on k h2) h6
    · cases h
/-- What has come up is closed under what must come up ahead. -/
def Closed (ops : List Oper) (L : Nat → Bool) : Prop := ∀ j o, ops[j]? = some o → L j = true → ∀ e ∈ o.after, bindsB e = true → L e.on = true
theorem ancs_closed {ops : List Oper} {L : Nat → Bool} (hc : Closed ops L) : ∀ (n j k : Nat), k ∈ ancs ops n j → (∀ o, ops[j]? = some o → ∀ e ∈ o.after, bindsB e = true → L e.on = true) → L k = true
  | 0, _, _, h, _ => by cases h
  | n + 1, j, k, h, hj => by
    unfold ancs at h
    split at h
    · rename_i o ho
      obtain ⟨e, h1, h2⟩ := List.mem_flatMap.1 h
      obtain ⟨h3, h4⟩ := List.mem_filter.1 h1
      have h5 := hj o ho e (by simpa using h3) h4
      rcases List.mem_cons.1 h2 with rfl | h2
      · exact h5
      · exact ancs_closed hc n e.on k h2 (fun o' ho' => hc _ o' ho' h5)
    · cases h
theorem count_lt {f g : Nat → Bool} {i : Nat} : ∀ n, i < n → f i = true → g i = false → (∀ j, j ≠ i → g j = f j) → (List.range n).countP g + 1 = (List.range n).countP f
  | 0, h, _, _, _ => by omega
  | n + 1, h, hf, hg, he => by
    rw [List.range_succ, List.countP_append, List.countP_append]
    by_cases hi : i = n
    · subst hi
      have : (List.range i).countP g = (List.range i).countP f := List.countP_congr (fun x hx => by rw [he x (by have := List.mem_range.1 hx; omega)])
      simp [this, hf, hg]
    · have := count_lt n (by omega) hf hg he
      simp only [List.countP_singleton, he n (Ne.symm hi)]
      omega
theorem wpAny_of_seq {ops : Array Oper} {Q : Exit → Act → World → Prop} {s : Nat} (hu : ∀ i (listed : Array Bool), s ≤ i → listed.size = ops.size → (∀ j, listed.getD j true = false ↔ i ≤ j ∧ j < ops.size) → ∀ j, j ∈ Region.ready .any ops listed ↔ j = i ∧ i < ops.size) : ∀ (n i : Nat) (listed : Array Bool) (a : Act) (w : World), s ≤ i → i + n = ops.size → listed.size = ops.size →
    (∀ j, listed.getD j true = false ↔ i ≤ j ∧ j < ops.size) → wpOps P ops Q (List.range' i n) a w → wpAny P .any ops Q n listed a w
  | 0, i, listed, a, w, hsi, hn, _, hl, h => by
    refine ⟨?_, h⟩
    apply List.eq_nil_iff_forall_not_mem.2
    intro j hj
    have := ((hu i listed hsi ‹_› hl j).1 hj).2
    omega
  | n + 1, i, listed, a, w, hsi, hn, hs, hl, h => by
    have hr := hu i listed hsi hs hl
    refine ⟨fun he => ?_, fun j hj => ?_⟩
    · have : i ∈ Region.ready .any ops listed := (hr i).2 ⟨rfl, by omega⟩
      rw [he] at this; cases this
    · obtain ⟨rfl, _⟩ := (hr j).1 hj
      rw [List.range'_succ, wpOps_cons] at h
      refine wpOp_mono (fun a' w' h' => wpAny_of_seq hu n (j + 1) _ a' w' (by omega) (by omega) (by simp [hs]) (fun k => ?_) h') h
      by_cases hk : k = j
      · subst hk
        have : (listed.setIfInBounds k true).getD k true = true := by
          rw [Array.getD_eq_getD_getElem?]
          by_cases hlt : k < listed.size
          · simp [hlt]
          · simp [hlt]
        rw [this]
        constructor
        · intro h; cases h
        · intro h; omega
      · rw [getD_set_ne true (Ne.symm hk), hl k]
        constructor <;> intro h <;> constructor <;> omega

/-- While the operations that overwrite nothing come up. -/
structure DrawInv (w0 : World) (ok0 : Nat → Prop) (fr : Nat → Value) (ops : Array Oper) (s : Nat) (es : List En) (σ σp : Env) (listed : Array Bool) (a : Act) (w : World) (G : GM) : Prop where
  size : listed.size = ops.size
  lo : ∀ k, listed.getD k false = true → k < s
  closed : Closed ops.toList (fun k => listed.getD k false)
  dfs : a.defers = []
  len : a.tmps.size = σ.t.length
  st : St w0 ok0 σp.h w G
  frm : FrOk fr σ.h G
  dom : ∀ id gh, G id = some gh → id < σ.h.length ∨ ∃ (k : Nat) (e : En), listed.getD k false = true ∧ es[k]? = some e ∧ offs σ es k ≤ id ∧ id < offs σ es k + e.2.length
  tmp : ∀ (t : Nat) (V : Value), a.tmps[t]? = some V → RV w (imm w0 ok0 w G) G (expAV (ops.toList.take s) es σ (fun k => listed.getD k false) t) V

theorem getD_both {listed : Array Bool} {j : Nat} (h : listed.getD j true = false) : j < listed.size ∧ listed.getD j false = false := by
  by_cases hl : j < listed.size
  · refine ⟨hl, ?_⟩
    simpa [Array.getD_eq_getD_getElem?, hl] using h
  · simp [Array.getD_eq_getD_getElem?, hl] at h
theorem getD_set_self {listed : Array Bool} {i : Nat} (h : i < listed.size) : (listed.setIfInBounds i true).getD i false = true := by
  simp [Array.getD_eq_getD_getElem?, h]
theorem getD_set_false {listed : Array Bool} {i j : Nat} (h : (listed.setIfInBounds i true).getD j false = true) : j = i ∨ listed.getD j false = true := by
  by_cases hij : j = i
  · exact .inl hij
  · rw [getD_set_ne false (Ne.symm hij)] at h; exact .inr h
theorem drawOk_spec {ops : Array Oper} (h : drawOk ops.toList = true) : dstsOk ops.toList = true ∧ ∀ j o, ops.toList[j]? = some o → edgesOk o j = true ∧ looksOk ops.toList j o = true ∧ (splitAt ops.toList ops.toList 0 ≤ j → tailOk ops.toList j = true) := by
  simp only [drawOk, Bool.and_eq_true, List.all_eq_true, List.mem_range] at h
  refine ⟨h.1, fun j o ho => ?_⟩
  have := h.2 j (List.getElem?_eq_some_iff.1 ho).1
  rw [ho] at this
  simp only [Bool.and_eq_true] at this
  refine ⟨this.1.1, this.1.2, fun hj => ?_⟩
  have h3 := this.2
  have : Nat.blt j (splitAt ops.toList ops.toList 0) = false := by
    cases hb : Nat.blt j (splitAt ops.toList ops.toList 0)
    · rfl
    · have : j < splitAt ops.toList ops.toList 0 := by simpa [Nat.blt_eq] using hb
      omega
  rw [this] at h3
  exact h3
theorem dep_spec {o : Oper} {k : Nat} (h : dependsOn o k = true) : ∃ e ∈ o.after, bindsB e = true ∧ e.on = k := by
  simp only [dependsOn, List.any_eq_true, Bool.and_eq_true] at h
  obtain ⟨e, he, h1, h2⟩ := h
  exact ⟨e, by simpa using he, h1, Nat.eq_of_beq_eq_true h2⟩

theorem draw_step {ops : Array Oper} {s : Nat} {es : List En} {σ σp : Env} (hds : dstsOk ops.toList = true) (hall : ∀ j o, ops.toList[j]? = some o → edgesOk o j = true ∧ looksOk ops.toList j o = true) (hs : s ≤ ops.size) (htr : Trace P C w0 ok0 ops.toList (ops.toList.take s) σ es σp)
    {listed : Array Bool} {a : Act} {w : World} {G : GM} (I : DrawInv w0 ok0 fr ops s es σ σp listed a w G) {i : Nat} (hi : i ∈ Region.ready .any ops listed) (his : i < s) {next : Act → World → Prop} {Q : Exit → Act → World → Prop}
    (hn : ∀ a' w' G', DrawInv w0 ok0 fr ops s es σ σp (listed.setIfInBounds i true) a' w' G' → next a' w') : wpOp P ops Q i next a w := by
  obtain ⟨hun, o, ho, hdeps⟩ := ready_eq_iff.1 hi
  have hoL : ops.toList[i]? = some o := by simpa using ho
  obtain ⟨hedge, hlook⟩ := hall i o hoL
  have hsplit : ops.toList = ops.toList.take s ++ ops.toList.drop s := (List.take_append_drop s _).symm
  have hds' : dstsOk (ops.toList.take s) = true := dstsOk_left (by rw [← hsplit]; exact hds)
  have hol : (ops.toList.take s)[i]? = some o := by rw [List.getElem?_take, if_pos his]; exact hoL
  have hll : (ops.toList.take s).length = s := by simp; omega
  obtain ⟨σk, e, hes, hgood, hlen, hh, hpfx, htmp⟩ := htr.at hds' i o hol
  obtain ⟨hilt, hunf⟩ := getD_both hun
  have hset := getD_set_self hilt
  have dep : ∀ k, dependsOn o k = true → listed.getD k false = true ∧ k < i := by
    intro k hk
    obtain ⟨ed, he, hb, rfl⟩ := dep_spec hk
    refine ⟨hdeps ed he hb, ?_⟩
    have := List.all_eq_true.1 hedge ed (by simpa using he)
    rw [hb] at this
    simpa [Nat.blt_eq] using this
  have look : ∀ t, (∀ k, dstOf ops.toList 0 t = some k → dependsOn o k = true ∨ lateOk ops.toList i k = true) → t < σ.t.length → (nth σk.t t (0, .one .bad)).2 = expAV (ops.toList.take s) es σ (fun k => listed.getD k false) t := by
    intro t hk ht
    rw [htmp t ht]
    unfold expAV
    cases hd : dstOf (ops.toList.take s) 0 t with
    | none => rfl
    | some k =>
      rcases hk k (by rw [hsplit]; exact dstOf_left hd) with hk | hk
      · obtain ⟨h1, h2⟩ := dep k hk
        simp only [h1, h2, decide_true, if_true]
      · simp only [lateOk, Bool.and_eq_true, Nat.blt_eq] at hk
        obtain ⟨h1, h2⟩ := hk
        have h3 : listed.getD k false = false := by
          cases hc : listed.getD k false with
          | false => rfl
          | true =>
            cases hok' : ops.toList[k]? with
            | none => rw [hok'] at h2; cases h2
            | some ok' =>
              rw [hok'] at h2
              obtain ⟨ed, he, hb, hon⟩ := dep_spec h2
              have := I.closed k ok' hok' hc ed he hb
              dsimp only at this
              rw [hon, hunf] at this; cases this
        have h4 : ¬ k < i := by omega
        simp only [h3, h4, decide_false, Bool.false_eq_true, if_false]
  have rv : ∀ t, (∀ k, dstOf ops.toList 0 t = some k → dependsOn o k = true ∨ lateOk ops.toList i k = true) → ∀ V, a.tmps[t]? = some V → RV w (imm w0 ok0 w G) G (nth σk.t t (0, .one .bad)).2 V := by
    intro t hk V hV
    rw [look t hk (by rw [← I.len]; exact (Array.getElem?_eq_some_iff.1 hV).1)]
    exact I.tmp t V hV
  have opnd : ∀ x ∈ o.op.operands, RV w (imm w0 ok0 w G) G (σk.ev x) (a.eval x) := by
    intro x hx
    simp only [looksOk, Bool.and_eq_true, List.all_eq_true] at hlook
    have h1 := hlook.1 x (by simpa using hx)
    cases x with
    | const v => exact RV_const _ _ _ v
    | global g => exact rfl
    | func f => exact ⟨[], rfl, rfl⟩
    | tmp t =>
      simp only [Env.ev, Act.eval]
      by_cases ht : t < σ.t.length
      · have hlt : t < a.tmps.size := by rw [I.len]; exact ht
        rw [Array.getD_eq_getD_getElem?, Array.getElem?_eq_getElem hlt]
        exact rv t (fun k hk => by simp only [hk, Bool.or_eq_true] at h1; exact h1) _ (Array.getElem?_eq_getElem hlt)
      · rw [nth_eq, List.getElem?_eq_none (by rw [hlen]; exact Nat.le_of_not_lt ht)]; exact trivial
  have fresh : ∀ id, σk.h.length ≤ id → id < σk.h.length + e.2.length → G id = none := by
    intro id h1 h2
    cases hg : G id with
    | none => rfl
    | some gh =>
      exfalso
      rw [hh] at h1 h2
      rcases I.dom id gh hg with h3 | ⟨k, e', h3, h4, h5, h6⟩
      · have : σ.h.length ≤ offs σ es i := Nat.le_add_right _ _
        omega
      · rcases Nat.lt_trichotomy k i with h7 | h7 | h7
        · have := offs_le σ es k e' h4 i h7; omega
        · subst h7; rw [hunf] at h3; cases h3
        · have := offs_le σ es i e hes k h7; omega
  -- one slot is laid
  have slot : ∀ {w' : World} {G' : GM} {V : Value}, Later w G w' G' → RV w' (imm w0 ok0 w' G') G' e.1 V → ∀ (t : Nat) (U : Value), (a.put o.dst V).tmps[t]? = some U → RV w' (imm w0 ok0 w' G') G' (expAV (ops.toList.take s) es σ (fun k => (listed.setIfInBounds i true).getD k false) t) U := by
    intro w' G' V hl hV t U hU
    have keep : o.dst ≠ some t → a.tmps[t]? = some U → RV w' (imm w0 ok0 w' G') G' (expAV (ops.toList.take s) es σ (fun k => (listed.setIfInBounds i true).getD k false) t) U := by
      intro hne hU
      have : expAV (ops.toList.take s) es σ (fun k => (listed.setIfInBounds i true).getD k false) t = expAV (ops.toList.take s) es σ (fun k => listed.getD k false) t := by
        unfold expAV
        cases hd : dstOf (ops.toList.take s) 0 t with
        | none => rfl
        | some k =>
          have hki : k ≠ i := by
            rintro rfl
            obtain ⟨o', ho', hd'⟩ := dstOf_spec _ t k hd
            rw [hol] at ho'
            cases ho'
            exact hne hd'
          simp only [getD_set_ne false (Ne.symm hki)]
      rw [this]
      exact (I.tmp t U hU).later hl
    cases hd : o.dst with
    | none =>
      rw [hd] at hU
      exact keep (by rw [hd]; simp) hU
    | some d =>
      rw [hd] at hU
      simp only [Act.put, Array.getElem?_setIfInBounds] at hU
      by_cases hdt : d = t
      · subst hdt
        rw [if_pos rfl] at hU
        split at hU
        · cases hU
          have h1 : dstOf (ops.toList.take s) 0 d = some i := dstOf_all _ hds' i d o hol hd
          unfold expAV
          rw [h1]
          simp only [hset, if_true]
          rw [List.getD_eq_getElem?_getD, List.getElem?_map, hes]
          exact hV
        · cases hU
      · rw [if_neg hdt] at hU
        exact keep (by rw [hd]; simpa using hdt) hU
  have fin : ∀ (V : Value) (w' : World) (G' : GM), St w0 ok0 σp.h w' G' → Later w G w' G' → (∀ id gh, G' id = some gh → G id = some gh ∨ (σk.h.length ≤ id ∧ id < σk.h.length + e.2.length)) → RV w' (imm w0 ok0 w' G') G' e.1 V → next (a.put o.dst V) w' := by
    intro V w' G' hst hl hnew hV
    refine hn _ w' G' ⟨by simp [I.size], fun k hk => ?_, fun j o' hj hLj ed he hb => ?_, ?_, ?_, hst, I.frm.later hl, fun id gh hg => ?_, slot hl hV⟩
    · rcases getD_set_false hk with rfl | h
      · exact his
      · exact I.lo k h
    · rcases getD_set_false hLj with rfl | h
      · rw [hoL] at hj
        cases hj
        exact getD_set_true (hdeps ed he hb)
      · exact getD_set_true (I.closed j o' hj h ed he hb)
    · cases hd : o.dst <;> exact I.dfs
    · cases hd : o.dst with
      | none => exact I.len
      | some d => simp [Act.put, I.len]
    · rcases hnew id gh hg with h | ⟨h1, h2⟩
      · rcases I.dom id gh h with h | ⟨k, e', h3, h4, h5, h6⟩
        · exact .inl h
        · exact .inr ⟨k, e', getD_set_true h3, h4, h5, h6⟩
      · rw [hh] at h1 h2
        exact .inr ⟨i, e, hset, hes, h1, h2⟩
  have yes : Stable P w0 ok0 σk e.2 o e.1 → Region.wanted o (yielded ops a.tmps) = true → wpOp P ops Q i next a w := by
    intro hst hw
    unfold wpOp
    simp only [ho]
    rw [if_pos hw]
    exact .inl (hst.2 σp.h w G a hpfx I.st opnd fresh next Q fun V w' ⟨G', g1, g2, g3, g4⟩ => fin V w' G' g1 g2 g3 g4)
  have no : e = (.one .und, []) → Region.wanted o (yielded ops a.tmps) = false → wpOp P ops Q i next a w := by
    intro he hw
    unfold wpOp
    simp only [ho]
    rw [if_neg (by rw [hw]; simp)]
    exact fin undef w G I.st (Later.refl w G) (fun id gh h => .inl h) (by rw [he]; exact rfl)
  rcases hgood with ⟨hg, hst, _⟩ | ⟨j, want, d, hg, hd, hcase⟩
  · exact yes hst (by simp [Region.wanted, hg])
  · have hval : ∀ c : AC, (nth σk.t d (0, .one .bad)).2 = .one c → c ≠ .bad → ∃ V, a.tmps[d]? = some V ∧ RC w (imm w0 ok0 w G) G c V := by
      intro c hc hne
      have hlt : d < σ.t.length := by
        by_cases h : d < σ.t.length
        · exact h
        · rw [nth_eq, List.getElem?_eq_none (by rw [hlen]; exact Nat.le_of_not_lt h)] at hc
          simp at hc
          exact absurd hc.symm hne
      have hlt' : d < a.tmps.size := by rw [I.len]; exact hlt
      refine ⟨_, Array.getElem?_eq_getElem hlt', ?_⟩
      have := rv d (fun k hk => ?_) _ (Array.getElem?_eq_getElem hlt')
      · rw [hc] at this; exact this
      · have hj : dependsOn o j = true := by
          simp only [looksOk, Bool.and_eq_true, hg] at hlook
          exact hlook.2
        have : dstOf ops.toList 0 d = some j := by
          unfold guardTmp at hd
          split at hd
          · rename_i oj hoj
            exact dstOf_all _ hds j d oj hoj hd
          · cases hd
        rw [this] at hk
        cases hk
        exact .inl hj
    rcases hcase with ⟨hb, hst⟩ | ⟨hb | hu, he⟩
    · obtain ⟨V, hV, hr⟩ := hval _ hb (by simp)
      obtain rfl : V = .bool want := hr
      exact yes hst (by simp only [Region.wanted, hg, yielded_of hd, hV]; cases want <;> rfl)
    · obtain ⟨V, hV, hr⟩ := hval _ hb (by simp)
      obtain rfl : V = .bool (!want) := hr
      exact no he (by simp only [Region.wanted, hg, yielded_of hd, hV]; cases want <;> rfl)
    · obtain ⟨V, hV, hr⟩ := hval _ hu (by simp)
      obtain rfl : V = undef := hr
      exact no he (by simp [Region.wanted, hg, yielded_of hd, hV, undef])

theorem draw_all {ops : Array Oper} {s : Nat} {es : List En} {σ σp : Env} (hok : drawOk ops.toList = true) (hs : s ≤ ops.size) (hsp : splitAt ops.toList ops.toList 0 = s) (htr : Trace P C w0 ok0 ops.toList (ops.toList.take s) σ es σp)
    {Q : Exit → Act → World → Prop} (hQ : ∀ a w G, Rel w0 ok0 fr σp a w G → wpOps P ops Q (List.range' s (ops.size - s)) a w) :
    ∀ (m : Nat) (listed : Array Bool) (a : Act) (w : World) (G : GM), (List.range s).countP (fun k => listed.getD k true == false) = m → DrawInv w0 ok0 fr ops s es σ σp listed a w G → wpAny P .any ops Q (m + (ops.size - s)) listed a w := by
  obtain ⟨hds, hall⟩ := drawOk_spec hok
  have hsplit : ops.toList = ops.toList.take s ++ ops.toList.drop s := (List.take_append_drop s _).symm
  have hds' : dstsOk (ops.toList.take s) = true := dstsOk_left (by rw [← hsplit]; exact hds)
  have hll : (ops.toList.take s).length = s := by simp; omega
  have tail : ∀ (listed : Array Bool) (j : Nat), Closed ops.toList (fun k => listed.getD k false) → s ≤ j → j ∈ Region.ready .any ops listed → ∀ k, k < j → listed.getD k false = true := by
    intro listed j hc hj hr k hk
    obtain ⟨_, o, ho, hdeps⟩ := ready_eq_iff.1 hr
    have hoL : ops.toList[j]? = some o := by simpa using ho
    have := (hall j o hoL).2.2 (by rw [hsp]; exact hj)
    simp only [tailOk, List.all_eq_true, List.mem_range] at this
    have h1 := this k hk
    rw [List.contains_iff_mem] at h1
    exact ancs_closed hc j j k h1 (fun o' ho' => by rw [hoL] at ho'; cases ho'; exact hdeps)
  intro m
  induction m with
  | zero =>
    intro listed a w G hm I
    have hlist : ∀ k, k < s → listed.getD k true = true := by
      intro k hk
      have := List.countP_eq_zero.1 hm k (List.mem_range.2 hk)
      simpa using this
    have hfn : ∀ k, k < s → listed.getD k false = true := by
      intro k hk
      have h1 := hlist k hk
      have : k < listed.size := by rw [I.size]; omega
      simpa [Array.getD_eq_getD_getElem?, this] using h1
    have hlst : ∀ j, listed.getD j true = false ↔ s ≤ j ∧ j < ops.size := by
      intro j
      constructor
      · intro h
        obtain ⟨h1, h2⟩ := getD_both h
        refine ⟨?_, by rw [← I.size]; exact h1⟩
        rcases Nat.lt_or_ge j s with h3 | h3
        · rw [hfn j h3] at h2; cases h2
        · exact h3
      · rintro ⟨h1, h2⟩
        have h3 : j < listed.size := by rw [I.size]; exact h2
        have : listed.getD j false = false := by
          cases hb : listed.getD j false
          · rfl
          · have := I.lo j hb; omega
        simpa [Array.getD_eq_getD_getElem?, h3] using this
    have hrel : Rel w0 ok0 fr σp a w G := by
      refine ⟨by rw [htr.frE.tl, I.len], fun t p V hp hV => ?_, I.dfs, I.st, fun id p k l hp hk => by
        obtain ⟨q, hq, hq2⟩ := htr.frames id p k l hp hk
        exact I.frm id q k l hq hq2⟩
      have ht : t < σ.t.length := by rw [← I.len]; exact (Array.getElem?_eq_some_iff.1 hV).1
      have h1 := htr.last hds' t ht
      rw [nth_eq, hp, Option.getD_some] at h1
      rw [h1]
      have := I.tmp t V hV
      have e : expAV (ops.toList.take s) es σ (fun k => listed.getD k false) t = expAV (ops.toList.take s) es σ (fun _ => true) t := by
        unfold expAV
        cases hd : dstOf (ops.toList.take s) 0 t with
        | none => rfl
        | some k =>
          obtain ⟨o, ho, _⟩ := dstOf_spec _ t k hd
          have hk : k < s := by rw [← hll]; exact (List.getElem?_eq_some_iff.1 ho).1
          simp only [hfn k hk]
      rw [← e]; exact this
    rw [Nat.zero_add]
    refine wpAny_of_seq (s := s) (fun i listed' hsi hsz hl j => ?_) (ops.size - s) s listed a w (Nat.le_refl _) (by omega) I.size hlst (hQ a w G hrel)
    have hsm : ∀ k, k < i → k < ops.size → listed'.getD k false = true := by
      intro k h1 h2
      have h3 : listed'.getD k true = true := by
        cases hb : listed'.getD k true
        · have := ((hl k).1 hb).1; omega
        · rfl
      have h4 : k < listed'.size := by rw [hsz]; exact h2
      simpa [Array.getD_eq_getD_getElem?, h4] using h3
    constructor
    · intro hj
      have h1 := (ready_eq_iff.1 hj).1
      obtain ⟨h2, h3⟩ := (hl j).1 h1
      refine ⟨?_, by omega⟩
      rcases Nat.lt_or_ge i j with h4 | h4
      · exfalso
        have hc : Closed ops.toList (fun k => listed'.getD k false) := by
          intro j' o' hj' hL e he hb
          have hj's : j' < i := by
            rcases Nat.lt_or_ge j' i with h | h
            · exact h
            · exfalso
              have h5 : j' < ops.size := by simpa using (List.getElem?_eq_some_iff.1 hj').1
              have := (getD_both ((hl j').2 ⟨h, h5⟩)).2
              dsimp only at hL
              rw [this] at hL; cases hL
          have h6 := List.all_eq_true.1 (hall j' o' hj').1 e (by simpa using he)
          rw [hb] at h6
          have h7 : e.on < j' := by simpa [Nat.blt_eq] using h6
          exact hsm _ (by omega) (by omega)
        have h5 := tail listed' j hc (by omega) hj i h4
        have := (getD_both ((hl i).2 ⟨Nat.le_refl _, by omega⟩)).2
        rw [this] at h5; cases h5
      · omega
    · rintro ⟨rfl, h⟩
      have hko : ops[j]? = some ops[j] := Array.getElem?_eq_getElem h
      refine ready_eq_iff.2 ⟨(hl j).2 ⟨Nat.le_refl _, h⟩, _, hko, fun e he hb => ?_⟩
      have h1 := List.all_eq_true.1 (hall j _ (by rw [Array.getElem?_toList]; exact hko)).1 e (by simpa using he)
      rw [hb] at h1
      have h2 : e.on < j := by simpa [Nat.blt_eq] using h1
      exact hsm _ h2 (by omega)
  | succ m ih =>
    intro listed a w G hm I
    obtain ⟨k0, hk0, hk0'⟩ : ∃ k, k < s ∧ listed.getD k true = false := by
      have : 0 < (List.range s).countP (fun k => listed.getD k true == false) := by omega
      obtain ⟨k, h1, h2⟩ := List.countP_pos_iff.1 this
      exact ⟨k, List.mem_range.1 h1, by simpa using h2⟩
    -- the least that has not come up may come up
    have hleast : ∀ k, k < s → listed.getD k true = false → Region.ready .any ops listed ≠ [] := by
      intro k
      induction k using Nat.strongRecOn with
      | ind k ihk =>
        intro hks hkl
        by_cases hex : ∃ k', k' < k ∧ listed.getD k' true = false
        · obtain ⟨k', h1, h2⟩ := hex
          exact ihk k' h1 (by omega) h2
        · have hko : ops[k]? = some ops[k] := Array.getElem?_eq_getElem (by omega)
          have : k ∈ Region.ready .any ops listed := ready_eq_iff.2 ⟨hkl, _, hko, fun e he hb => by
            have h1 := List.all_eq_true.1 (hall k _ (by rw [Array.getElem?_toList]; exact hko)).1 e (by simpa using he)
            rw [hb] at h1
            have h2 : e.on < k := by simpa [Nat.blt_eq] using h1
            have h3 : listed.getD e.on true = true := by
              cases h : listed.getD e.on true
              · exact absurd ⟨e.on, h2, h⟩ hex
              · rfl
            have h4 : e.on < listed.size := by rw [I.size]; omega
            simpa [Array.getD_eq_getD_getElem?, h4] using h3⟩
          intro he
          rw [he] at this
          cases this
    rw [show m + 1 + (ops.size - s) = (m + (ops.size - s)) + 1 by omega]
    refine ⟨fun he => absurd he (hleast k0 hk0 hk0'), fun i hi => ?_⟩
    have his : i < s := by
      rcases Nat.lt_or_ge i s with h | h
      · exact h
      · have := tail listed i I.closed h hi k0 (by omega)
        obtain ⟨_, h2⟩ := getD_both hk0'
        rw [this] at h2; cases h2
    refine draw_step hds (fun j o h => ⟨(hall j o h).1, (hall j o h).2.1⟩) hs htr I hi his fun a' w' G' I' => ih _ a' w' G' ?_ I'
    have hiun := (ready_eq_iff.1 hi).1
    have hisz := (getD_both hiun).1
    have := count_lt (f := fun k => listed.getD k true == false) (g := fun k => (listed.setIfInBounds i true).getD k true == false) s his (by simp [hiun]) (by simp [Array.getD_eq_getD_getElem?, hisz]) (fun j hj => by simp only [getD_set_ne true (Ne.symm hj)])
    omega

theorem Rel.later {σ : Env} {a : Act} {w w' : World} {G : GM} (hR : Rel w0 ok0 fr σ a w G) (h : Ext w w') : Rel w0 ok0 fr σ a w' G := by
  have hl := Later.of_ext G h
  refine ⟨hR.len, fun i p v hp hv => (hR.tmp i p v hp hv).later hl, hR.dfs, hR.st.later hl (fun id p gh hp _ => ⟨p, hp, rfl⟩) (fun id gh hg => .inl hg) (fun id id' gh gh' b h1 h2 h3 h4 h5 => ?_) (fun id gh b hg hb => Nat.lt_of_lt_of_le (hR.st.low id gh b hg hb).2 h.size), hR.frm.later hl⟩
  exact hR.st.inj id id' gh gh' b h1 h2 h3 h4

/-- Operations in any order that the edges allow. -/
theorem reg_any (hp : Place P C Pre w0 ok0) (hm : P.follows .mixedOrders = true) {ops : Array Oper} (hok : drawOk ops.toList = true) {σ : Env} {K : Env → Option ρ} {r : ρ} (h : regK P C noInl ops.toList ops.toList σ K = some r) :
    ∃ σ', K σ' = some r ∧ Fr σ σ' ∧ ∀ (fr : Nat → Value) (id : Nat) (a : Act) (w : World) (G : GM) (Q : Exit → Act → World → Prop), Rel w0 ok0 fr σ a w G → (∀ a' w' G', Rel w0 ok0 fr σ' a' w' G' → Q .normal a' w') → (Code.region id ops true).wp P Q a w := by
  obtain ⟨s, h1, h2, h3⟩ := stable_split ops.toList ops.toList 0
  rw [Nat.zero_add] at h1
  have hs : s ≤ ops.size := by simpa using h2
  rw [show regK P C noInl ops.toList ops.toList = regK P C noInl ops.toList (ops.toList.take s ++ ops.toList.drop s) by rw [List.take_append_drop]] at h
  obtain ⟨es, σp, ht, hk⟩ := trace_of hp ops.toList _ _ σ K r h3 h
  obtain ⟨σ', g1, g2, g3⟩ := reg_seq hp inlOk_none ops (ops.toList.drop s) s σp K r (fun k => by rw [List.getElem?_drop, Array.getElem?_toList]) hk
  refine ⟨σ', g1, ht.frE.trans g2, fun fr id a w G Q hR hQ => wp_region_any hm ?_⟩
  have hR' : Rel w0 ok0 fr σ a w.drew G := hR.later ((Ext.refl w).drew)
  have hlen : (ops.toList.drop s).length = ops.size - s := by simp
  have I : DrawInv w0 ok0 fr ops s es σ σp (Array.replicate ops.size false) a w.drew G := by
    have hf : ∀ k, (Array.replicate ops.size false).getD k false = false := by
      intro k
      rw [Array.getD_eq_getD_getElem?, Array.getElem?_replicate]
      split <;> rfl
    refine ⟨by simp, fun k hk => ?_, fun j o _ hL => ?_, hR'.dfs, hR'.len.symm, ⟨fun id gh hg => ?_, hR'.st.inj, hR'.st.low, hR'.st.ext⟩, hR'.frm, fun id gh hg => ?_, fun t V hV => ?_⟩
    · rw [hf] at hk; cases hk
    · dsimp only at hL; rw [hf] at hL; cases hL
    · obtain ⟨p, hp, ho⟩ := hR'.st.ob id gh hg
      obtain ⟨p', hp', he⟩ := ht.pfx id p hp
      exact ⟨p', hp', by rw [he]; exact ho⟩
    · obtain ⟨p, hp, ho⟩ := hR'.st.ob id gh hg
      exact .inl (List.getElem?_eq_some_iff.1 hp).1
    · have hlt : t < σ.t.length := by rw [hR'.len]; exact (Array.getElem?_eq_some_iff.1 hV).1
      rw [exp_none _ (fun j => hf j) t, nth_eq, List.getElem?_eq_getElem hlt]
      exact hR'.tmp t _ V (List.getElem?_eq_getElem hlt) hV
  have := draw_all (P := P) hok hs h1 ht (Q := Q) (fun a w G hR => by rw [← hlen]; exact g3 fr a w G Q hR hQ) s (Array.replicate ops.size false) a w.drew G ?_ I
  · rw [show s + (ops.size - s) = ops.size by omega] at this
    exact this
  · have : (List.range s).countP (fun k => (Array.replicate ops.size false).getD k true == false) = (List.range s).length := by
      rw [List.countP_eq_length]
      intro k hk
      have hk' : k < ops.size := by have := List.mem_range.1 hk; omega
      simp [Array.getD_eq_getD_getElem?, Array.getElem?_replicate, hk']
    simpa using this
end
end Go.Proofs.YtbdokiecpmhjmaaGreatDoor
